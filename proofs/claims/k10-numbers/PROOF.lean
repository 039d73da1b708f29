import PyProof.Rows.All
import Wide.All
import OpenK.AllK
import Wide.FinOn
import Lean
import HandS.ForMost
import HandS.ForExc
import HandS.Codes
import HandS.Defaults
import HandS.HeadHook1
import HandS.HeadHook2
import HandS.Property
import HandS.ClsMeth
import KE.GoesEnum
import PyProof.SumWalkG
import PyProof.WalksMore
import HandS.Wide
import HandS.Iter
import HandS.TupAny
import HandS.TupMul
import HandS.Style
import HandS.NoneIn
import HandS.Conv
import HandS.Zip
import HandS.IsInst
import HandS.RevRange
import HandS.Star
import KE.KDflt
import HandS.Lambda
import HandS.Nested
import HandS.CallSlots
import HandS.EndTab
import HandS.HeadHook4
import HandS.ExcOwn
import HandS.ExcField
import HandS.TryOnly
import HandS.ExcInit
import HandS.MakeKwOnly
import HandS.ExcIs
import HandS.TryMany
import HandS.Head0
import HandS.Head1
import HandS.Head2
import HandS.HeadEnd
import PyProof.MaxThree
import PySem.Challenge.RW_staleloaves_k10_numbers_out_of_range
set_option Elab.async false
set_option linter.all false
set_option maxRecDepth 100000
set_option maxHeartbeats 4000000
section
set_option maxRecDepth 100000
set_option maxHeartbeats 4000000
/-! XHook: the head's facts by a list of Bool functions and of function objects found by paths. -/
namespace G57
open PySem PySem.Spec PyProof.Rows L2
/-! ### functions found by paths -/
structure DefA where
  path : PySem.W.Frag → Addr
  name : Str
  qual : Str
  params : Arguments
  body : List Stmt
  scope : Scope
  dfl : List He.Dv := []
  kwd : List (Str × He.Dv) := []
def fnA (K : PySem.W.Frag) (p : PySem.W.Frag → Addr) : He.FnW :=
  match K.lookup (p K) with
  | some ⟨_, _, .func q, _⟩ => some (q.name, q.qualname, q.params, q.body, q.scope, q.globals, q.closure, q.builtins)
  | _ => none
def DefA.val (d : DefA) : He.FnW := some (d.name, d.qual, d.params, .stmts d.body, d.scope, mainGlobals, [], builtinsNs)
def DefA.dvs (K : PySem.W.Frag) (d : DefA) : List V := d.dfl.map (He.Dv.v K)
def DefA.kws (K : PySem.W.Frag) (d : DefA) : List (Str × V) := d.kwd.map fun z => (z.1, z.2.v K)
def DefA.ok (K : PySem.W.Frag) (d : DefA) : Bool :=
  PySem.W.keepIn K (.ref (d.path K)) && (match K.lookup (d.path K) with
  | some ⟨_, _, .func q, _⟩ => PySem.W.codeIn K q.code d.qual && (He.dflB K q.defaults (d.dvs K) && He.kwdB K q.kwdefaults (d.kws K))
  | _ => false)
abbrev DefA.Fn (K : PySem.W.Frag) (d : DefA) (fd : FuncData) : Prop := FunD K d.name d.qual d.params d.body d.scope (d.dvs K) (d.kws K) (d.path K) fd
theorem DefA.funD {K : PySem.W.Frag} {d : DefA} (e : fnA K d.path = d.val) (c : d.ok K = true) : ∃ fd, d.Fn K fd := by
  obtain ⟨kp, c2⟩ := He.ba c
  unfold fnA at e
  cases q : K.lookup (d.path K) with
  | none =>
    rw [q] at c2
    cases c2
  | some o =>
    obtain ⟨oc, od, dt, osl⟩ := o
    rw [q] at c2 e
    cases dt with
    | func fd =>
      obtain ⟨m1, m2, m3, m4, m5, m6, m7, m8, m9, m10, m11, m12, m13, m14, m15⟩ := fd
      have e2 : (some (m1, m2, m3, m4, m5, m6, m7, m15) : He.FnW) = d.val := e
      unfold DefA.val at e2
      simp only [Option.some.injEq, Prod.mk.injEq] at e2
      obtain ⟨z1, z2, z3, z4, z5, z6, z7, z8⟩ := e2
      subst z1 z2 z3 z4 z5 z6 z7 z8
      have c3 : (PySem.W.codeIn K m13 d.qual && (He.dflB K m8 (d.dvs K) && He.kwdB K m9 (d.kws K))) = true := c2
      obtain ⟨y1, y2⟩ := He.ba c3
      obtain ⟨y3, y4⟩ := He.ba y2
      exact ⟨_, ⟨oc, od, m8, m9, m10, m11, m12, m13, m14, osl, rfl, q, y1, He.dflB_ok y3, He.kwdB_ok y4⟩, kp⟩
    | _ => cases c2
/-! ### the Hook -/
abbrev Ex : Type := PySem.W.Frag → Bool
abbrev AlA : Type := Bool × List He.FnW
def obsA (ex : List Ex) (fn : List DefA) (K : PySem.W.Frag) : AlA :=
  ((ex.all fun z => z K) && fn.all fun d => d.ok K, fn.map fun d => fnA K d.path)
def valA (fn : List DefA) : AlA := (true, fn.map DefA.val)
def SaysA (ex : List Ex) (fn : List DefA) (K : PySem.W.Frag) : Prop := obsA ex fn K = valA fn
/-- what the module's names, and the interpreter's own table, reach in n steps -/
def asA (g : Addr → Option Obj) : Nat → List Addr
  | 0 => [mainGlobals, cStatics]
  | n + 1 => He.growD g (asA g n)
def obsAG (n : Nat) (ex : List Ex) (fn : List DefA) (g : Addr → Option Obj) : AlA := obsA ex fn (He.frG g (asA g n))
def hookA (n : Nat) (ex : List Ex) (fn : List DefA) : PySem.W.Hook where
  α := AlA
  obs := fun s => obsAG n ex fn s.heap.get?
  val := fun _ => valA fn
  says := fun _ h => ∃ K : PySem.W.Frag, K.In h ∧ SaysA ex fn K
  of := fun _ _ e => ⟨_, He.frG_in, e⟩
  keeps := fun _ _ _ z k => let ⟨K, hK, c⟩ := z; ⟨K, PySem.W.Frag.In.keeps hK k, c⟩
theorem obsAG_eq {n : Nat} {ex : List Ex} {fn : List DefA} {g : Addr → Option Obj} {s : Shared} (h : ∀ a, g a = s.heap.get? a) :
    obsAG n ex fn g = (hookA n ex fn).obs s := by
  have e : g = s.heap.get? := funext h
  rw [e]
  rfl
section
variable {ex : List Ex} {fn : List DefA} {K : PySem.W.Frag}
theorem SaysA.fact (c : SaysA ex fn K) (i : Nat) {f : Ex} (h : ex[i]? = some f := by rfl) : f K = true := by
  have c0 : ((ex.all fun z => z K) && fn.all fun d => d.ok K) = true := congrArg (fun z : AlA => z.1) c
  exact List.all_eq_true.mp (He.ba c0).1 f (List.mem_of_getElem? h)
theorem SaysA.fn_ (c : SaysA ex fn K) (i : Nat) {d : DefA} (h : fn[i]? = some d := by rfl) : ∃ fd, d.Fn K fd := by
  have c0 : ((ex.all fun z => z K) && fn.all fun d => d.ok K) = true := congrArg (fun z : AlA => z.1) c
  have e : fn.map (fun d => fnA K d.path) = fn.map DefA.val := congrArg (fun z : AlA => z.2) c
  have e2 : (fn.map fun d => fnA K d.path)[i]? = (fn.map DefA.val)[i]? := by rw [e]
  rw [List.getElem?_map, List.getElem?_map, h] at e2
  exact DefA.funD (Option.some.inj e2) (List.all_eq_true.mp (He.ba c0).2 d (List.mem_of_getElem? h))
end
/-! ### paths -/
abbrev pG (x : Str) : PySem.W.Frag → Addr := fun K => He.ga K x
abbrev pM (C m : Str) : PySem.W.Frag → Addr := fun K => He.ma K (He.ga K C) m
/-- a property's object, its getter -/
def prA (K : PySem.W.Frag) (C : Addr) (f : Str) : Addr := match PySem.W.findIn K (.ref C) f with
  | some (some (.ref p)) => p
  | _ => 0
def gtA (K : PySem.W.Frag) (C : Addr) (f : Str) : Addr := match PySem.W.recIn K (prA K C f) "property" with
  | some (.ref g :: _) => g
  | _ => 0
abbrev pP (C f : Str) : PySem.W.Frag → Addr := fun K => gtA K (He.ga K C) f
def propB (C f : Str) : Ex := fun K =>
  He.eqO (PySem.W.findIn K (.ref (He.ga K C)) f) (some (some (.ref (prA K (He.ga K C) f)))) &&
  (He.eqO (PySem.W.specialIn K (.ref (prA K (He.ga K C) f)) "__get__") (some (some (.builtin "property.__get__"))) &&
  (decide (PySem.W.takesIn K (.ref (prA K (He.ga K C) f)) = some true) &&
  (match PySem.W.recIn K (prA K (He.ga K C) f) "property" with
  | some (.ref _ :: _) => true
  | _ => false)))
theorem prop_ok {K : PySem.W.Frag} {C f : Str} (h : propB C f K = true) : PropOf K (He.ga K C) f (prA K (He.ga K C) f) (gtA K (He.ga K C) f) := by
  unfold propB at h
  obtain ⟨z1, h⟩ := He.ba h
  obtain ⟨z2, h⟩ := He.ba h
  obtain ⟨z3, h⟩ := He.ba h
  refine ⟨He.eqO_ok z1, He.eqO_ok z2, of_decide_eq_true z3, ?_⟩
  unfold gtA
  cases q : PySem.W.recIn K (prA K (He.ga K C) f) "property" with
  | none =>
    rw [q] at h
    cases h
  | some l =>
    rw [q] at h
    cases l with
    | nil => cases h
    | cons v r =>
      cases v with
      | ref g => exact ⟨r, rfl⟩
      | _ => cases h
/-! ### a class's constant read off the class -/
def cvalB (C f : Str) (i : Int) : Ex := fun K =>
  PySem.W.readsIn K (He.ga K C) (.type "type") &&
  (He.eqO (PySem.W.specialIn K (.ref (He.ga K C)) "__getattribute__") (some (some (.builtin "type.__getattribute__"))) &&
  (match PySem.W.findCls K (.ref (He.ga K C)) (.type "type") f with
  | some (.val (.int j _)) => decide (j = i)
  | _ => false))
theorem cval_ok {K : PySem.W.Frag} {C f : Str} {i : Int} (h : cvalB C f i K = true) :
    ClX.CRead K (He.ga K C) (.type "type") ∧ ∃ u, ClX.CVal K (He.ga K C) (.type "type") f (.int i) u := by
  unfold cvalB at h
  obtain ⟨z1, h⟩ := He.ba h
  obtain ⟨z2, h⟩ := He.ba h
  refine ⟨⟨z1, He.eqO_ok z2⟩, ?_⟩
  cases q : PySem.W.findCls K (.ref (He.ga K C)) (.type "type") f with
  | none =>
    rw [q] at h
    cases h
  | some r =>
    rw [q] at h
    cases r with
    | val v =>
      cases v with
      | int j t =>
        have ej : j = i := of_decide_eq_true h
        subst ej
        exact ⟨_, q, t, rfl⟩
      | _ => cases h
    | _ => cases h
/-! ### names -/
theorem bb_max : bootBuiltins "max" = some (.builtin "max") := by decide +kernel
theorem bb_min : bootBuiltins "min" = some (.builtin "min") := by decide +kernel
theorem bb_len : bootBuiltins "len" = some (.builtin "len") := by decide +kernel
theorem bb_sum : bootBuiltins "sum" = some (.builtin "sum") := by decide +kernel
theorem bb_any : bootBuiltins "any" = some (.builtin "any") := by decide +kernel
theorem bb_all : bootBuiltins "all" = some (.builtin "all") := by decide +kernel
theorem bb_isinstance : bootBuiltins "isinstance" = some (.builtin "isinstance") := by decide +kernel
theorem bb_int : bootBuiltins "int" = some (.type "int") := by decide +kernel
theorem bb_bool : bootBuiltins "bool" = some (.type "bool") := by decide +kernel
theorem bb_str : bootBuiltins "str" = some (.type "str") := by decide +kernel
theorem bb_list : bootBuiltins "list" = some (.type "list") := by decide +kernel
theorem bb_tuple : bootBuiltins "tuple" = some (.type "tuple") := by decide +kernel
theorem bb_dict : bootBuiltins "dict" = some (.type "dict") := by decide +kernel
theorem bb_set : bootBuiltins "set" = some (.type "set") := by decide +kernel
theorem bb_sorted : bootBuiltins "sorted" = some (.builtin "sorted") := by decide +kernel
theorem bb_zip : bootBuiltins "zip" = some (.type "zip") := by decide +kernel
theorem bb_enumerate : bootBuiltins "enumerate" = some (.type "enumerate") := by decide +kernel
theorem gc_int {mg : Str → Option Value} {x : Str} {i : Int} (h : ∃ t, mg x = some (.int i t)) : ∃ u, mg x = some u ∧ RelV (.int i) u :=
  let ⟨t, e⟩ := h; ⟨_, e, t, rfl⟩
/-! ### callables -/
section
variable {P : Program} {w : World} {K : PySem.W.Frag} {mg : Str → Option Value} {base : Heap}
theorem fun_of {x qual : Str} {pa : Arguments} {bd : List Stmt} {sc : Scope} {kws : List (Str × V)} {f : Addr} {fd : FuncData} (F : FunD K x qual pa bd sc [] kws f fd) :
    ∃ (oc : Value) (od : Option Addr) (kV doc pm : Value) (an : Option Addr) (cdv ct : Value) (osl : Array (Option Value)),
    fd = PySem.W.fnOf x qual pa bd sc .none kV doc pm an cdv ct ∧ K.lookup f = some ⟨oc, od, .func fd, osl⟩ ∧ PySem.W.codeIn K cdv qual = true := by
  obtain ⟨oc, od, dV, kV, doc, pm, an, cdv, ct, osl, e, lk, hcd, hD, _⟩ := F.ex
  rcases hD with ⟨_, rfl⟩ | ⟨h, _⟩
  · exact ⟨oc, od, kV, doc, pm, an, cdv, ct, osl, e, lk, hcd⟩
  · exact absurd rfl h
/-- what a body must show, nothing let out -/
abbrev Body0 (P : Program) (w : World) (K : PySem.W.Frag) (mg : Str → Option Value) (base : Heap) (N : List Str) (qual : Str) (bd : List Stmt) (sc : Scope) (f : Addr) (k : Nat) (sp : Sp) : Prop :=
  ∀ (cdv : Value) (A : Around) (outer : List Env) (s : Shared) (H : Hp) (vs : List V) (Q : VK) (E : XK), Room k (A.deeper (envOfC qual sc s.heap.objs.size f cdv)) → sp vs H Q E →
    ∃ t, PSs (cxOf CX0 P w K mg base N qual sc f cdv A outer s H E).nox bd t ∧ t { nx := fun _ H' => Q .non H', rt := Q } (start N vs) H
theorem fn0_of {x qual : Str} {pa : Arguments} {bd : List Stmt} {sc : Scope} {kws : List (Str × V)} {f : Addr} {fd : FuncData} {N ps : List Str} {k : Nat} {sp : Sp} (F : FunD K x qual pa bd sc [] kws f fd) (S : FnScope N ps sc)
    (len : ∀ vs H Q E, sp vs H Q E → vs.length = ps.length) (hb : Body0 P w K mg base N qual bd sc f k sp) : FnOk P w K mg base CX0 (k + 1) f fd ps sp := by
  obtain ⟨oc, od, kV, doc, pm, an, cdv, ct, osl, rfl, lk, hcd⟩ := fun_of F
  refine fn_of lk hcd S len fun A outer s H vs Q E hr hsp => ?_
  obtain ⟨t, h, q⟩ := hb cdv A outer s H vs Q E hr hsp
  exact ⟨t, h.nox, q⟩
abbrev BindA (x qual : Str) (pa : Arguments) (bd : List Stmt) (sc : Scope) (ps : List Str) : Prop := ∀ (kV doc pm : Value) (an : Option Addr) (cdv ct : Value) (us : List Value), us.length = ps.length → bindArgs (PySem.W.fnOf x qual pa bd sc .none kV doc pm an cdv ct) ⟨us, []⟩ = pure (ps.zip us)
/-- a def of the module -/
theorem cal_of {d : DefA} {x : Str} {N ps : List Str} {k : Nat} {sp : Sp} (F : ∃ fd, d.Fn K fd) (hp : d.path = pG x) (hd : d.dfl = []) (hm : mg x = some (.ref (He.ga K x))) (S : FnScope N ps d.scope)
    (b : BindA d.name d.qual d.params d.body d.scope ps) (len : ∀ vs H Q E, sp vs H Q E → vs.length = ps.length) (hb : Body0 P w K mg base N d.qual d.body d.scope (He.ga K x) k sp) : C8.Cal P w K mg base (k + 1) x sp [] := by
  obtain ⟨fd, F⟩ := F
  have F' : FunD K d.name d.qual d.params d.body d.scope [] (d.kws K) (He.ga K x) fd := by
    have q : FunD K d.name d.qual d.params d.body d.scope (d.dvs K) (d.kws K) (d.path K) fd := F
    unfold DefA.dvs at q
    rw [hd, hp] at q
    exact q
  have Fk := fn0_of (P := P) (w := w) (mg := mg) (base := base) F' S len hb
  obtain ⟨oc, od, kV, doc, pm, an, cdv, ct, osl, rfl, lk, hcd⟩ := fun_of F'
  exact ⟨_, _, ps, [], Fk, hm, F'.kp, .all (b kV doc pm an cdv ct), .nil⟩
/-- a method -/
theorem met_of {d : DefA} {C m : Str} {N ps : List Str} {k : Nat} {sp : Sp} (F : ∃ fd, d.Fn K fd) (hp : d.path = pM C m) (hd : d.dfl = []) (hc : Cls K (He.ga K C)) (hm : Meth K (He.ga K C) m (He.ma K (He.ga K C) m)) (S : FnScope N ps d.scope)
    (b : BindA d.name d.qual d.params d.body d.scope ps) (len : ∀ vs H Q E, sp vs H Q E → vs.length = ps.length) (hb : Body0 P w K mg base N d.qual d.body d.scope (He.ma K (He.ga K C) m) k sp) : C8.Met P w K mg base (k + 1) (He.ga K C) m sp [] := by
  obtain ⟨fd, F⟩ := F
  have F' : FunD K d.name d.qual d.params d.body d.scope [] (d.kws K) (He.ma K (He.ga K C) m) fd := by
    have q : FunD K d.name d.qual d.params d.body d.scope (d.dvs K) (d.kws K) (d.path K) fd := F
    unfold DefA.dvs at q
    rw [hd, hp] at q
    exact q
  have Fk := fn0_of (P := P) (w := w) (mg := mg) (base := base) F' S len hb
  obtain ⟨oc, od, kV, doc, pm, an, cdv, ct, osl, rfl, lk, hcd⟩ := fun_of F'
  exact ⟨_, _, ps, [], hc, hm, Fk, .all (b kV doc pm an cdv ct), .nil⟩
/-- a class called, by its __init__ -/
theorem mak_of {d : DefA} {C : Str} {N ps : List Str} {k : Nat} {sp : Sp} (F : ∃ fd, d.Fn K fd) (hp : d.path = pM C "__init__") (hd : d.dfl = []) (hm : mg C = some (.ref (He.ga K C))) (M : Mk K (He.ga K C) (He.ma K (He.ga K C) "__init__")) (S : FnScope N ps d.scope)
    (b : BindA d.name d.qual d.params d.body d.scope ps) (len : ∀ vs H Q E, sp vs H Q E → vs.length = ps.length) (hb : Body0 P w K mg base N d.qual d.body d.scope (He.ma K (He.ga K C) "__init__") k sp) : C8.Mak P w K mg base (k + 1) C (He.ga K C) sp [] := by
  obtain ⟨fd, F⟩ := F
  have F' : FunD K d.name d.qual d.params d.body d.scope [] (d.kws K) (He.ma K (He.ga K C) "__init__") fd := by
    have q : FunD K d.name d.qual d.params d.body d.scope (d.dvs K) (d.kws K) (d.path K) fd := F
    unfold DefA.dvs at q
    rw [hd, hp] at q
    exact q
  have Fk := fn0_of (P := P) (w := w) (mg := mg) (base := base) F' S len hb
  obtain ⟨oc, od, kV, doc, pm, an, cdv, ct, osl, rfl, lk, hcd⟩ := fun_of F'
  exact ⟨_, _, ps, [], M, Fk, hm, .all (b kV doc pm an cdv ct), .nil⟩
/-- a property -/
structure Prp (P : Program) (w : World) (K : PySem.W.Frag) (mg : Str → Option Value) (base : Heap) (k : Nat) (C : Addr) (f : Str) (sp : Sp) : Prop where
  ex : ∃ (p g : Addr) (fd : FuncData) (ps : List Str), Cls K C ∧ PropOf K C f p g ∧ FnOk P w K mg base CX0 k g fd ps sp ∧ Binds K fd ps []
theorem prp_of {d : DefA} {C f : Str} {N ps : List Str} {k : Nat} {sp : Sp} (F : ∃ fd, d.Fn K fd) (hp : d.path = pP C f) (hd : d.dfl = []) (hc : Cls K (He.ga K C)) (hm : propB C f K = true) (S : FnScope N ps d.scope)
    (b : BindA d.name d.qual d.params d.body d.scope ps) (len : ∀ vs H Q E, sp vs H Q E → vs.length = ps.length) (hb : Body0 P w K mg base N d.qual d.body d.scope (gtA K (He.ga K C) f) k sp) : Prp P w K mg base (k + 1) (He.ga K C) f sp := by
  obtain ⟨fd, F⟩ := F
  have F' : FunD K d.name d.qual d.params d.body d.scope [] (d.kws K) (gtA K (He.ga K C) f) fd := by
    have q : FunD K d.name d.qual d.params d.body d.scope (d.dvs K) (d.kws K) (d.path K) fd := F
    unfold DefA.dvs at q
    rw [hd, hp] at q
    exact q
  have Fk := fn0_of (P := P) (w := w) (mg := mg) (base := base) F' S len hb
  obtain ⟨oc, od, kV, doc, pm, an, cdv, ct, osl, rfl, lk, hcd⟩ := fun_of F'
  exact ⟨_, _, _, ps, hc, prop_ok hm, Fk, .all (b kV doc pm an cdv ct)⟩
end
section
variable {X : Cx} {k j : Nat} {C : Addr} {f : Str} {sp : Sp} {e : Expr} {pos : Pos} {ta : TE}
theorem pe_pr (c : Prp X.prog X.w X.K X.mg X.base k C f sp) (hr : Room j X.A) (hk : k + 1 ≤ j) (he : PE X e ta) (hab : attributeBase e f X.env (eval e X.env) = eval e X.env := by rfl) :
    PE X (.Attribute e f pos) (tProp C sp [] E0 ta) := by
  obtain ⟨p, g, fd, ps, hc, hp, F, b⟩ := c.ex
  exact pe_prop he hc hp F (hr.mono hk) b .nil pass0 hab
end
end G57
end
section
set_option maxRecDepth 100000
set_option maxHeartbeats 4000000
/-! XRules: rules that the layer lacks: named relations for built-ins, int comparisons, sum of a tuple, enumerate of a tuple, xs[i] op= e. -/
namespace G57
open PySem PySem.Spec PyProof.Rows L2
section
variable {X : Cx}
/-! ### named relations -/
def rMx : List V → Hp → VK → Prop := fun xs H Q => ∃ i j, xs = [.int i, .int j] ∧ Q (.int (max i j)) H
theorem cq_max2 (hc : X.calm = true) : CallR X (.builtin "max") rMx := fun pins s σ H xs us Q I r h => by
  obtain ⟨i, j, e, q⟩ := h
  refine call_max2 hc pins s σ H xs us Q I r ⟨i, j, e, ?_⟩
  have z : (if j > i then j else i) = max i j := by
    split <;> omega
  rw [z]
  exact q
def rMn : List V → Hp → VK → Prop := fun xs H Q => ∃ i j, xs = [.int i, .int j] ∧ Q (.int (min i j)) H
theorem cq_min2 (hc : X.calm = true) : CallR X (.builtin "min") rMn := fun pins s σ H xs us Q I r h => by
  obtain ⟨i, j, e, q⟩ := h
  refine call_min2 hc pins s σ H xs us Q I r ⟨i, j, e, ?_⟩
  have z : (if j < i then j else i) = min i j := by
    split <;> omega
  rw [z]
  exact q
def rInt : List V → Hp → VK → Prop := fun xs H Q => (∃ i, xs = [.int i] ∧ Q (.int i) H) ∨ ∃ k, xs = [.bl k] ∧ Q (.int (if k then 1 else 0)) H
theorem cq_int : CallR X (.type "int") rInt := call_int1
def rLenQ (K : PySem.W.Frag) : List V → Hp → VK → Prop := fun xs H Q => ∃ p ys, xs = [.ref p] ∧ (SqL K H p ys ∨ SqT K H p ys) ∧ Q (.int ys.length) H
theorem cq_len : CallR X (.builtin "len") (rLenQ X.K) := call_len_seq
def rListQ (K : PySem.W.Frag) : List V → Hp → VK → Prop := fun xs H Q => ∃ p ys, xs = [.ref p] ∧ (SqL K H p ys ∨ SqT K H p ys) ∧ ∀ l, H l = none → Q (.ref l) (upd H l (.lst ys))
theorem cq_list : CallR X (.type "list") (rListQ X.K) := call_list_of
def rTupLQ (K : PySem.W.Frag) : List V → Hp → VK → Prop := fun xs H Q => ∃ p ys, xs = [.ref p] ∧ SqL K H p ys ∧ ∀ l, H l = none → Q (.ref l) (upd H l (.tup ys))
theorem cq_tupL : CallR X (.type "tuple") (rTupLQ X.K) := fun pins s σ H xs us Q I r h => by
  obtain ⟨p, ys, e, h1, h2⟩ := h
  exact call_tuple_of pins s σ H xs us Q I r ⟨p, ys, e, .inl ⟨h1, h2⟩⟩
def rTupTQ (K : PySem.W.Frag) : List V → Hp → VK → Prop := fun xs H Q => ∃ p ys, xs = [.ref p] ∧ SqT K H p ys ∧ Q (.ref p) H
theorem cq_tupT : CallR X (.type "tuple") (rTupTQ X.K) := fun pins s σ H xs us Q I r h => by
  obtain ⟨p, ys, e, h1, h2⟩ := h
  exact call_tuple_of pins s σ H xs us Q I r ⟨p, ys, e, .inr ⟨h1, h2⟩⟩
/-! ### comparisons of ints -/
theorem op_eqI : OpR X (compareOp .Eq) (rI0 fun i j => .bl (decide (i = j))) :=
  opB0 fun _ _ _ _ _ _ _ h => PyProof.Rows.eq_int (by rw [Bool.beq_eq_decide_eq]; exact h)
theorem op_neI : OpR X (compareOp .NotEq) (rI0 fun i j => .bl (!decide (i = j))) :=
  opB0 fun _ _ _ _ _ _ _ h => PyProof.Rows.ne_int (by rw [bne, Bool.beq_eq_decide_eq]; exact h)
/-! ### op= -/
theorem ip_mul : PIp X .Mult fun x y H Q => ∃ i j, x = .int i ∧ y = .int j ∧ CMul i j ∧ Q (.int (i * j)) H := fun pins s σ H x y v u Q I rx ry h => iop_mul pins s σ H x y v u Q I rx ry h
def rGetL (K : PySem.W.Frag) : V → V → Hp → VK → Prop := fun o i H Q => ∃ p xs, ∃ j : Nat, ∃ v, o = .ref p ∧ i = .int j ∧ SqL K H p xs ∧ xs[j]? = some v ∧ Q v H
theorem pget_list : PGet X (rGetL X.K) := fun pins s σ H o i ov iv Q I ro ri h => by
  obtain ⟨p, xs, j, v, rfl, rfl, hq, hx, q⟩ := h
  obtain rfl : ov = Value.ref p := ro
  obtain ⟨tk, rfl⟩ := ri
  obtain ⟨its, rv, pl, hz⟩ := I.list hq
  obtain ⟨u, hu, ru⟩ := rv.get hx
  have hj : j < xs.length := (List.getElem?_eq_some_iff.mp hx).1
  have hb : (j : Int) < 2 ^ 63 := by
    have z : sizeLine < 2 ^ 63 := by decide
    omega
  exact wpAny_getItem_list pl.isList (Int.natCast_nonneg j) hb (by simpa using hu) ⟨v, H, I, ru, q⟩
/-! ### sum of a tuple -/
def rSumT (K : PySem.W.Frag) : List V → Hp → VK → Prop := fun vs H Q => ∃ (a : Addr) (ns : List Int), vs = [V.ref a] ∧ SqT K H a (ns.map V.int) ∧ Q (.int ns.sum) H
theorem sum_tup_raw {prog : Program} {w : World} {A : Around} {E : Value → Shared → Prop} {s : Shared} {t : Addr} {its : List Value} {ns : List Int} {Q : Value → Shared → Prop} (hh : A.handled = none) (ht : s.heap.IsTuple t its.toArray) (hi : IntsAre its ns)
    (h : ∀ h' tk t', (∀ b o, s.heap.get? b = some o → h'.get? b = some o) → Q (.int ns.sum t') { s with heap := h', toks := tk }) : wpAny (model prog w) A (call (.builtin "sum") [.ref t]) Q E s := by
  obtain ⟨xs, e⟩ := hi.allInts.items
  have hn : numsOf (intItems xs).toList = ns := by
    rw [← e]
    exact hi.numsOf
  rw [nums_intItems] at hn
  rw [e] at ht
  have hlt : t < s.heap.objs.size := by
    obtain ⟨_, z, _⟩ := ht
    exact Heap.lt_size z
  refine call_sum_walkG (wpAny_pyIter_tuple ht ?_)
  have st : (s.heap.push { cls := .type "tuple_iterator", data := .fields #[.ref t, .int 0 0] }).IsTupleIter s.heap.objs.size t 0 ∧ (s.heap.push { cls := .type "tuple_iterator", data := .fields #[.ref t, .int 0 0] }).IsTuple t (intItems xs) :=
    ⟨⟨_, Heap.get?_push_size _ rfl, rfl, rfl⟩, ht.at fun o z => Heap.get?_push_of_some _ z⟩
  refine ⟨_, _, _, _, _, _, numAt xs, rfl, Walks.tuple (A := A.in1) hh _ t (Nat.ne_of_lt hlt) (intItems xs), st, fun b hb => ?_, (fun _ _ => intItems_at), fun h' tk t' hk => ?_⟩
  · show b < (s.heap.push _).objs.size
    rw [Heap.size_push]
    rcases List.mem_cons.mp hb with rfl | hb
    · exact Nat.lt_succ_self _
    · rcases List.mem_cons.mp hb with rfl | hb
      · exact Nat.lt_succ_of_lt hlt
      · cases hb
  · have z := h h' tk t' fun b o q => hk b o (fun m => by
        rw [List.mem_singleton.mp m] at q
        exact absurd (Heap.lt_size q) (Nat.lt_irrefl _)) (Heap.get?_push_of_some _ q)
    rw [← hn] at z
    have e1 : preSum (numAt xs) (intItems xs).size = ((xs.toList.map (·.1))).sum := by
      have e2 : (intItems xs).size = xs.size := by simp [intItems]
      rw [e2, preSum_eq, List.take_of_length_le (by simp)]
    rw [e1]
    exact z
theorem cr_sumT (hc : X.calm = true) : CallR X (.builtin "sum") (rSumT X.K) := fun pins s σ H xs us Q I r h => by
  obtain ⟨a, ns, rfl, hq, q⟩ := h
  cases r with
  | cons ra rr =>
    cases rr
    cases ra
    obtain ⟨its, rv, ht, hz⟩ := I.tuple hq
    refine sum_tup_raw (I.ok.hd hc) ht (intsAre_of rv) fun h' tk t' hk => ?_
    exact ⟨.int ns.sum, H, I.kept (t' := tk) hk, ⟨_, rfl⟩, q⟩
end
/-! ### rules at a named fragment (inside a comprehension's block) -/
section
variable {X : Cx} {K : PySem.W.Frag}
theorem callK {f : Value} {r : PySem.W.Frag → List V → Hp → VK → Prop} (h : X.K = K) (c : CallR X f (r X.K)) : CallR X f (r K) := h ▸ c
theorem opK {f : Value → Value → Sem Value} {r : PySem.W.Frag → R2} (h : X.K = K) (c : OpR X f (r X.K)) : OpR X f (r K) := h ▸ c
theorem ixK {r : PySem.W.Frag → R2} (h : X.K = K) (c : IxR X (r X.K)) : IxR X (r K) := h ▸ c
theorem slK {r : PySem.W.Frag → V → Option Int → Option Int → Hp → VK → Prop} (h : X.K = K) (c : SlR X (r X.K)) : SlR X (r K) := h ▸ c
theorem pe_fldK {e : Expr} {ta : TE} {f : Str} {pos : Pos} (h : X.K = K) (he : PE X e ta) (hb : attributeBase e f X.env (eval e X.env) = eval e X.env) : PE X (.Attribute e f pos) (tFld K ta f) := h ▸ pe_fld he hb
theorem pg_tupK {es : List Expr} {k : Nat} {t : TGs} {n : Nat} {pos : Pos} (hK : X.K = K) (hc : X.calm = true) (h : PGs X es t) (hn : (assignEach es X.env).length = n := by rfl) (hst : (assignEach es X.env).findIdx? (·.1) = none := by rfl) : PG X (.Tuple es k pos) (gTup K n t) := hK ▸ pg_tup hc h hn hst
theorem pi_listK {tg l : Expr} {tl : TE} (h : X.K = K) (hl : PE X l tl) : PI X tg l (iList K tl) := h ▸ pi_list hl
theorem pi_tupK {tg l : Expr} {tl : TE} (h : X.K = K) (hl : PE X l tl) : PI X tg l (iTup K tl) := h ▸ pi_tup hl
end
/-! ### enumerate of a tuple -/
section
variable {prog : Program} {w : World} {A : Around} {E : Value → Shared → Prop} {s : Shared}
set_option maxHeartbeats 1000000 in
theorem meets_enum_new1 {v : Value} {o : Obj} {J : Heap → Prop} (B : Begins v o J) :
    Meets (Builtin.«enumerate.__new__» ⟨[.type "enumerate", v], []⟩) (fun _ R s => J s.heap ∧
      R (.ok (.ret (.ref (s.heap.push o).objs.size))) { s with heap := (s.heap.push o).push { cls := .type "enumerate", data := .fields #[.none, .bool false, .ref s.heap.objs.size, rawInt 0, .none, .none] } }) :=
  .of_wp fun prog w A R s h => by
    obtain ⟨hp, g, d, tk, os⟩ := s
    obtain ⟨h1, h⟩ := h
    have hsub := sub_enumerate
    have q1 : ∀ {A' : Around} {E : Value → Shared → Prop} {Q : Value → Shared → Prop}, Q (.ref hp.objs.size) ⟨hp.push o, g, d, tk, os⟩ → wpAny (model prog w) A' (pyIter v) Q E ⟨hp, g, d, tk, os⟩ := fun q => B.iter prog w _ _ ⟨hp, g, d, tk, os⟩ _ h1 q
    wp_walk using q1
    refine wpAny_stack_any fun st => wpAny_pure ?_
    split
    · rename_i c _ _ _ _ _
      cases (c == Value.type "enumerate") <;> (wp_walk using q1; exact ⟨_, rfl, h⟩)
    · wp_walk using q1
      exact ⟨_, rfl, h⟩
theorem enum_begins1 {v : Value} {o : Obj} {J : Heap → Prop} {Q : Value → Shared → Prop} (B : Begins v o J) (h1 : J s.heap)
    (h : ∀ h', IsEnum h' (s.heap.objs.size + 1) s.heap.objs.size 0 .none → h'.get? s.heap.objs.size = some o → h'.objs.size = s.heap.objs.size + 2 → (∀ b o, s.heap.get? b = some o → h'.get? b = some o) → Q (.ref (s.heap.objs.size + 1)) { s with heap := h' }) :
    wpAny (model prog w) A (call (.type "enumerate") [v]) Q E s := by
  refine callType_new F.called_enumerate (by decide) (F.typeCall_enumerate_1 _) (F.newCall_enumerate_1 _) (fun obj => F.args_object_init_2 obj _) F.entry_enumerate_new (meets_enum_new1 B) ⟨h1, ?_⟩
  have hz : (s.heap.push o).objs.size = s.heap.objs.size + 1 := Heap.size_push ..
  show _ ∧ _
  rw [hz]
  have he : IsEnum ((s.heap.push o).push { cls := .type "enumerate", data := .fields #[.none, .bool false, .ref s.heap.objs.size, rawInt 0, .none, .none] }) (s.heap.objs.size + 1) s.heap.objs.size 0 .none := by
    have z := Heap.get?_push_size (s.heap.push o) (o := { cls := .type "enumerate", data := .fields #[.none, .bool false, .ref s.heap.objs.size, rawInt 0, .none, .none] }) rfl
    rw [hz] at z
    exact z
  exact ⟨⟨_, he, rfl⟩, h _ he (Heap.get?_push_of_some _ (Heap.get?_push_size _ B.free)) (by rw [Heap.size_push, hz]) fun b o x => Heap.get?_push_of_some _ (Heap.get?_push_of_some _ x)⟩
end
def IteT (K : PySem.W.Frag) (a : Addr) : It :=
  ⟨fun i H => ∃ (xs : List V) (x : V), SqT K H a xs ∧ xs[i]? = some x, fun i H v H' => ∃ T x, v = .ref T ∧ H T = none ∧ H' = upd H T (.tup [.int (i : Nat), x]) ∧ ∀ xs, SqT K H a xs → xs[i]? = some x, fun i H => ∃ xs : List V, SqT K H a xs ∧ xs.length = i⟩
theorem turn_enumT {P : Program} {w : World} {K : PySem.W.Frag} {elts : List Expr} {kk : Nat} {tpos : Pos} (a e it : Addr) (hae : a ≠ e) (hai : a ≠ it) :
    Turn P w K (.Tuple elts kk tpos) (IteT K a) [e, it] e (fun i h => (∃ old, IsEnum h e it ((i : Nat) : Int) old) ∧ h.IsTupleIter it a i ∧ e ≠ it) where
  mem := by simp
  obj := fun i h st b hb => by
    obtain ⟨⟨old, he⟩, ⟨o, ho, hc, hd⟩, _⟩ := st
    rcases (by simpa using hb : b = e ∨ b = it) with z | z <;> subst z
    · exact ⟨_, he, fun v q => nomatch q⟩
    · exact ⟨o, ho, fun v q => by rw [hd] at q; cases q⟩
  keep := fun i h h' st k => by
    obtain ⟨⟨old, he⟩, hi, hne⟩ := st
    exact ⟨⟨old, k e (by simp) _ he⟩, hi.at fun o q => k it (by simp) o q, hne⟩
  item := by
    intro X hP hw hK hc i pins s σ H E I hf st hg
    subst hP hw hK
    obtain ⟨⟨old, he⟩, hit, hne⟩ := st
    obtain ⟨xs, x, hq, hx⟩ := hg
    obtain ⟨its, rv, p, hz⟩ := I.tuple hq
    obtain ⟨u, hu, ru⟩ := rv.get hx
    have lte : e < s.heap.objs.size := Heap.lt_size he
    have lti : it < s.heap.objs.size := by
      obtain ⟨_, q, _⟩ := hit
      exact Heap.lt_size q
    have hlt : i < its.toArray.size := by
      have z := (List.getElem?_eq_some_iff.mp hu).1
      simpa using z
    refine wpAny_pyNext_enum_itemC (Draws.tuple (A := X.A.in1) (I.ok.hd hc) it a hai its.toArray) he ⟨hit, p⟩ hlt hne (by simp [hne, Ne.symm hae]) fun y h' tk hP ho hst hT hsz hk => ?_
    obtain ⟨hit', _⟩ := hst
    have ey : y = u := by
      have z : its[i]? = some y := by simpa using hP
      rw [hu] at z
      exact (Option.some.inj z).symm
    subst ey
    refine ⟨_, rfl, wpAny_letOwnedTupleGo_enum (s := { s with heap := h', toks := tk + 1 }) ho fun h2 he2 sb => ?_⟩
    have hT2 : h2.get? s.heap.objs.size = some { cls := .type "tuple", data := .seq #[.int i tk, y] } := (sb.2 _ (Nat.ne_of_gt lte)).trans hT
    have new : ObjOk X.prog X.w (upd H s.heap.objs.size (.tup [.int (i : Nat), x])) h2 s.heap.objs.size (.tup [.int (i : Nat), x]) := ⟨by show 2 ≤ sizeLine; decide, [.int i tk, y], .cons ⟨_, rfl⟩ (.cons ru .nil), ⟨_, hT2, rfl, _, rfl⟩⟩
    have kp : ∀ b ob, b ∉ [e, it] → s.heap.get? b = some ob → h2.get? b = some ob := fun b ob hb q => (sb.2 b fun z => hb (by simp [z])).trans (hk b ob (fun z => hb (by simp [z])) (fun z => hb (by simp [z])) q)
    have I1 : Inv X pins σ (upd H s.heap.objs.size (.tup [.int (i : Nat), x])) { s with heap := h2, toks := tk + 1 } := I.turnedNew (ch := [e, it]) kp hf (Nat.le_refl _) new
    refine ⟨.ref s.heap.objs.size, _, I1, rfl, ⟨_, x, rfl, I.hok.fresh (Nat.le_refl _), rfl, fun ys hy => by rw [I.tuple_inj hy hq]; exact hx⟩, ⟨⟨y, ?_⟩, hit'.at fun o q => (sb.2 it (Ne.symm hne)).trans q, hne⟩, fun b hb => ?_⟩
    · have e1 : ((i + 1 : Nat) : Int) = (i : Int) + 1 := by omega
      rw [e1]
      exact he2
    · have hb' : b < s.heap.objs.size := by
        rcases (by simpa using hb : b = e ∨ b = it) with z | z <;> subst z
        · exact lte
        · exact lti
      rw [upd_ne (Nat.ne_of_lt hb')]
      exact (hf b hb).1
  done := by
    intro X hP hw hK hc i pins s σ H E I hf st hg
    subst hP hw hK
    obtain ⟨⟨old, he⟩, hit, hne⟩ := st
    obtain ⟨xs, hq, hx⟩ := hg
    obtain ⟨its, rv, p, hz⟩ := I.tuple hq
    obtain ⟨f0, f1, f2, f3, f4, f5⟩ := hf it (by simp)
    have hl := rv.length
    have en : i = its.toArray.size := by
      have z : its.toArray.size = its.length := by simp
      omega
    subst en
    exact wpAny_pyNext_enum_endD (Draws.tuple (A := X.A.in1) (I.ok.hd hc) it a hai its.toArray) he ⟨hit, p⟩ fun h' eb => ⟨rfl, I.turned (t' := s.toks) (fun b o hb q => eb b o hb q) f0 f1 f3 f4 f5⟩
  self := fun A i s Q E st h => by
    obtain ⟨⟨_, he⟩, _⟩ := st
    exact wpAny_pyIter_enum he h
def iEnumT (K : PySem.W.Frag) (ta : TA) : TI := fun σ H R => ta σ H fun vs H1 => ∃ a xs, vs = [.ref a] ∧ SqT K H1 a xs ∧ R (IteT K a) H1
theorem pi_enumT {X : Cx} {e : Expr} {ta : TA} {p pos tpos : Pos} {elts : List Expr} {kk : Nat} (hg : Gl X "enumerate") (hm : X.mg "enumerate" = none) (ha : PA X [e] ta) (hs : starEach [e] X.env = [(false, eval e X.env)] := by rfl) :
    PI X (.Tuple elts kk tpos) (.Call (.Name "enumerate" p) [e] [] pos) (iEnumT X.K ta) := by
  refine ⟨fun pins s σ H R I h => ?_⟩
  refine Call_ (ld_blt I hg hm boot_enumerate (PyProof.Rows.callWith_type1 (thn (ha.run pos pins s σ H _ I h) fun us s1 ⟨vs, H1, I1, r1, q1⟩ => ?_) hs rfl))
  obtain ⟨a, xs, ex, hq, q⟩ := q1
  subst ex
  cases r1 with
  | cons r rr =>
    cases rr
    cases r
    obtain ⟨its, rv, pt, hz⟩ := I1.tuple hq
    have lta : a < s1.heap.objs.size := by
      obtain ⟨_, z, _⟩ := pt
      exact Heap.lt_size z
    refine enum_begins1 (begins_tuple a its.toArray) pt fun h' he hit hsz hk => wpAny_pyIter_enum he ?_
    have I2 : Inv X pins σ H1 { s1 with heap := h' } := I1.kept (t' := s1.toks) hk
    refine ⟨s1.heap.objs.size + 1, [s1.heap.objs.size + 1, s1.heap.objs.size], _, _, H1, rfl, I2, turn_enumT a (s1.heap.objs.size + 1) s1.heap.objs.size (Nat.ne_of_lt (Nat.lt_succ_of_lt lta)) (Nat.ne_of_lt lta), ⟨⟨.none, he⟩, ⟨_, hit, rfl, rfl⟩, Nat.succ_ne_self _⟩, fun b hb => ?_, q⟩
    have hle : s1.heap.objs.size ≤ b := by
      rcases (by simpa using hb : b = s1.heap.objs.size + 1 ∨ b = s1.heap.objs.size) with z | z <;> subst z
      · exact Nat.le_add_right _ _
      · exact Nat.le_refl _
    exact I1.fpOk hle (I1.hok.fresh hle)
theorem for_enumT {K : PySem.W.Frag} {a : Addr} {xs : List V} {g : TG} {tb : TS} {D : Ends} {σ : L2.St} {H : Hp} (Pv : Nat → L2.St → Hp → Prop) (h0 : Pv 0 σ H) (hq : ∀ i σ H, Pv i σ H → SqT K H a xs)
    (hs : ∀ (i : Nat) (x : V) (T : Addr) (σ : L2.St) (H : Hp), xs[i]? = some x → Pv i σ H → H T = none → g (.ref T) σ (upd H T (.tup [.int (i : Nat), x])) fun σ2 H2 => tb { D with nx := Pv (i + 1), ct := Pv (i + 1), bk := D.nx } σ2 H2)
    (hd : ∀ σ H, Pv xs.length σ H → D.nx σ H) :
    ∃ W : Nat → Nat → L2.St → Hp → Prop, (∃ m, W 0 m σ H) ∧ ∀ i m σ H, W i m σ H → ((IteT K a).stop i H ∧ D.nx σ H) ∨ ((IteT K a).go i H ∧ ∃ N : L2.St → Hp → Prop, (∀ σ' H', N σ' H' → ∃ m', m' < m ∧ W (i + 1) m' σ' H') ∧
      ∀ x H', (IteT K a).yld i H x H' → g x σ H' fun σ2 H2 => tb { D with nx := N, ct := N, bk := D.nx } σ2 H2) := by
  refine ⟨fun i m σ H => m = xs.length - i ∧ i ≤ xs.length ∧ Pv i σ H, ⟨xs.length, by simp, Nat.zero_le _, h0⟩, ?_⟩
  rintro i m σ H ⟨em, hi, p⟩
  have hl := hq i σ H p
  by_cases e : i = xs.length
  · subst e
    exact .inl ⟨⟨xs, hl, rfl⟩, hd σ H p⟩
  · have lt : i < xs.length := by omega
    refine .inr ⟨⟨xs, xs[i], hl, List.getElem?_eq_getElem lt⟩, Pv (i + 1), fun σ' H' q => ⟨xs.length - (i + 1), by omega, rfl, lt, q⟩, ?_⟩
    rintro v H' ⟨T, x, rfl, hT, rfl, hx⟩
    exact hs i x T σ H (hx xs hl) p hT
end G57
end
section
set_option maxRecDepth 100000
set_option maxHeartbeats 4000000
/-! XRead: readings, one small step a rule (r_..). Each is the reading itself, folded. -/
namespace G57
open PySem PySem.Spec PyProof.Rows L2
section
variable {K : PySem.W.Frag} {σ : L2.St} {H H1 : Hp} {Q : VK} {v x y : V} {ta tb tc te : TE} {D : Ends} {t u : TS} {c : TT} {A B : Prop}
/-! ### expressions -/
theorem r_var {i : Nat} (h : σ[i]? = some (some v)) (q : Q v H) : tVar i σ H Q := ⟨v, h, q⟩
theorem r_c (q : Q v H) : tC v σ H Q := q
theorem r_op {r : R2} (q : ta σ H fun x H1 => tb σ H1 fun y H2 => r x y H2 Q) : tOp r ta tb σ H Q := q
theorem r_un {r : V → Hp → VK → Prop} (q : ta σ H fun x H1 => r x H1 Q) : tUn r ta σ H Q := q
theorem r_I0 {g : Int → Int → V} {i j : Int} (q : Q (g i j) H) : rI0 g (.int i) (.int j) H Q := ⟨i, j, rfl, rfl, q⟩
theorem r_I {C : Int → Int → Prop} {g : Int → Int → V} {i j : Int} (h : C i j) (q : Q (g i j) H) : rI C g (.int i) (.int j) H Q := ⟨i, j, rfl, rfl, h, q⟩
theorem r_U {g : Int → V} {i : Int} (q : Q (g i) H) : rU g (.int i) H Q := ⟨i, rfl, q⟩
theorem r_cmp {p : Int → Int → Bool} (q : ta σ H fun x H1 => tb σ H1 fun y H2 => ∃ i j, x = .int i ∧ y = .int j ∧ Q (.bl (p i j)) H2) : tCmp p ta tb σ H Q := q
theorem r_ii {k : Int → Int → Hp → Prop} {i j : Int} (q : k i j H) : ∃ i' j', V.int i = .int i' ∧ V.int j = .int j' ∧ k i' j' H := ⟨i, j, rfl, rfl, q⟩
theorem r_isN (q : ta σ H fun x H1 => Q (.bl (decide (x = .non))) H1) : tIsN ta σ H Q := q
theorem r_notN (q : ta σ H fun x H1 => Q (.bl (!decide (x = .non))) H1) : tNotN ta σ H Q := q
/-- a field's read, by values -/
def FldR (K : PySem.W.Frag) (f : Str) (Q : VK) (x : V) (H : Hp) : Prop := ∃ a C dx fs v, x = .ref a ∧ H a = some (.ins C dx fs) ∧ Cls K C ∧ NoAttr K C f ∧ fs.lookup f = some v ∧ Q v H
theorem r_fld {f : Str} (q : ta σ H (FldR K f Q)) : tFld K ta f σ H Q := q
theorem r_fldR {f : Str} {a C dx : Addr} {fs : List (Str × V)} (h : H a = some (.ins C dx fs)) (c : Cls K C) (n : NoAttr K C f) (l : fs.lookup f = some v) (q : Q v H) : FldR K f Q (.ref a) H := ⟨a, C, dx, fs, v, rfl, h, c, n, l, q⟩
/-- a method's call, its receiver known -/
def MetR (C : Addr) (m : Str) (sp : Sp) (dvs : List V) (E : XK) (t : TA) (σ : L2.St) (Q : VK) (x : V) (H : Hp) : Prop := ∃ a dx fs, x = .ref a ∧ H a = some (.ins C dx fs) ∧ fs.lookup m = none ∧ t σ H fun vs H2 => sp (x :: (vs ++ dvs)) H2 Q E
theorem r_met {C : Addr} {m : Str} {sp : Sp} {dvs : List V} {E : XK} {t : TA} (q : ta σ H (MetR C m sp dvs E t σ Q)) : tMeth C m sp dvs E ta t σ H Q := q
theorem r_metR {C a dx : Addr} {m : Str} {sp : Sp} {E : XK} {t : TA} {fs : List (Str × V)} (h : H a = some (.ins C dx fs)) (l : fs.lookup m = none) (q : t σ H fun vs H2 => sp (.ref a :: vs) H2 Q E) : MetR C m sp [] E t σ Q (.ref a) H :=
  ⟨a, dx, fs, rfl, h, l, by
    have e : (fun vs H2 => sp (V.ref a :: (vs ++ [])) H2 Q E) = fun vs H2 => sp (.ref a :: vs) H2 Q E := by
      funext vs H2
      rw [List.append_nil]
    rw [e]
    exact q⟩
theorem r_call {sp : Sp} {E : XK} {t : TA} (q : t σ H fun vs H1 => sp vs H1 Q E) : tCall sp [] E t σ H Q := by
  have e : (fun vs H2 => sp (vs ++ []) H2 Q E) = fun vs H2 => sp vs H2 Q E := by
    funext vs H2
    rw [List.append_nil]
  show t σ H fun vs H2 => sp (vs ++ []) H2 Q E
  rw [e]
  exact q
/-- a class called, its arguments known -/
def MakR (C : Addr) (sp : Sp) (E : XK) (Q : VK) (vs : List V) (H1 : Hp) : Prop := ∀ x dx, H1 x = none → H1 dx = none → dx ≠ x → sp (.ref x :: vs) (upd (upd H1 dx (.own x)) x (.ins C dx [])) (fun v H2 => v = .non ∧ Q (.ref x) H2) E
theorem r_make {C : Addr} {sp : Sp} {E : XK} {t : TA} (q : t σ H (MakR C sp E Q)) : tMake C sp [] E t σ H Q := by
  have e : (fun vs H1 => ∀ x dx, H1 x = none → H1 dx = none → dx ≠ x → sp (.ref x :: (vs ++ [])) (upd (upd H1 dx (.own x)) x (.ins C dx [])) (fun v H2 => v = .non ∧ Q (.ref x) H2) E) = MakR C sp E Q := by
    funext vs H2
    rw [List.append_nil]
    rfl
  show t σ H fun vs H1 => ∀ x dx, H1 x = none → H1 dx = none → dx ≠ x → sp (.ref x :: (vs ++ [])) (upd (upd H1 dx (.own x)) x (.ins C dx [])) (fun v H2 => v = .non ∧ Q (.ref x) H2) E
  rw [e]
  exact q
theorem r_prop {C : Addr} {sp : Sp} {E : XK} (q : ta σ H fun x H1 => ∃ a dx fs, x = .ref a ∧ H1 a = some (.ins C dx fs) ∧ sp [.ref a] H1 Q E) : tProp C sp [] E ta σ H Q := q
theorem r_propR {C a dx : Addr} {sp : Sp} {E : XK} {fs : List (Str × V)} (h : H a = some (.ins C dx fs)) (q : sp [.ref a] H Q E) : ∃ a' dx fs, V.ref a = .ref a' ∧ H a' = some (.ins C dx fs) ∧ sp [.ref a'] H Q E := ⟨a, dx, fs, rfl, h, q⟩
theorem r_nil {Q : List V → Hp → Prop} (q : Q [] H) : tNil σ H Q := q
theorem r_cons {tr : TA} {Q : List V → Hp → Prop} (q : ta σ H fun x H1 => tr σ H1 fun xs H2 => Q (x :: xs) H2) : tCons ta tr σ H Q := q
theorem r_cb {r : List V → Hp → VK → Prop} {t : TA} (q : t σ H fun vs H1 => r vs H1 Q) : tCB r t σ H Q := q
theorem r_max {i j : Int} (q : Q (.int (max i j)) H) : rMx [V.int i, V.int j] H Q := ⟨i, j, rfl, q⟩
theorem r_min {i j : Int} (q : Q (.int (min i j)) H) : rMn [V.int i, V.int j] H Q := ⟨i, j, rfl, q⟩
theorem r_int1 {i : Int} (q : Q (.int i) H) : rInt [V.int i] H Q := .inl ⟨i, rfl, q⟩
theorem r_intb {b : Bool} (q : Q (.int (if b then 1 else 0)) H) : rInt [V.bl b] H Q := .inr ⟨b, rfl, q⟩
theorem r_lenL {a : Addr} {xs : List V} (h : SqL K H a xs) (q : Q (.int xs.length) H) : rLenQ K [V.ref a] H Q := ⟨a, xs, rfl, .inl h, q⟩
theorem r_lenT {a : Addr} {xs : List V} (h : SqT K H a xs) (q : Q (.int xs.length) H) : rLenQ K [V.ref a] H Q := ⟨a, xs, rfl, .inr h, q⟩
theorem r_listL {a : Addr} {xs : List V} (h : SqL K H a xs) (q : ∀ p, H p = none → Q (.ref p) (upd H p (.lst xs))) : rListQ K [V.ref a] H Q := ⟨a, xs, rfl, .inl h, q⟩
theorem r_listT {a : Addr} {xs : List V} (h : SqT K H a xs) (q : ∀ p, H p = none → Q (.ref p) (upd H p (.lst xs))) : rListQ K [V.ref a] H Q := ⟨a, xs, rfl, .inr h, q⟩
theorem r_tupL {a : Addr} {xs : List V} (h : SqL K H a xs) (q : ∀ p, H p = none → Q (.ref p) (upd H p (.tup xs))) : rTupLQ K [V.ref a] H Q := ⟨a, xs, rfl, h, q⟩
theorem r_tupT {a : Addr} {xs : List V} (h : SqT K H a xs) (q : Q (.ref a) H) : rTupTQ K [V.ref a] H Q := ⟨a, xs, rfl, h, q⟩
theorem r_ixL {a : Addr} {xs : List V} {i : Int} {j : Nat} (h : SqL K H a xs) (e : i = (j : Int)) (l : xs[j]? = some v) (q : Q v H) : rIxL K (.ref a) (.int i) H Q := ⟨a, xs, i, v, rfl, rfl, h, at_of e l, q⟩
theorem r_ixT {a : Addr} {xs : List V} {i : Int} {j : Nat} (h : SqT K H a xs) (e : i = (j : Int)) (l : xs[j]? = some v) (q : Q v H) : rIxT K (.ref a) (.int i) H Q := ⟨a, xs, i, v, rfl, rfl, h, at_of e l, q⟩
theorem r_ixLa {a : Addr} {xs : List V} {i : Int} (h : SqL K H a xs) (l : atI xs i = some v) (q : Q v H) : rIxL K (.ref a) (.int i) H Q := ⟨a, xs, i, v, rfl, rfl, h, l, q⟩
theorem r_if {tt : TT} (q : tt σ H fun c H1 => if c = true then ta σ H1 Q else tb σ H1 Q) : tIf tt ta tb σ H Q := q
/-- a new tuple, a new list, by values -/
def NwT (Q : VK) (xs : List V) (H : Hp) : Prop := xs.length ≤ sizeLine ∧ ∀ p, H p = none → Q (.ref p) (upd H p (.tup xs))
def NwL (Q : VK) (xs : List V) (H : Hp) : Prop := xs.length ≤ sizeLine ∧ ∀ p, H p = none → Q (.ref p) (upd H p (.lst xs))
theorem r_tup {t : TA} (q : t σ H (NwT Q)) : tTup t σ H Q := q
theorem r_lst {t : TA} (q : t σ H (NwL Q)) : tLst t σ H Q := q
theorem r_nwT {xs : List V} (h : xs.length ≤ 1000) (q : ∀ p, H p = none → Q (.ref p) (upd H p (.tup xs))) : NwT Q xs H := ⟨Nat.le_trans h (by decide), q⟩
theorem r_nwL {xs : List V} (h : xs.length ≤ 1000) (q : ∀ p, H p = none → Q (.ref p) (upd H p (.lst xs))) : NwL Q xs H := ⟨Nat.le_trans h (by decide), q⟩
theorem r_bm {T : String} {r : V → List V → Hp → VK → Prop} {t : TA} (q : ta σ H fun x H1 => tyV K T x H1 ∧ t σ H1 fun xs H2 => r x xs H2 Q) : tBM K T r ta t σ H Q := q
theorem r_bm0 {T : String} {r : V → List V → Hp → VK → Prop} (q : ta σ H fun x H1 => tyV K T x H1 ∧ r x [] H1 Q) : tBM0 K T r ta σ H Q := q
theorem r_tyL {a : Addr} {xs : List V} (h : SqL K H a xs) (q : A) : tyV K "list" (.ref a) H ∧ A := ⟨.inl ⟨rfl, xs, h⟩, q⟩
theorem r_append {a : Addr} {xs : List V} (h : H a = some (.lst xs)) (l : xs.length < 100000) (q : Q .non (upd H a (.lst (xs ++ [v])))) : rAppend (.ref a) [v] H Q := ⟨a, xs, v, rfl, rfl, h, Nat.lt_of_lt_of_le l (by decide), q⟩
theorem r_pop {a : Addr} {xs : List V} (h : H a = some (.lst xs)) (l : xs[xs.length - 1]? = some v) (q : Q v (upd H a (.lst xs.dropLast))) : rPop (.ref a) [] H Q := ⟨a, xs, v, rfl, rfl, h, l, q⟩
theorem r_sumT {a : Addr} {ns : List Int} (h : SqT K H a (ns.map V.int)) (q : Q (.int ns.sum) H) : rSumT K [V.ref a] H Q := ⟨a, ns, rfl, h, q⟩
theorem r_sumL {a : Addr} {ns : List Int} (h : SqL K H a (ns.map V.int)) (q : Q (.int ns.sum) H) : rSum K [V.ref a] H Q := ⟨a, ns, rfl, h, q⟩
/-! ### tests -/
theorem r_B {Q : Bool → Hp → Prop} (q : te σ H fun x H1 => ∃ c, x = .bl c ∧ Q c H1) : tB te σ H Q := q
theorem r_test {Q : Bool → Hp → Prop} (q : te σ H fun x H1 => ∃ c, x = .bl c ∧ Q c H1) : tTest te σ H Q := q
theorem r_b {k : Bool → Hp → Prop} {b : Bool} (q : k b H) : ∃ c, V.bl b = .bl c ∧ k c H := ⟨b, rfl, q⟩
theorem r_b' {k : Bool → Prop} {b : Bool} (q : k b) : ∃ c, V.bl b = .bl c ∧ k c := ⟨b, rfl, q⟩
theorem r_and {tA tB' : TT} {Q : Bool → Hp → Prop} (q : tA σ H fun c H1 => if c = true then tB' σ H1 Q else Q false H1) : tAnd tA tB' σ H Q := q
theorem r_or {tA tB' : TT} {Q : Bool → Hp → Prop} (q : tA σ H fun c H1 => if c = true then Q true H1 else tB' σ H1 Q) : tOr tA tB' σ H Q := q
theorem r_not {tA : TT} {Q : Bool → Hp → Prop} (q : tA σ H fun c H1 => Q (!c) H1) : tNot tA σ H Q := q
theorem r_chain {r r' : R2} (q : ta σ H fun x H1 => tb σ H1 fun y H2 => r x y H2 fun z H3 => ∃ k, z = .bl k ∧ (if k = true then tc σ H3 fun w' H4 => r' y w' H4 Q else Q (.bl false) H3)) : tChain r r' ta tb tc σ H Q := q
theorem r_andV (q : ta σ H fun x H1 => ∃ c, x = .bl c ∧ if c = true then tb σ H1 Q else Q (.bl false) H1) : tAndV ta tb σ H Q := q
theorem r_orV (q : ta σ H fun x H1 => ∃ c, x = .bl c ∧ if c = true then Q (.bl true) H1 else tb σ H1 Q) : tOrV ta tb σ H Q := q
theorem r_notV (q : ta σ H fun x H1 => ∃ c, x = .bl c ∧ Q (.bl (!c)) H1) : tNotV ta σ H Q := q
theorem i2 {p : Prop} [Decidable p] (h1 : p → A) (h2 : ¬ p → B) : if decide p = true then A else B := by
  by_cases h : p
  · rw [if_pos (decide_eq_true h)]
    exact h1 h
  · rw [if_neg (by rw [decide_eq_false h]; exact Bool.false_ne_true)]
    exact h2 h
theorem i2n {p : Prop} [Decidable p] (h1 : ¬ p → A) (h2 : p → B) : if (!decide p) = true then A else B := by
  by_cases h : p
  · rw [decide_eq_true h]
    exact iteF (h2 h)
  · rw [decide_eq_false h]
    exact iteT (h1 h)
theorem i2b {b : Bool} (h1 : b = true → A) (h2 : b = false → B) : if b = true then A else B := by
  cases b with
  | true => exact iteT (h1 rfl)
  | false => exact iteF (h2 rfl)
theorem i2bn {b : Bool} (h1 : b = false → A) (h2 : b = true → B) : if (!b) = true then A else B := by
  cases b with
  | true => exact iteF (h2 rfl)
  | false => exact iteT (h1 rfl)
theorem iT (q : A) : if true = true then A else B := iteT q
theorem iF (q : B) : if false = true then A else B := iteF q
theorem iNT (q : B) : if (!true) = true then A else B := iteF q
theorem iNF (q : A) : if (!false) = true then A else B := iteT q
theorem iOF (q : B) : if (false || false) = true then A else B := iteF q
theorem iY {p : Prop} [Decidable p] (h : p) (q : A) : if decide p = true then A else B := i2 (fun _ => q) fun z => absurd h z
theorem iN {p : Prop} [Decidable p] (h : ¬ p) (q : B) : if decide p = true then A else B := i2 (fun z => absurd z h) fun _ => q
/-! ### statements -/
theorem r_seq (q : t { D with nx := u D } σ H) : tSeq t u D σ H := q
theorem r_next (q : D.nx σ H) : tNext D σ H := q
/-- slot i is given v, N goes on -/
def SetR (i : Nat) (v : V) (N : L2.St → Prop) (σ : L2.St) : Prop := N (σ.set i (some v))
theorem v_id {i : Nat} (q : tVar i σ H Q) : tVar i σ H Q := q
theorem s_id {i : Nat} {N : L2.St → Prop} (q : SetR i v N σ) : SetR i v N σ := q
theorem st_cons {n : Str} {N : List Str} {vs : List V} : L2.start (n :: N) (v :: vs) = some v :: L2.start N vs := by
  unfold L2.start
  simp
theorem st_none {n : Str} {N : List Str} : L2.start (n :: N) [] = none :: L2.start N [] := rfl
theorem st_nn : L2.start [] [] = [] := rfl
theorem r_setU {i : Nat} {N : L2.St → Prop} (q : N (σ.set i (some v))) : SetR i v N σ := q
theorem r_set_0 {a0 : Option V} {r : List (Option V)} {N : L2.St → Prop} (q : N (some v :: r)) : SetR 0 v N (a0 :: r) := q
theorem r_var_0 {r : List (Option V)} (q : Q v H) : tVar 0 (some v :: r) H Q := ⟨v, rfl, q⟩
theorem r_set_1 {a0 a1 : Option V} {r : List (Option V)} {N : L2.St → Prop} (q : N (a0 :: some v :: r)) : SetR 1 v N (a0 :: a1 :: r) := q
theorem r_var_1 {a0 : Option V} {r : List (Option V)} (q : Q v H) : tVar 1 (a0 :: some v :: r) H Q := ⟨v, rfl, q⟩
theorem r_set_2 {a0 a1 a2 : Option V} {r : List (Option V)} {N : L2.St → Prop} (q : N (a0 :: a1 :: some v :: r)) : SetR 2 v N (a0 :: a1 :: a2 :: r) := q
theorem r_var_2 {a0 a1 : Option V} {r : List (Option V)} (q : Q v H) : tVar 2 (a0 :: a1 :: some v :: r) H Q := ⟨v, rfl, q⟩
theorem r_set_3 {a0 a1 a2 a3 : Option V} {r : List (Option V)} {N : L2.St → Prop} (q : N (a0 :: a1 :: a2 :: some v :: r)) : SetR 3 v N (a0 :: a1 :: a2 :: a3 :: r) := q
theorem r_var_3 {a0 a1 a2 : Option V} {r : List (Option V)} (q : Q v H) : tVar 3 (a0 :: a1 :: a2 :: some v :: r) H Q := ⟨v, rfl, q⟩
theorem r_set_4 {a0 a1 a2 a3 a4 : Option V} {r : List (Option V)} {N : L2.St → Prop} (q : N (a0 :: a1 :: a2 :: a3 :: some v :: r)) : SetR 4 v N (a0 :: a1 :: a2 :: a3 :: a4 :: r) := q
theorem r_var_4 {a0 a1 a2 a3 : Option V} {r : List (Option V)} (q : Q v H) : tVar 4 (a0 :: a1 :: a2 :: a3 :: some v :: r) H Q := ⟨v, rfl, q⟩
theorem r_set_5 {a0 a1 a2 a3 a4 a5 : Option V} {r : List (Option V)} {N : L2.St → Prop} (q : N (a0 :: a1 :: a2 :: a3 :: a4 :: some v :: r)) : SetR 5 v N (a0 :: a1 :: a2 :: a3 :: a4 :: a5 :: r) := q
theorem r_var_5 {a0 a1 a2 a3 a4 : Option V} {r : List (Option V)} (q : Q v H) : tVar 5 (a0 :: a1 :: a2 :: a3 :: a4 :: some v :: r) H Q := ⟨v, rfl, q⟩
theorem r_set_6 {a0 a1 a2 a3 a4 a5 a6 : Option V} {r : List (Option V)} {N : L2.St → Prop} (q : N (a0 :: a1 :: a2 :: a3 :: a4 :: a5 :: some v :: r)) : SetR 6 v N (a0 :: a1 :: a2 :: a3 :: a4 :: a5 :: a6 :: r) := q
theorem r_var_6 {a0 a1 a2 a3 a4 a5 : Option V} {r : List (Option V)} (q : Q v H) : tVar 6 (a0 :: a1 :: a2 :: a3 :: a4 :: a5 :: some v :: r) H Q := ⟨v, rfl, q⟩
theorem r_set_7 {a0 a1 a2 a3 a4 a5 a6 a7 : Option V} {r : List (Option V)} {N : L2.St → Prop} (q : N (a0 :: a1 :: a2 :: a3 :: a4 :: a5 :: a6 :: some v :: r)) : SetR 7 v N (a0 :: a1 :: a2 :: a3 :: a4 :: a5 :: a6 :: a7 :: r) := q
theorem r_var_7 {a0 a1 a2 a3 a4 a5 a6 : Option V} {r : List (Option V)} (q : Q v H) : tVar 7 (a0 :: a1 :: a2 :: a3 :: a4 :: a5 :: a6 :: some v :: r) H Q := ⟨v, rfl, q⟩
theorem r_set_8 {a0 a1 a2 a3 a4 a5 a6 a7 a8 : Option V} {r : List (Option V)} {N : L2.St → Prop} (q : N (a0 :: a1 :: a2 :: a3 :: a4 :: a5 :: a6 :: a7 :: some v :: r)) : SetR 8 v N (a0 :: a1 :: a2 :: a3 :: a4 :: a5 :: a6 :: a7 :: a8 :: r) := q
theorem r_var_8 {a0 a1 a2 a3 a4 a5 a6 a7 : Option V} {r : List (Option V)} (q : Q v H) : tVar 8 (a0 :: a1 :: a2 :: a3 :: a4 :: a5 :: a6 :: a7 :: some v :: r) H Q := ⟨v, rfl, q⟩
theorem r_set_9 {a0 a1 a2 a3 a4 a5 a6 a7 a8 a9 : Option V} {r : List (Option V)} {N : L2.St → Prop} (q : N (a0 :: a1 :: a2 :: a3 :: a4 :: a5 :: a6 :: a7 :: a8 :: some v :: r)) : SetR 9 v N (a0 :: a1 :: a2 :: a3 :: a4 :: a5 :: a6 :: a7 :: a8 :: a9 :: r) := q
theorem r_var_9 {a0 a1 a2 a3 a4 a5 a6 a7 a8 : Option V} {r : List (Option V)} (q : Q v H) : tVar 9 (a0 :: a1 :: a2 :: a3 :: a4 :: a5 :: a6 :: a7 :: a8 :: some v :: r) H Q := ⟨v, rfl, q⟩
theorem r_set_10 {a0 a1 a2 a3 a4 a5 a6 a7 a8 a9 a10 : Option V} {r : List (Option V)} {N : L2.St → Prop} (q : N (a0 :: a1 :: a2 :: a3 :: a4 :: a5 :: a6 :: a7 :: a8 :: a9 :: some v :: r)) : SetR 10 v N (a0 :: a1 :: a2 :: a3 :: a4 :: a5 :: a6 :: a7 :: a8 :: a9 :: a10 :: r) := q
theorem r_var_10 {a0 a1 a2 a3 a4 a5 a6 a7 a8 a9 : Option V} {r : List (Option V)} (q : Q v H) : tVar 10 (a0 :: a1 :: a2 :: a3 :: a4 :: a5 :: a6 :: a7 :: a8 :: a9 :: some v :: r) H Q := ⟨v, rfl, q⟩
theorem r_set_11 {a0 a1 a2 a3 a4 a5 a6 a7 a8 a9 a10 a11 : Option V} {r : List (Option V)} {N : L2.St → Prop} (q : N (a0 :: a1 :: a2 :: a3 :: a4 :: a5 :: a6 :: a7 :: a8 :: a9 :: a10 :: some v :: r)) : SetR 11 v N (a0 :: a1 :: a2 :: a3 :: a4 :: a5 :: a6 :: a7 :: a8 :: a9 :: a10 :: a11 :: r) := q
theorem r_var_11 {a0 a1 a2 a3 a4 a5 a6 a7 a8 a9 a10 : Option V} {r : List (Option V)} (q : Q v H) : tVar 11 (a0 :: a1 :: a2 :: a3 :: a4 :: a5 :: a6 :: a7 :: a8 :: a9 :: a10 :: some v :: r) H Q := ⟨v, rfl, q⟩
theorem r_set_12 {a0 a1 a2 a3 a4 a5 a6 a7 a8 a9 a10 a11 a12 : Option V} {r : List (Option V)} {N : L2.St → Prop} (q : N (a0 :: a1 :: a2 :: a3 :: a4 :: a5 :: a6 :: a7 :: a8 :: a9 :: a10 :: a11 :: some v :: r)) : SetR 12 v N (a0 :: a1 :: a2 :: a3 :: a4 :: a5 :: a6 :: a7 :: a8 :: a9 :: a10 :: a11 :: a12 :: r) := q
theorem r_var_12 {a0 a1 a2 a3 a4 a5 a6 a7 a8 a9 a10 a11 : Option V} {r : List (Option V)} (q : Q v H) : tVar 12 (a0 :: a1 :: a2 :: a3 :: a4 :: a5 :: a6 :: a7 :: a8 :: a9 :: a10 :: a11 :: some v :: r) H Q := ⟨v, rfl, q⟩
theorem r_set_13 {a0 a1 a2 a3 a4 a5 a6 a7 a8 a9 a10 a11 a12 a13 : Option V} {r : List (Option V)} {N : L2.St → Prop} (q : N (a0 :: a1 :: a2 :: a3 :: a4 :: a5 :: a6 :: a7 :: a8 :: a9 :: a10 :: a11 :: a12 :: some v :: r)) : SetR 13 v N (a0 :: a1 :: a2 :: a3 :: a4 :: a5 :: a6 :: a7 :: a8 :: a9 :: a10 :: a11 :: a12 :: a13 :: r) := q
theorem r_var_13 {a0 a1 a2 a3 a4 a5 a6 a7 a8 a9 a10 a11 a12 : Option V} {r : List (Option V)} (q : Q v H) : tVar 13 (a0 :: a1 :: a2 :: a3 :: a4 :: a5 :: a6 :: a7 :: a8 :: a9 :: a10 :: a11 :: a12 :: some v :: r) H Q := ⟨v, rfl, q⟩
theorem r_set_14 {a0 a1 a2 a3 a4 a5 a6 a7 a8 a9 a10 a11 a12 a13 a14 : Option V} {r : List (Option V)} {N : L2.St → Prop} (q : N (a0 :: a1 :: a2 :: a3 :: a4 :: a5 :: a6 :: a7 :: a8 :: a9 :: a10 :: a11 :: a12 :: a13 :: some v :: r)) : SetR 14 v N (a0 :: a1 :: a2 :: a3 :: a4 :: a5 :: a6 :: a7 :: a8 :: a9 :: a10 :: a11 :: a12 :: a13 :: a14 :: r) := q
theorem r_var_14 {a0 a1 a2 a3 a4 a5 a6 a7 a8 a9 a10 a11 a12 a13 : Option V} {r : List (Option V)} (q : Q v H) : tVar 14 (a0 :: a1 :: a2 :: a3 :: a4 :: a5 :: a6 :: a7 :: a8 :: a9 :: a10 :: a11 :: a12 :: a13 :: some v :: r) H Q := ⟨v, rfl, q⟩
theorem r_set_15 {a0 a1 a2 a3 a4 a5 a6 a7 a8 a9 a10 a11 a12 a13 a14 a15 : Option V} {r : List (Option V)} {N : L2.St → Prop} (q : N (a0 :: a1 :: a2 :: a3 :: a4 :: a5 :: a6 :: a7 :: a8 :: a9 :: a10 :: a11 :: a12 :: a13 :: a14 :: some v :: r)) : SetR 15 v N (a0 :: a1 :: a2 :: a3 :: a4 :: a5 :: a6 :: a7 :: a8 :: a9 :: a10 :: a11 :: a12 :: a13 :: a14 :: a15 :: r) := q
theorem r_var_15 {a0 a1 a2 a3 a4 a5 a6 a7 a8 a9 a10 a11 a12 a13 a14 : Option V} {r : List (Option V)} (q : Q v H) : tVar 15 (a0 :: a1 :: a2 :: a3 :: a4 :: a5 :: a6 :: a7 :: a8 :: a9 :: a10 :: a11 :: a12 :: a13 :: a14 :: some v :: r) H Q := ⟨v, rfl, q⟩
theorem r_set_16 {a0 a1 a2 a3 a4 a5 a6 a7 a8 a9 a10 a11 a12 a13 a14 a15 a16 : Option V} {r : List (Option V)} {N : L2.St → Prop} (q : N (a0 :: a1 :: a2 :: a3 :: a4 :: a5 :: a6 :: a7 :: a8 :: a9 :: a10 :: a11 :: a12 :: a13 :: a14 :: a15 :: some v :: r)) : SetR 16 v N (a0 :: a1 :: a2 :: a3 :: a4 :: a5 :: a6 :: a7 :: a8 :: a9 :: a10 :: a11 :: a12 :: a13 :: a14 :: a15 :: a16 :: r) := q
theorem r_var_16 {a0 a1 a2 a3 a4 a5 a6 a7 a8 a9 a10 a11 a12 a13 a14 a15 : Option V} {r : List (Option V)} (q : Q v H) : tVar 16 (a0 :: a1 :: a2 :: a3 :: a4 :: a5 :: a6 :: a7 :: a8 :: a9 :: a10 :: a11 :: a12 :: a13 :: a14 :: a15 :: some v :: r) H Q := ⟨v, rfl, q⟩
theorem r_set_17 {a0 a1 a2 a3 a4 a5 a6 a7 a8 a9 a10 a11 a12 a13 a14 a15 a16 a17 : Option V} {r : List (Option V)} {N : L2.St → Prop} (q : N (a0 :: a1 :: a2 :: a3 :: a4 :: a5 :: a6 :: a7 :: a8 :: a9 :: a10 :: a11 :: a12 :: a13 :: a14 :: a15 :: a16 :: some v :: r)) : SetR 17 v N (a0 :: a1 :: a2 :: a3 :: a4 :: a5 :: a6 :: a7 :: a8 :: a9 :: a10 :: a11 :: a12 :: a13 :: a14 :: a15 :: a16 :: a17 :: r) := q
theorem r_var_17 {a0 a1 a2 a3 a4 a5 a6 a7 a8 a9 a10 a11 a12 a13 a14 a15 a16 : Option V} {r : List (Option V)} (q : Q v H) : tVar 17 (a0 :: a1 :: a2 :: a3 :: a4 :: a5 :: a6 :: a7 :: a8 :: a9 :: a10 :: a11 :: a12 :: a13 :: a14 :: a15 :: a16 :: some v :: r) H Q := ⟨v, rfl, q⟩
theorem r_set_18 {a0 a1 a2 a3 a4 a5 a6 a7 a8 a9 a10 a11 a12 a13 a14 a15 a16 a17 a18 : Option V} {r : List (Option V)} {N : L2.St → Prop} (q : N (a0 :: a1 :: a2 :: a3 :: a4 :: a5 :: a6 :: a7 :: a8 :: a9 :: a10 :: a11 :: a12 :: a13 :: a14 :: a15 :: a16 :: a17 :: some v :: r)) : SetR 18 v N (a0 :: a1 :: a2 :: a3 :: a4 :: a5 :: a6 :: a7 :: a8 :: a9 :: a10 :: a11 :: a12 :: a13 :: a14 :: a15 :: a16 :: a17 :: a18 :: r) := q
theorem r_var_18 {a0 a1 a2 a3 a4 a5 a6 a7 a8 a9 a10 a11 a12 a13 a14 a15 a16 a17 : Option V} {r : List (Option V)} (q : Q v H) : tVar 18 (a0 :: a1 :: a2 :: a3 :: a4 :: a5 :: a6 :: a7 :: a8 :: a9 :: a10 :: a11 :: a12 :: a13 :: a14 :: a15 :: a16 :: a17 :: some v :: r) H Q := ⟨v, rfl, q⟩
theorem r_set_19 {a0 a1 a2 a3 a4 a5 a6 a7 a8 a9 a10 a11 a12 a13 a14 a15 a16 a17 a18 a19 : Option V} {r : List (Option V)} {N : L2.St → Prop} (q : N (a0 :: a1 :: a2 :: a3 :: a4 :: a5 :: a6 :: a7 :: a8 :: a9 :: a10 :: a11 :: a12 :: a13 :: a14 :: a15 :: a16 :: a17 :: a18 :: some v :: r)) : SetR 19 v N (a0 :: a1 :: a2 :: a3 :: a4 :: a5 :: a6 :: a7 :: a8 :: a9 :: a10 :: a11 :: a12 :: a13 :: a14 :: a15 :: a16 :: a17 :: a18 :: a19 :: r) := q
theorem r_var_19 {a0 a1 a2 a3 a4 a5 a6 a7 a8 a9 a10 a11 a12 a13 a14 a15 a16 a17 a18 : Option V} {r : List (Option V)} (q : Q v H) : tVar 19 (a0 :: a1 :: a2 :: a3 :: a4 :: a5 :: a6 :: a7 :: a8 :: a9 :: a10 :: a11 :: a12 :: a13 :: a14 :: a15 :: a16 :: a17 :: a18 :: some v :: r) H Q := ⟨v, rfl, q⟩
theorem r_set_20 {a0 a1 a2 a3 a4 a5 a6 a7 a8 a9 a10 a11 a12 a13 a14 a15 a16 a17 a18 a19 a20 : Option V} {r : List (Option V)} {N : L2.St → Prop} (q : N (a0 :: a1 :: a2 :: a3 :: a4 :: a5 :: a6 :: a7 :: a8 :: a9 :: a10 :: a11 :: a12 :: a13 :: a14 :: a15 :: a16 :: a17 :: a18 :: a19 :: some v :: r)) : SetR 20 v N (a0 :: a1 :: a2 :: a3 :: a4 :: a5 :: a6 :: a7 :: a8 :: a9 :: a10 :: a11 :: a12 :: a13 :: a14 :: a15 :: a16 :: a17 :: a18 :: a19 :: a20 :: r) := q
theorem r_var_20 {a0 a1 a2 a3 a4 a5 a6 a7 a8 a9 a10 a11 a12 a13 a14 a15 a16 a17 a18 a19 : Option V} {r : List (Option V)} (q : Q v H) : tVar 20 (a0 :: a1 :: a2 :: a3 :: a4 :: a5 :: a6 :: a7 :: a8 :: a9 :: a10 :: a11 :: a12 :: a13 :: a14 :: a15 :: a16 :: a17 :: a18 :: a19 :: some v :: r) H Q := ⟨v, rfl, q⟩
theorem r_set_21 {a0 a1 a2 a3 a4 a5 a6 a7 a8 a9 a10 a11 a12 a13 a14 a15 a16 a17 a18 a19 a20 a21 : Option V} {r : List (Option V)} {N : L2.St → Prop} (q : N (a0 :: a1 :: a2 :: a3 :: a4 :: a5 :: a6 :: a7 :: a8 :: a9 :: a10 :: a11 :: a12 :: a13 :: a14 :: a15 :: a16 :: a17 :: a18 :: a19 :: a20 :: some v :: r)) : SetR 21 v N (a0 :: a1 :: a2 :: a3 :: a4 :: a5 :: a6 :: a7 :: a8 :: a9 :: a10 :: a11 :: a12 :: a13 :: a14 :: a15 :: a16 :: a17 :: a18 :: a19 :: a20 :: a21 :: r) := q
theorem r_var_21 {a0 a1 a2 a3 a4 a5 a6 a7 a8 a9 a10 a11 a12 a13 a14 a15 a16 a17 a18 a19 a20 : Option V} {r : List (Option V)} (q : Q v H) : tVar 21 (a0 :: a1 :: a2 :: a3 :: a4 :: a5 :: a6 :: a7 :: a8 :: a9 :: a10 :: a11 :: a12 :: a13 :: a14 :: a15 :: a16 :: a17 :: a18 :: a19 :: a20 :: some v :: r) H Q := ⟨v, rfl, q⟩
theorem r_set_22 {a0 a1 a2 a3 a4 a5 a6 a7 a8 a9 a10 a11 a12 a13 a14 a15 a16 a17 a18 a19 a20 a21 a22 : Option V} {r : List (Option V)} {N : L2.St → Prop} (q : N (a0 :: a1 :: a2 :: a3 :: a4 :: a5 :: a6 :: a7 :: a8 :: a9 :: a10 :: a11 :: a12 :: a13 :: a14 :: a15 :: a16 :: a17 :: a18 :: a19 :: a20 :: a21 :: some v :: r)) : SetR 22 v N (a0 :: a1 :: a2 :: a3 :: a4 :: a5 :: a6 :: a7 :: a8 :: a9 :: a10 :: a11 :: a12 :: a13 :: a14 :: a15 :: a16 :: a17 :: a18 :: a19 :: a20 :: a21 :: a22 :: r) := q
theorem r_var_22 {a0 a1 a2 a3 a4 a5 a6 a7 a8 a9 a10 a11 a12 a13 a14 a15 a16 a17 a18 a19 a20 a21 : Option V} {r : List (Option V)} (q : Q v H) : tVar 22 (a0 :: a1 :: a2 :: a3 :: a4 :: a5 :: a6 :: a7 :: a8 :: a9 :: a10 :: a11 :: a12 :: a13 :: a14 :: a15 :: a16 :: a17 :: a18 :: a19 :: a20 :: a21 :: some v :: r) H Q := ⟨v, rfl, q⟩
theorem r_set_23 {a0 a1 a2 a3 a4 a5 a6 a7 a8 a9 a10 a11 a12 a13 a14 a15 a16 a17 a18 a19 a20 a21 a22 a23 : Option V} {r : List (Option V)} {N : L2.St → Prop} (q : N (a0 :: a1 :: a2 :: a3 :: a4 :: a5 :: a6 :: a7 :: a8 :: a9 :: a10 :: a11 :: a12 :: a13 :: a14 :: a15 :: a16 :: a17 :: a18 :: a19 :: a20 :: a21 :: a22 :: some v :: r)) : SetR 23 v N (a0 :: a1 :: a2 :: a3 :: a4 :: a5 :: a6 :: a7 :: a8 :: a9 :: a10 :: a11 :: a12 :: a13 :: a14 :: a15 :: a16 :: a17 :: a18 :: a19 :: a20 :: a21 :: a22 :: a23 :: r) := q
theorem r_var_23 {a0 a1 a2 a3 a4 a5 a6 a7 a8 a9 a10 a11 a12 a13 a14 a15 a16 a17 a18 a19 a20 a21 a22 : Option V} {r : List (Option V)} (q : Q v H) : tVar 23 (a0 :: a1 :: a2 :: a3 :: a4 :: a5 :: a6 :: a7 :: a8 :: a9 :: a10 :: a11 :: a12 :: a13 :: a14 :: a15 :: a16 :: a17 :: a18 :: a19 :: a20 :: a21 :: a22 :: some v :: r) H Q := ⟨v, rfl, q⟩
theorem r_set_24 {a0 a1 a2 a3 a4 a5 a6 a7 a8 a9 a10 a11 a12 a13 a14 a15 a16 a17 a18 a19 a20 a21 a22 a23 a24 : Option V} {r : List (Option V)} {N : L2.St → Prop} (q : N (a0 :: a1 :: a2 :: a3 :: a4 :: a5 :: a6 :: a7 :: a8 :: a9 :: a10 :: a11 :: a12 :: a13 :: a14 :: a15 :: a16 :: a17 :: a18 :: a19 :: a20 :: a21 :: a22 :: a23 :: some v :: r)) : SetR 24 v N (a0 :: a1 :: a2 :: a3 :: a4 :: a5 :: a6 :: a7 :: a8 :: a9 :: a10 :: a11 :: a12 :: a13 :: a14 :: a15 :: a16 :: a17 :: a18 :: a19 :: a20 :: a21 :: a22 :: a23 :: a24 :: r) := q
theorem r_var_24 {a0 a1 a2 a3 a4 a5 a6 a7 a8 a9 a10 a11 a12 a13 a14 a15 a16 a17 a18 a19 a20 a21 a22 a23 : Option V} {r : List (Option V)} (q : Q v H) : tVar 24 (a0 :: a1 :: a2 :: a3 :: a4 :: a5 :: a6 :: a7 :: a8 :: a9 :: a10 :: a11 :: a12 :: a13 :: a14 :: a15 :: a16 :: a17 :: a18 :: a19 :: a20 :: a21 :: a22 :: a23 :: some v :: r) H Q := ⟨v, rfl, q⟩
theorem r_set_25 {a0 a1 a2 a3 a4 a5 a6 a7 a8 a9 a10 a11 a12 a13 a14 a15 a16 a17 a18 a19 a20 a21 a22 a23 a24 a25 : Option V} {r : List (Option V)} {N : L2.St → Prop} (q : N (a0 :: a1 :: a2 :: a3 :: a4 :: a5 :: a6 :: a7 :: a8 :: a9 :: a10 :: a11 :: a12 :: a13 :: a14 :: a15 :: a16 :: a17 :: a18 :: a19 :: a20 :: a21 :: a22 :: a23 :: a24 :: some v :: r)) : SetR 25 v N (a0 :: a1 :: a2 :: a3 :: a4 :: a5 :: a6 :: a7 :: a8 :: a9 :: a10 :: a11 :: a12 :: a13 :: a14 :: a15 :: a16 :: a17 :: a18 :: a19 :: a20 :: a21 :: a22 :: a23 :: a24 :: a25 :: r) := q
theorem r_var_25 {a0 a1 a2 a3 a4 a5 a6 a7 a8 a9 a10 a11 a12 a13 a14 a15 a16 a17 a18 a19 a20 a21 a22 a23 a24 : Option V} {r : List (Option V)} (q : Q v H) : tVar 25 (a0 :: a1 :: a2 :: a3 :: a4 :: a5 :: a6 :: a7 :: a8 :: a9 :: a10 :: a11 :: a12 :: a13 :: a14 :: a15 :: a16 :: a17 :: a18 :: a19 :: a20 :: a21 :: a22 :: a23 :: a24 :: some v :: r) H Q := ⟨v, rfl, q⟩
theorem r_set_26 {a0 a1 a2 a3 a4 a5 a6 a7 a8 a9 a10 a11 a12 a13 a14 a15 a16 a17 a18 a19 a20 a21 a22 a23 a24 a25 a26 : Option V} {r : List (Option V)} {N : L2.St → Prop} (q : N (a0 :: a1 :: a2 :: a3 :: a4 :: a5 :: a6 :: a7 :: a8 :: a9 :: a10 :: a11 :: a12 :: a13 :: a14 :: a15 :: a16 :: a17 :: a18 :: a19 :: a20 :: a21 :: a22 :: a23 :: a24 :: a25 :: some v :: r)) : SetR 26 v N (a0 :: a1 :: a2 :: a3 :: a4 :: a5 :: a6 :: a7 :: a8 :: a9 :: a10 :: a11 :: a12 :: a13 :: a14 :: a15 :: a16 :: a17 :: a18 :: a19 :: a20 :: a21 :: a22 :: a23 :: a24 :: a25 :: a26 :: r) := q
theorem r_var_26 {a0 a1 a2 a3 a4 a5 a6 a7 a8 a9 a10 a11 a12 a13 a14 a15 a16 a17 a18 a19 a20 a21 a22 a23 a24 a25 : Option V} {r : List (Option V)} (q : Q v H) : tVar 26 (a0 :: a1 :: a2 :: a3 :: a4 :: a5 :: a6 :: a7 :: a8 :: a9 :: a10 :: a11 :: a12 :: a13 :: a14 :: a15 :: a16 :: a17 :: a18 :: a19 :: a20 :: a21 :: a22 :: a23 :: a24 :: a25 :: some v :: r) H Q := ⟨v, rfl, q⟩
theorem r_set_27 {a0 a1 a2 a3 a4 a5 a6 a7 a8 a9 a10 a11 a12 a13 a14 a15 a16 a17 a18 a19 a20 a21 a22 a23 a24 a25 a26 a27 : Option V} {r : List (Option V)} {N : L2.St → Prop} (q : N (a0 :: a1 :: a2 :: a3 :: a4 :: a5 :: a6 :: a7 :: a8 :: a9 :: a10 :: a11 :: a12 :: a13 :: a14 :: a15 :: a16 :: a17 :: a18 :: a19 :: a20 :: a21 :: a22 :: a23 :: a24 :: a25 :: a26 :: some v :: r)) : SetR 27 v N (a0 :: a1 :: a2 :: a3 :: a4 :: a5 :: a6 :: a7 :: a8 :: a9 :: a10 :: a11 :: a12 :: a13 :: a14 :: a15 :: a16 :: a17 :: a18 :: a19 :: a20 :: a21 :: a22 :: a23 :: a24 :: a25 :: a26 :: a27 :: r) := q
theorem r_var_27 {a0 a1 a2 a3 a4 a5 a6 a7 a8 a9 a10 a11 a12 a13 a14 a15 a16 a17 a18 a19 a20 a21 a22 a23 a24 a25 a26 : Option V} {r : List (Option V)} (q : Q v H) : tVar 27 (a0 :: a1 :: a2 :: a3 :: a4 :: a5 :: a6 :: a7 :: a8 :: a9 :: a10 :: a11 :: a12 :: a13 :: a14 :: a15 :: a16 :: a17 :: a18 :: a19 :: a20 :: a21 :: a22 :: a23 :: a24 :: a25 :: a26 :: some v :: r) H Q := ⟨v, rfl, q⟩
theorem r_asg {i : Nat} (q : te σ H fun x H1 => SetR i x (fun s => D.nx s H1) σ) : tAsg te (gName i) D σ H := q
theorem r_asgG {g : TG} (q : te σ H fun x H1 => g x σ H1 D.nx) : tAsg te g D σ H := q
theorem r_gname {i : Nat} {Q : L2.St → Hp → Prop} (q : SetR i v (fun s => Q s H) σ) : gName i v σ H Q := q
theorem r_gtup {a : Addr} {xs : List V} {n : Nat} {t : TGs} {Q : L2.St → Hp → Prop} (h : SqT K H a xs) (l : xs.length = n) (q : t xs σ H Q) : gTup K n t (.ref a) σ H Q := ⟨a, xs, rfl, h, l, q⟩
theorem r_gcons {g : TG} {t : TGs} {r : List V} {Q : L2.St → Hp → Prop} (q : g v σ H fun σ' H' => t r σ' H' Q) : gCons g t (v :: r) σ H Q := ⟨v, r, rfl, q⟩
theorem r_gnil {Q : L2.St → Hp → Prop} (q : Q σ H) : gNil [] σ H Q := ⟨rfl, q⟩
theorem r_par {i j : Nat} {t : TA} (q : t σ H fun vs H1 => ∃ v w, vs = [v, w] ∧ SetR i v (SetR j w fun s => D.nx s H1) σ) : tPar i j t D σ H := q
theorem r_par2 {k : V → V → Prop} (q : k x y) : ∃ v w, [x, y] = [v, w] ∧ k v w := ⟨x, y, rfl, q⟩
theorem r_par3 {i j l : Nat} {t : TA} (q : t σ H fun vs H1 => ∃ u v w, vs = [u, v, w] ∧ SetR i u (SetR j v (SetR l w fun s => D.nx s H1)) σ) : tPar3 i j l t D σ H := q
theorem r_par33 {k : V → V → V → Prop} {z : V} (q : k x y z) : ∃ u v w, [x, y, z] = [u, v, w] ∧ k u v w := ⟨x, y, z, rfl, q⟩
theorem r_ret (q : te σ H D.rt) : tRet te D σ H := q
theorem r_drop (q : te σ H fun _ H1 => D.nx σ H1) : tDrop te D σ H := q
theorem r_ifS (q : c σ H fun b H1 => if b = true then t D σ H1 else u D σ H1) : tIfS c t u D σ H := q
theorem r_stop (q : tIfS c t u D σ H) : tIfS c t u D σ H := q
/-- an if whose test tells false in some heap behind H -/
theorem r_ifF (h1 : ∀ Z : Bool → Hp → Prop, (∀ H', Same H H' → Z false H') → c σ H Z) (h2 : ∀ H', Same H H' → u D σ H') : tIfS c t u D σ H := h1 _ fun H' s => iteF (h2 H' s)
theorem r_aug {i : Nat} {ti : TIp} (h : σ[i]? = some (some x)) (q : te σ H fun y H1 => ti x y H1 fun z H2 => SetR i z (fun s => D.nx s H2) σ) : tAug i te ti D σ H := ⟨x, h, q⟩
theorem r_ipI {f : Int → Int → Int} {i j : Int} (q : Q (.int (f i j)) H) : ipI f (.int i) (.int j) H Q := ⟨i, j, rfl, rfl, q⟩
/-- a store to a field, by values -/
def FldS (K : PySem.W.Frag) (f : Str) (q : Hp → Prop) (y x : V) (H : Hp) : Prop := ∃ a C dx fs, x = .ref a ∧ H a = some (.ins C dx fs) ∧ Cls K C ∧ NoAttr K C f ∧ fs.length < 1000 ∧ q (upd H a (.ins C dx (putF f y fs)))
theorem r_sfld {tv : TE} {f : Str} (q : tv σ H fun y H1 => ta σ H1 (FldS K f (D.nx σ) y)) : sFld K ta tv f D σ H := q
theorem r_sfldR {f : Str} {q : Hp → Prop} {a C dx : Addr} {fs : List (Str × V)} (h : H a = some (.ins C dx fs)) (c : Cls K C) (n : NoAttr K C f) (l : fs.length < 1000) (p : q (upd H a (.ins C dx (putF f y fs)))) : FldS K f q y (.ref a) H := ⟨a, C, dx, fs, rfl, h, c, n, l, p⟩
theorem r_sfldU {f : Str} {q : Hp → Prop} {a C dx : Addr} {fs : List (Str × V)} (c : Cls K C) (n : NoAttr K C f) (l : fs.length < 1000) (p : q (upd H a (.ins C dx (putF f y fs)))) : FldS K f q y (.ref a) (upd H a (.ins C dx fs)) :=
  ⟨a, C, dx, fs, rfl, upd_same, c, n, l, by
    rw [upd_upd]
    exact p⟩
theorem r_fldU {f : Str} {a C dx : Addr} {fs : List (Str × V)} (c : Cls K C) (n : NoAttr K C f) (l : fs.lookup f = some v) (q : Q v (upd H a (.ins C dx fs))) : FldR K f Q (.ref a) (upd H a (.ins C dx fs)) := ⟨a, C, dx, fs, v, rfl, upd_same, c, n, l, q⟩
/-- inside a while's turn: the next turn's word with a smaller measure -/
theorem r_turn {W : Nat → L2.St → Hp → Prop} {m : Nat} {tb : TS} (q : tb { D with nx := fun σ' H' => ∃ m', m' < m ∧ W m' σ' H', ct := fun σ' H' => ∃ m', m' < m ∧ W m' σ' H', bk := D.nx } σ H) :
    ∃ N : L2.St → Hp → Prop, (∀ σ' H', N σ' H' → ∃ m', m' < m ∧ W m' σ' H') ∧ tb { D with nx := N, ct := N, bk := D.nx } σ H := ⟨_, fun _ _ h => h, q⟩
/-! ### loops -/
theorem r_forL {tl : TE} {g : TG} {tb : TS} (q : tl σ H fun x H1 => ∃ a, x = .ref a ∧ (∃ xs, SqL K H1 a xs) ∧ ∃ W : Nat → Nat → L2.St → Hp → Prop, (∃ m, W 0 m σ H1) ∧ ∀ i m σ H, W i m σ H →
      ((Itl K a).stop i H ∧ D.nx σ H) ∨ ((Itl K a).go i H ∧ ∃ N : L2.St → Hp → Prop, (∀ σ' H', N σ' H' → ∃ m', m' < m ∧ W (i + 1) m' σ' H') ∧ ∀ x H', (Itl K a).yld i H x H' → g x σ H' fun σ2 H2 => tb { D with nx := N, ct := N, bk := D.nx } σ2 H2)) : tFor (iList K tl) g tb D σ H := q
theorem r_forLR {a : Addr} {xs : List V} {P : Addr → Prop} (h : SqL K H a xs) (q : P a) : ∃ a', V.ref a = .ref a' ∧ (∃ xs, SqL K H a' xs) ∧ P a' := ⟨a, rfl, ⟨xs, h⟩, q⟩
/-! ### heaps -/
theorem same_new {p : Addr} {o : HO} (h : H p = none) : Same H (upd H p o) := fun b u e => by
  rw [upd_ne (ne_of_none e h)]
  exact e
/-- what H does not hold may change -/
theorem same_mut {H' : Hp} {p : Addr} {o : HO} (e : Same H H') (h : H p = none) : Same H (upd H' p o) := fun b u q => by
  rw [upd_ne (ne_of_none q h)]
  exact e b u q
theorem same_sqT {a : Addr} {xs : List V} {H' : Hp} (e : Same H H') (h : SqT K H a xs) : SqT K H' a xs := by
  rcases h with (h | ⟨o, h⟩) | h
  · exact .inl (.inl (e _ _ h))
  · exact .inl (.inr ⟨o, e _ _ h⟩)
  · exact .inr h
theorem putF_lt {f : Str} {n : Nat} : ∀ {l : List (Str × V)}, l.length < n → (putF f v l).length < n + 1
  | [], h => by
    show 1 < n + 1
    omega
  | (g, y) :: l, h => by
    unfold putF
    split
    · simp only [List.length_cons] at h ⊢
      omega
    · cases n with
      | zero => simp at h
      | succ n =>
        have z := putF_lt (f := f) (n := n) (l := l) (by simpa using h)
        simp only [List.length_cons]
        omega
end
end G57
end
section
set_option maxRecDepth 100000
set_option maxHeartbeats 4000000
/-! XRead2: readings of loops, comprehensions, slices. -/
namespace G57
open PySem PySem.Spec PyProof.Rows L2
/-- a word about the heap that new objects and a list's growth leave true -/
def Stab (R : Hp → Prop) : Prop := (∀ H H', R H → Same H H' → R H') ∧ ∀ H D zs zs', R H → H D = some (.lst zs) → R (upd H D (.lst zs'))
theorem Stab.triv {A : Prop} : Stab fun _ => A := ⟨fun _ _ h _ => h, fun _ _ _ _ h _ => h⟩
theorem Stab.and {R S : Hp → Prop} (h : Stab R) (k : Stab S) : Stab fun H => R H ∧ S H := ⟨fun _ _ z s => ⟨h.1 _ _ z.1 s, k.1 _ _ z.2 s⟩, fun _ _ _ _ z s => ⟨h.2 _ _ _ _ z.1 s, k.2 _ _ _ _ z.2 s⟩⟩
theorem Stab.ex {α : Type} {R : α → Hp → Prop} (h : ∀ a, Stab (R a)) : Stab fun H => ∃ a, R a H := ⟨fun _ _ ⟨a, z⟩ s => ⟨a, (h a).1 _ _ z s⟩, fun _ _ _ _ ⟨a, z⟩ s => ⟨a, (h a).2 _ _ _ _ z s⟩⟩
theorem Stab.ins {p C dx : Addr} {fs : List (Str × V)} : Stab fun H => H p = some (.ins C dx fs) := ⟨fun _ _ h s => s _ _ h, fun H D zs zs' h e => by
  show upd H D _ p = _
  rw [upd_ne]
  · exact h
  · intro z
    subst z
    have q := e.symm.trans h
    cases q⟩
theorem Stab.tup {p : Addr} {xs : List V} : Stab fun H => H p = some (.tup xs) := ⟨fun _ _ h s => s _ _ h, fun H D zs zs' h e => by
  show upd H D _ p = _
  rw [upd_ne]
  · exact h
  · intro z
    subst z
    have q := e.symm.trans h
    cases q⟩
section
variable {K : PySem.W.Frag} {σ : L2.St} {H H1 : Hp} {Q : VK} {v x y : V} {ta tb tc te : TE} {D : Ends} {t u : TS} {c : TT} {A B : Prop}
theorem sameT {H H' H2 : Hp} (a : Same H H') (b : Same H' H2) : Same H H2 := fun p o h => b p o (a p o h)
theorem sameR {H : Hp} : Same H H := fun _ _ h => h
theorem sqL_same {a : Addr} {xs : List V} {H' : Hp} (h : H a = some (.lst xs)) (s : Same H H') : SqL K H' a xs := .inl (.inl (s _ _ h))
theorem sqL_at {a : Addr} {xs : List V} (h : H a = some (.lst xs)) : SqL K H a xs := .inl (.inl h)
theorem sqT_at {a : Addr} {xs : List V} (h : H a = some (.tup xs)) : SqT K H a xs := .inl (.inl h)
/-! ### ranges, fors -/
theorem r_rng1 {tA : TA} {R : It → Hp → Prop} (q : tA σ H fun vs H1 => ∃ j : Int, vs = [.int j] ∧ -(2 ^ 62) ≤ j ∧ j < 2 ^ 62 ∧ R (Itr 0 j.toNat) H1) : iRng1 tA σ H R := q
theorem r_rng1v {j : Int} {R : It → Hp → Prop} (h : -(2 ^ 62) ≤ j ∧ j < 2 ^ 62) (q : R (Itr 0 j.toNat) H) : ∃ j' : Int, [V.int j] = [.int j'] ∧ -(2 ^ 62) ≤ j' ∧ j' < 2 ^ 62 ∧ R (Itr 0 j'.toNat) H := ⟨j, rfl, h.1, h.2, q⟩
theorem r_rng2 {tA : TA} {R : It → Hp → Prop} (q : tA σ H fun vs H1 => ∃ i j : Int, vs = [.int i, .int j] ∧ (-(2 ^ 62) ≤ i ∧ i < 2 ^ 62 ∧ -(2 ^ 62) ≤ j ∧ j < 2 ^ 62) ∧ R (Itr i (j - i).toNat) H1) : iRng2 tA σ H R := q
theorem r_rng2v {i j : Int} {R : It → Hp → Prop} (h : -(2 ^ 62) ≤ i ∧ i < 2 ^ 62 ∧ -(2 ^ 62) ≤ j ∧ j < 2 ^ 62) (q : R (Itr i (j - i).toNat) H) : ∃ i' j' : Int, [V.int i, V.int j] = [.int i', .int j'] ∧ (-(2 ^ 62) ≤ i' ∧ i' < 2 ^ 62 ∧ -(2 ^ 62) ≤ j' ∧ j' < 2 ^ 62) ∧ R (Itr i' (j' - i').toNat) H := ⟨i, j, rfl, h, q⟩
/-- a for behind what it walks -/
def ForR (J : It) (g : TG) (tb : TS) (D : Ends) (σ : L2.St) (H1 : Hp) : Prop := ∃ W : Nat → Nat → L2.St → Hp → Prop, (∃ m, W 0 m σ H1) ∧ ∀ i m σ H, W i m σ H →
      (J.stop i H ∧ D.nx σ H) ∨ (J.go i H ∧ ∃ N : L2.St → Hp → Prop, (∀ σ' H', N σ' H' → ∃ m', m' < m ∧ W (i + 1) m' σ' H') ∧ ∀ x H', J.yld i H x H' → g x σ H' fun σ2 H2 => tb { D with nx := N, ct := N, bk := D.nx } σ2 H2)
theorem r_for {wi : TI} {g : TG} {tb : TS} (q : wi σ H fun J H1 => ForR J g tb D σ H1) : tFor wi g tb D σ H := q
/-- one turn of a for -/
def TurnR (g : TG) (tb : TS) (D : Ends) (N : L2.St → Hp → Prop) (x : V) (σ : L2.St) (H : Hp) : Prop := g x σ H fun σ2 H2 => tb { D with nx := N, ct := N, bk := D.nx } σ2 H2
theorem r_turnN {j : Nat} {tb : TS} {N : L2.St → Hp → Prop} (q : SetR j x (fun s => tb { D with nx := N, ct := N, bk := D.nx } s H) σ) : TurnR (gName j) tb D N x σ H := q
theorem r_turnG {g : TG} {tb : TS} {N : L2.St → Hp → Prop} (q : g x σ H fun σ2 H2 => tb { D with nx := N, ct := N, bk := D.nx } σ2 H2) : TurnR g tb D N x σ H := q
theorem fR_range {lo : Int} {n : Nat} {g : TG} {tb : TS} (Pv : Nat → L2.St → Hp → Prop) (h0 : Pv 0 σ H) (hs : ∀ i σ H, i < n → Pv i σ H → TurnR g tb D (Pv (i + 1)) (.int (lo + i)) σ H) (hd : ∀ σ H, Pv n σ H → D.nx σ H) : ForR (Itr lo n) g tb D σ H := for_range Pv h0 hs hd
theorem fR_list {a : Addr} {xs : List V} {g : TG} {tb : TS} (Pv : Nat → L2.St → Hp → Prop) (h0 : Pv 0 σ H) (hl : ∀ i σ H, i ≤ xs.length → Pv i σ H → SqL K H a xs) (hs : ∀ i x σ H, xs[i]? = some x → Pv i σ H → TurnR g tb D (Pv (i + 1)) x σ H) (hd : ∀ σ H, Pv xs.length σ H → D.nx σ H) : ForR (Itl K a) g tb D σ H := for_list Pv h0 hl hs hd
theorem fR_tup {a : Addr} {xs : List V} {g : TG} {tb : TS} (Pv : Nat → L2.St → Hp → Prop) (h0 : Pv 0 σ H) (hl : ∀ i σ H, i ≤ xs.length → Pv i σ H → SqT K H a xs) (hs : ∀ i x σ H, xs[i]? = some x → Pv i σ H → TurnR g tb D (Pv (i + 1)) x σ H) (hd : ∀ σ H, Pv xs.length σ H → D.nx σ H) : ForR (Itt K a) g tb D σ H := for_tup Pv h0 hl hs hd
theorem fR_enumT {a : Addr} {xs : List V} {g : TG} {tb : TS} (Pv : Nat → L2.St → Hp → Prop) (h0 : Pv 0 σ H) (hl : ∀ i σ H, Pv i σ H → SqT K H a xs) (hs : ∀ (i : Nat) (x : V) (T : Addr) (σ : L2.St) (H : Hp), xs[i]? = some x → Pv i σ H → H T = none → TurnR g tb D (Pv (i + 1)) (.ref T) σ (upd H T (.tup [.int (i : Nat), x]))) (hd : ∀ σ H, Pv xs.length σ H → D.nx σ H) : ForR (IteT K a) g tb D σ H := for_enumT Pv h0 hl hs hd
theorem r_iL {tl : TE} {R : It → Hp → Prop} (q : tl σ H fun x H1 => ∃ a, x = .ref a ∧ (∃ xs, SqL K H1 a xs) ∧ R (Itl K a) H1) : iList K tl σ H R := q
theorem r_iLv {a : Addr} {xs : List V} {R : It → Hp → Prop} (h : SqL K H a xs) (q : R (Itl K a) H) : ∃ a', V.ref a = .ref a' ∧ (∃ xs, SqL K H a' xs) ∧ R (Itl K a') H := ⟨a, rfl, ⟨xs, h⟩, q⟩
theorem r_iT {tl : TE} {R : It → Hp → Prop} (q : tl σ H fun x H1 => ∃ a, x = .ref a ∧ (∃ xs, SqT K H1 a xs) ∧ R (Itt K a) H1) : iTup K tl σ H R := q
theorem r_iE {tA : TA} {R : It → Hp → Prop} (q : tA σ H fun vs H1 => ∃ a xs, vs = [.ref a] ∧ SqT K H1 a xs ∧ R (IteT K a) H1) : iEnumT K tA σ H R := q
theorem r_iEv {a : Addr} {xs : List V} {R : It → Hp → Prop} (h : SqT K H a xs) (q : R (IteT K a) H) : ∃ a' xs', [V.ref a] = [.ref a'] ∧ SqT K H a' xs' ∧ R (IteT K a') H := ⟨a, xs, rfl, h, q⟩
/-- a list comprehension behind its first word -/
def LcR (J : It) (g : TG) (tt : TT) (te : TE) (vs : List Nat) (σ : L2.St) (Q : VK) (H1 : Hp) : Prop := ∀ D, H1 D = none → ∃ W : Nat → Nat → Hp → Prop, (∃ m, W 0 m (upd H1 D (.lst []))) ∧ ∀ i m H, W i m H →
  (J.stop i H ∧ Q (.ref D) H) ∨ (J.go i H ∧ ∃ Nx : Hp → Prop, (∀ H', Nx H' → ∃ m', m' < m ∧ W (i + 1) m' H') ∧ ∀ x H', J.yld i H x H' → g x (wipe σ vs) H' fun σ2 H2 => wipe σ2 vs = wipe σ vs ∧ tt σ2 H2 fun b H3 =>
    if b = true then te σ2 H3 fun y H4 => ∃ acc, H4 D = some (.lst acc) ∧ acc.length < sizeLine ∧ Nx (upd H4 D (.lst (acc ++ [y]))) else Nx H3)
theorem r_lc {wi : TI} {g : TG} {tt : TT} {vs : List Nat} (q : wi σ H fun J H1 => LcR J g tt te vs σ Q H1) : tLc wi g tt te vs σ H Q := q
theorem r_lc1 {wi : TI} {g : TG} {tt : TT} {x1 : Str} {k1 : Nat} (q : wi σ H fun J H1 => LcR J g tt te [k1] σ Q H1) : tLc wi g tt te (List.map (fun x => x.snd) [(x1, k1)]) σ H Q := q
theorem r_lc2 {wi : TI} {g : TG} {tt : TT} {x1 x2 : Str} {k1 k2 : Nat} (q : wi σ H fun J H1 => LcR J g tt te [k1, k2] σ Q H1) : tLc wi g tt te (List.map (fun x => x.snd) [(x1, k1), (x2, k2)]) σ H Q := q
theorem r_lc3 {wi : TI} {g : TG} {tt : TT} {x1 x2 x3 : Str} {k1 k2 k3 : Nat} (q : wi σ H fun J H1 => LcR J g tt te [k1, k2, k3] σ Q H1) : tLc wi g tt te (List.map (fun x => x.snd) [(x1, k1), (x2, k2), (x3, k3)]) σ H Q := q
theorem wipe1 {j : Nat} (v : V) : (wipe σ [j]).set j (some v) = σ.set j (some v) := by
  simp [wipe, List.set_set]
theorem wipe1' {j : Nat} (v : V) : wipe ((wipe σ [j]).set j (some v)) [j] = wipe σ [j] := by
  simp [wipe, List.set_set]
theorem wipe2 {i j : Nat} (n : i ≠ j) (a b : Option V) : ((wipe σ [i, j]).set i a).set j b = (σ.set i a).set j b := by
  show (((σ.set j none).set i none).set i a).set j b = _
  rw [List.set_set, List.set_comm _ _ n.symm, List.set_set]
theorem wipe2' {i j : Nat} (n : i ≠ j) (a b : Option V) : wipe ((σ.set i a).set j b) [i, j] = wipe σ [i, j] := by
  show (((σ.set i a).set j b).set j none).set i none = (σ.set j none).set i none
  rw [List.set_set, List.set_comm _ _ n, List.set_set]
/-- the word of a list comprehension's turn: the list so far -/
def LcP (H1 : Hp) (D : Addr) (R : Nat → V → Hp → Prop) (i : Nat) (H : Hp) : Prop := ∃ ys, H D = some (.lst ys) ∧ ys.length = i ∧ Same H1 H ∧ ∀ j y, ys[j]? = some y → R j y H
theorem lcP_0 {D : Addr} {R : Nat → V → Hp → Prop} (h : H1 D = none) : LcP H1 D R 0 (upd H1 D (.lst [])) := ⟨[], upd_same, rfl, same_new h, fun j y e => by simp at e⟩
theorem lcP_step {D : Addr} {R : Nat → V → Hp → Prop} (hR : ∀ i v, Stab (R i v)) {i n : Nat} (hn : n ≤ sizeLine) (hi : i < n) {H4 : Hp} (h0 : H1 D = none) (h : LcP H1 D R i H) (s : Same H H4) (r : R i y H4) :
    ∃ acc, H4 D = some (.lst acc) ∧ acc.length < sizeLine ∧ LcP H1 D R (i + 1) (upd H4 D (.lst (acc ++ [y]))) := by
  obtain ⟨ys, e, l, s1, hr⟩ := h
  refine ⟨ys, s _ _ e, by omega, _, upd_same, by simp [l], same_mut (sameT s1 s) h0, fun j z ez => ?_⟩
  refine (hR j z).2 _ _ _ _ ?_ (s _ _ e)
  rcases Nat.lt_trichotomy j ys.length with lt | eq | gt
  · rw [List.getElem?_append_left lt] at ez
    exact (hR j z).1 _ _ (hr j z ez) s
  · subst eq
    rw [List.getElem?_append_right (Nat.le_refl _)] at ez
    simp at ez
    subst ez
    rw [l]
    exact r
  · rw [List.getElem?_eq_none (by simp; omega)] at ez
    cases ez
theorem tYes_of {F : Hp → Prop} {Z : VK} (h : te σ H Z) : tYes σ H fun b H3 => if b = true then te σ H3 Z else F H3 := by
  show if true = true then te σ H Z else F H
  exact iteT h
theorem lcN_range {lo : Int} {n j : Nat} {vs : List Nat} (R : Nat → V → Hp → Prop) (hR : ∀ i v, Stab (R i v)) (hn : n ≤ sizeLine) (hw : ∀ v, wipe ((wipe σ vs).set j (some v)) vs = wipe σ vs)
    (hs : ∀ i H' (Z : VK), i < n → Same H1 H' → (∀ y H4, Same H' H4 → R i y H4 → Z y H4) → te ((wipe σ vs).set j (some (.int (lo + i)))) H' Z)
    (hd : ∀ D H' ys, H1 D = none → Same H1 H' → H' D = some (.lst ys) → ys.length = n → (∀ i y, ys[i]? = some y → R i y H') → Q (.ref D) H') :
    LcR (Itr lo n) (gName j) tYes te vs σ Q H1 := fun D hD =>
  lc_range (LcP H1 D R) (lcP_0 hD) (fun i H' hi p => ⟨hw _, tYes_of (hs i H' _ hi p.choose_spec.2.2.1 fun y H4 s r => lcP_step hR hn hi hD p s r)⟩) fun H' p => by
    obtain ⟨ys, e, l, s, hr⟩ := p
    exact hd D H' ys hD s e l hr
theorem lcN_list {a : Addr} {xs : List V} {j : Nat} {vs : List Nat} (R : Nat → V → Hp → Prop) (hR : ∀ i v, Stab (R i v)) (hl : H1 a = some (.lst xs)) (hn : xs.length ≤ sizeLine) (hw : ∀ v, wipe ((wipe σ vs).set j (some v)) vs = wipe σ vs)
    (hs : ∀ i x H' (Z : VK), xs[i]? = some x → Same H1 H' → (∀ y H4, Same H' H4 → R i y H4 → Z y H4) → te ((wipe σ vs).set j (some x)) H' Z)
    (hd : ∀ D H' ys, H1 D = none → Same H1 H' → H' D = some (.lst ys) → ys.length = xs.length → (∀ i y, ys[i]? = some y → R i y H') → Q (.ref D) H') :
    LcR (Itl K a) (gName j) tYes te vs σ Q H1 := fun D hD =>
  lc_list (xs := xs) (LcP H1 D R) (lcP_0 hD) (fun i H' hi p => sqL_same hl p.choose_spec.2.2.1) (fun i x H' hx p => ⟨hw _, tYes_of (hs i x H' _ hx p.choose_spec.2.2.1 fun y H4 s r => lcP_step hR hn (List.getElem?_eq_some_iff.mp hx).1 hD p s r)⟩) fun H' p => by
    obtain ⟨ys, e, l, s, hr⟩ := p
    exact hd D H' ys hD s e l hr
theorem lcN_tup {a : Addr} {xs : List V} {j : Nat} {vs : List Nat} (R : Nat → V → Hp → Prop) (hR : ∀ i v, Stab (R i v)) (hl : SqT K H1 a xs) (hn : xs.length ≤ sizeLine) (hw : ∀ v, wipe ((wipe σ vs).set j (some v)) vs = wipe σ vs)
    (hs : ∀ i x H' (Z : VK), xs[i]? = some x → Same H1 H' → (∀ y H4, Same H' H4 → R i y H4 → Z y H4) → te ((wipe σ vs).set j (some x)) H' Z)
    (hd : ∀ D H' ys, H1 D = none → Same H1 H' → H' D = some (.lst ys) → ys.length = xs.length → (∀ i y, ys[i]? = some y → R i y H') → Q (.ref D) H') :
    LcR (Itt K a) (gName j) tYes te vs σ Q H1 := fun D hD =>
  lc_tup (xs := xs) (LcP H1 D R) (lcP_0 hD) (fun i H' hi p => same_sqT p.choose_spec.2.2.1 hl) (fun i x H' hx p => ⟨hw _, tYes_of (hs i x H' _ hx p.choose_spec.2.2.1 fun y H4 s r => lcP_step hR hn (List.getElem?_eq_some_iff.mp hx).1 hD p s r)⟩) fun H' p => by
    obtain ⟨ys, e, l, s, hr⟩ := p
    exact hd D H' ys hD s e l hr
/-- a list of ints, its items by their places -/
theorem ints_of {ys : List V} {n : Nat} {f : Nat → Int} (l : ys.length = n) (h : ∀ (i : Nat) (y : V), ys[i]? = some y → y = V.int (f i)) : ys = ((List.range n).map f).map V.int := by
  subst l
  refine List.ext_getElem? fun i => ?_
  by_cases lt : i < ys.length
  · rw [List.getElem?_eq_getElem lt]
    rw [h i _ (List.getElem?_eq_getElem lt)]
    simp [lt]
  · rw [List.getElem?_eq_none (by omega), List.getElem?_eq_none (by simp; omega)]
/-! ### whiles -/
theorem r_while {tt : TT} {tb : TS} (q : ∃ W : Nat → L2.St → Hp → Prop, (∃ m, W m σ H) ∧ ∀ m σ H, W m σ H →
  tt σ H fun b H1 => if b = true then ∃ N : L2.St → Hp → Prop, (∀ σ' H', N σ' H' → ∃ m', m' < m ∧ W m' σ' H') ∧ tb { D with nx := N, ct := N, bk := D.nx } σ H1 else D.nx σ H1) : tWhile tt tb D σ H := q
/-! ### slices, sums -/
theorem r_revL {a : Addr} {xs : List V} (h : SqL K H a xs) (q : ∀ p, H p = none → Q (.ref p) (upd H p (.lst xs.reverse))) : ∃ a' ys, V.ref a = .ref a' ∧ SqL K H a' ys ∧ ∀ p, H p = none → Q (.ref p) (upd H p (.lst ys.reverse)) := ⟨a, xs, rfl, h, q⟩
theorem at_m1 {xs : List V} (l : xs[xs.length - 1]? = some v) : atI xs (-1) = some v := by
  have lt := (List.getElem?_eq_some_iff.mp l).1
  unfold atI ixN
  have e : (-1 : Int) + (xs.length : Nat) = ((xs.length - 1 : Nat) : Int) := by omega
  have c : 1 ≤ ((xs.length : Nat) : Int) := by omega
  simp only [Int.reduceNeg, Int.reduceLE, reduceIte, Int.neg_le_neg_iff, if_pos c, e, Int.toNat_natCast, Option.bind_some]
  exact l
theorem r_rev (q : te σ H fun x H1 => ∃ a xs, x = .ref a ∧ SqL K H1 a xs ∧ ∀ p, H1 p = none → Q (.ref p) (upd H1 p (.lst xs.reverse))) : tRevL K te σ H Q := q
theorem r_sl {r : V → Option Int → Option Int → Hp → VK → Prop} {tl th : TO} (q : te σ H fun x H1 => tl σ H1 fun l H2 => th σ H2 fun u H3 => r x l u H3 Q) : tSl r te tl th σ H Q := q
def PartR (Q : Option Int → Hp → Prop) (x : V) (H1 : Hp) : Prop := ∃ i, x = .int i ∧ Q (some i) H1
theorem r_part {Q : Option Int → Hp → Prop} (q : te σ H (PartR Q)) : tPart te σ H Q := q
theorem r_pi {Q : Option Int → Hp → Prop} {i : Int} (q : Q (some i) H) : PartR Q (.int i) H := ⟨i, rfl, q⟩
theorem r_noPart {Q : Option Int → Hp → Prop} (q : Q none H) : tNoPart σ H Q := q
theorem cutV_take {xs : List V} (k : Nat) : cutV xs none (some (k : Int)) = xs.take k := by
  unfold cutV
  rw [HT.sIx_nat, HT.sIx_none]
  simp only [List.drop_zero, Nat.sub_zero]
  by_cases h : k ≤ xs.length
  · rw [Nat.min_eq_left h]
  · rw [Nat.min_eq_right (by omega), List.take_of_length_le (Nat.le_refl _), List.take_of_length_le (by omega)]
theorem cutV_drop {xs : List V} (k : Nat) : cutV xs (some (k : Int)) none = xs.drop k := by
  unfold cutV
  rw [HT.sIx_nat, HT.sIx_none]
  by_cases h : k ≤ xs.length
  · rw [Nat.min_eq_left h, List.take_of_length_le (by simp)]
  · rw [Nat.min_eq_right (by omega), List.drop_of_length_le (Nat.le_refl _), List.drop_of_length_le (by omega)]
    simp
theorem cutV_mid {xs : List V} (j k : Nat) (h : k ≤ xs.length) : cutV xs (some (j : Int)) (some (k : Int)) = (xs.take k).drop j := by
  unfold cutV
  rw [HT.sIx_nat, HT.sIx_nat, Nat.min_eq_left h, List.drop_take]
  by_cases hj : j ≤ xs.length
  · rw [Nat.min_eq_left hj]
  · rw [Nat.min_eq_right (by omega), List.drop_of_length_le (Nat.le_refl _), List.drop_of_length_le (by omega)]
    simp
theorem r_slL {a : Addr} {xs : List V} {lo hi : Option Int} (h : SqL K H a xs) (q : ∀ p, H p = none → Q (.ref p) (upd H p (.lst (cutV xs lo hi)))) : rSlL K (.ref a) lo hi H Q := ⟨a, xs, rfl, h, q⟩
theorem r_cat {a b : Addr} {xs ys : List V} (h : H a = some (.lst xs)) (k : H b = some (.lst ys)) (l : xs.length + ys.length ≤ sizeLine) (q : ∀ p, H p = none → Q (.ref p) (upd H p (.lst (xs ++ ys)))) : rCat (.ref a) (.ref b) H Q := ⟨a, b, xs, ys, rfl, rfl, h, k, l, q⟩
theorem r_catA {a b : Addr} {xs ys : List V} (h : SqT K H a xs) (k : SqT K H b ys) (l : xs.length + ys.length ≤ sizeLine) (q : ∀ p H', Same H H' → SqT K H' p (xs ++ ys) → Q (.ref p) H') : rCatA K (.ref a) (.ref b) H Q := by
  refine ⟨a, b, xs, ys, rfl, rfl, h, k, l, fun e => ?_, fun _ e => ?_, fun _ _ p hp => ?_⟩
  · subst e
    exact q b H sameR k
  · subst e
    exact q a H sameR (by rw [List.append_nil]; exact h)
  · exact q p _ (same_new hp) (sqT_at upd_same)
theorem r_slA {a : Addr} {xs : List V} {lo hi : Option Int} (h : SqT K H a xs) (q : ∀ p H', Same H H' → SqT K H' p (cutV xs lo hi) → Q (.ref p) H') : rSlA K (.ref a) lo hi H Q := by
  refine ⟨a, xs, rfl, h, fun e => ?_, fun _ p hp => ?_⟩
  · refine q a H sameR ?_
    have z : cutV xs lo hi = xs := by
      unfold cutV
      rw [e.1, e.2]
      simp
    rw [z]
    exact h
  · exact q p _ (same_new hp) (sqT_at upd_same)
theorem iN' {p : Prop} [Decidable p] {B : Prop} {A : Prop} (h : p) (q : B) : if (!decide p) = true then A else B := i2n (fun z => absurd h z) fun _ => q
theorem iY' {p : Prop} [Decidable p] {B : Prop} {A : Prop} (h : ¬ p) (q : A) : if (!decide p) = true then A else B := i2n (fun _ => q) fun z => absurd z h
theorem none_of_same {H H' : Hp} {p : Addr} (s : Same H H') (h : H' p = none) : H p = none := by
  cases e : H p with
  | none => rfl
  | some o => exact absurd (h.symm.trans (s _ _ e)) (by simp)
/-- a class's constant, by values -/
def CvR (K : PySem.W.Frag) (f : Str) (Q : VK) (x : V) (H1 : Hp) : Prop := ∃ C mc v u, x = .ref C ∧ ClX.CRead K C mc ∧ ClX.CVal K C mc f v u ∧ Q v H1
theorem r_cval {tc : TE} {f : Str} (q : tc σ H (CvR K f Q)) : ClX.tCVal K tc f σ H Q := q
theorem r_cvalR {f : Str} {C : Addr} {mc : Value} {v : V} (h : ClX.CRead K C mc ∧ ∃ u, ClX.CVal K C mc f v u) (q : Q v H) : CvR K f Q (.ref C) H :=
  let ⟨a, u, b⟩ := h; ⟨C, mc, v, u, rfl, a, b, q⟩
theorem r_augS {to ti : TE} {g : V → V → Hp → VK → Prop} {tip : TIp} {ts : TSet} (q : to σ H fun o H1 => ti σ H1 fun i H2 => g o i H2 fun x H3 => te σ H3 fun y H4 => tip x y H4 fun z H5 => ts o i z H5 fun H6 => D.nx σ H6) : tAugS to ti te g tip ts D σ H := q
/-! ### stores -/
theorem r_gsub {to ti : TE} {ts : TSet} {Q : L2.St → Hp → Prop} (q : to σ H fun o H1 => ti σ H1 fun i H2 => ts o i v H2 fun H3 => Q σ H3) : gSub to ti ts v σ H Q := q
theorem r_setL {p : Addr} {xs : List V} {k : Int} {j : Nat} {Q : Hp → Prop} (h : H p = some (.lst xs)) (e : k = (j : Int)) (l : j < xs.length) (q : Q (upd H p (.lst (xs.set j v)))) : rSetL (.ref p) (.int k) v H Q := by
  subst e
  refine ⟨p, xs, _, j, rfl, rfl, h, ?_, q⟩
  unfold ixN
  rw [if_pos (by omega), if_pos (by omega)]
  rfl
/-! ### == of plain data -/
theorem dpAll_ints : ∀ ns : List Int, DpAll K H (ns.map V.int) (ns.map PyData.int)
  | [] => .nil
  | n :: ns => .cons (.int n) (dpAll_ints ns)
theorem lay_ints : ∀ ns : List Int, PyData.canLayAll0 (ns.map PyData.int) = true ∧ PyData.depthAll (ns.map PyData.int) = 0
  | [] => ⟨rfl, rfl⟩
  | n :: ns => by
    obtain ⟨h1, h2⟩ := lay_ints ns
    constructor
    · show (true && PyData.canLayAll0 (ns.map PyData.int)) = true
      rw [h1]
      rfl
    · show max 0 (PyData.depthAll (ns.map PyData.int)) = 0
      rw [h2]
      rfl
theorem shaped_tupI (ns : List Int) : SeqAt.shaped (.tuple (ns.map PyData.int)) = true := by
  obtain ⟨h1, h2⟩ := lay_ints ns
  show (PyData.canLayAll0 (ns.map PyData.int) && decide (PyData.depthAll (ns.map PyData.int) + 1 ≤ 64)) = true
  rw [h1, h2]
  rfl
theorem shaped_lstI (ns : List Int) : SeqAt.shaped (.list (ns.map PyData.int)) = true := shaped_tupI ns
theorem eqvAll_ints : ∀ ns ms : List Int, PyData.eqvAll (ns.map PyData.int) (ms.map PyData.int) = decide (ns = ms)
  | [], [] => by simp [PyData.eqvAll]
  | [], _ :: _ => by simp [PyData.eqvAll]
  | _ :: _, [] => by simp [PyData.eqvAll]
  | n :: ns, m :: ms => by
    have e := eqvAll_ints ns ms
    simp only [List.map_cons, PyData.eqvAll, e]
    by_cases h : n = m <;> by_cases k : ns = ms <;> simp [PyData.eqv, h, k]
theorem eqv_tupI (ns ms : List Int) : PyData.eqv (.tuple (ns.map PyData.int)) (.tuple (ms.map PyData.int)) = decide (ns = ms) := by
  rw [← eqvAll_ints]
  simp only [PyData.eqv]
theorem eqv_lstI (ns ms : List Int) : PyData.eqv (.list (ns.map PyData.int)) (.list (ms.map PyData.int)) = decide (ns = ms) := by
  rw [← eqvAll_ints]
  simp only [PyData.eqv]
theorem r_eqTI {a b : Addr} {ns ms : List Int} (h : SqT K H a (ns.map V.int)) (k : SqT K H b (ms.map V.int)) (q : Q (.bl (decide (ns = ms))) H) : rEqD K (.ref a) (.ref b) H Q :=
  ⟨_, _, .tup h (dpAll_ints ns), .tup k (dpAll_ints ms), shaped_tupI ns, shaped_tupI ms, by rw [eqv_tupI]; exact q⟩
theorem r_eqD {d e : PyData} (h : Dp K H x d) (k : Dp K H y e) (sd : SeqAt.shaped d = true) (se : SeqAt.shaped e = true) (q : Q (.bl (PyData.eqv d e)) H) : rEqD K x y H Q := ⟨d, e, h, k, sd, se, q⟩
/-- all but one place as it was -/
def SameX (p : Addr) (H H' : Hp) : Prop := ∀ b o, b ≠ p → H b = some o → H' b = some o
theorem SameX.tr {p : Addr} {H H' H2 : Hp} (a : SameX p H H') (s : Same H' H2) : SameX p H H2 := fun b o n e => s b o (a b o n e)
theorem SameX.of {p : Addr} {H H' : Hp} (s : Same H H') : SameX p H H' := fun b o _ e => s b o e
theorem SameX.at {p : Addr} {H H' : Hp} {o : HO} (a : SameX p H H') : SameX p H (upd H' p o) := fun b u n e => by
  rw [upd_ne n]
  exact a b u n e
theorem SameX.mut {p q : Addr} {H H' : Hp} {o : HO} (a : SameX p H H') (h : H q = none) : SameX p H (upd H' q o) := fun b u n e => by
  rw [upd_ne (ne_of_none e h)]
  exact a b u n e
theorem SameX.none {p q : Addr} {H H' : Hp} (a : SameX p H H') (n : q ≠ p) (h : H' q = none) : H q = .none := by
  cases e : H q with
  | none => rfl
  | some o => exact absurd (h.symm.trans (a q o n e)) (by simp)
end
end G57
end
section
set_option maxRecDepth 100000
set_option maxHeartbeats 4000000
/-! XAlk: isinstance readings, an index of a list or a tuple, alike data, a law's drawn numbers. -/
namespace G57
open PySem PySem.Spec PyProof.Rows L2
/-- o[i], o a list or a tuple -/
def rIxS (K : PySem.W.Frag) : R2 := fun x i H Q => rIxL K x i H Q ∨ rIxT K x i H Q
section
variable {X : Cx} {K : PySem.W.Frag} {H : Hp} {Q : VK} {x : V}
theorem ix_any : IxR X (rIxS X.K) := fun value slice pins s σ H x y v u Q I rx ry h hs => by
  rcases h with h | h
  · exact ix_list value slice pins s σ H x y v u Q I rx ry h hs
  · exact ix_tup value slice pins s σ H x y v u Q I rx ry h hs
theorem tyx_int {i : Int} : TyX K H (.int i) (.type "int") := .base (.int i)
theorem tyx_non : TyX K H .non (.type "NoneType") := .base .non
theorem tyx_bl {b : Bool} : TyX K H (.bl b) (.type "bool") := .base (.bl b)
theorem tyx_str {b : Str} : TyX K H (.str b) (.type "str") := .base (.str b)
theorem tyx_sqL {a : Addr} {xs : List V} (h : SqL K H a xs) : TyX K H (.ref a) (.type "list") := by
  rcases h with (h | ⟨o, h⟩) | ⟨o, its, n, h, c, _⟩
  · exact .base (.lst h)
  · exact .base (.frz h)
  · exact .kList h c
theorem tyx_sqT {a : Addr} {xs : List V} (h : SqT K H a xs) : TyX K H (.ref a) (.type "tuple") := by
  rcases h with (h | ⟨o, h⟩) | ⟨o, its, n, h, c, _⟩
  · exact .base (.tup h)
  · exact .fTuple h
  · exact .kTuple h c
theorem r_isi {t c : String} {b : Bool} (h : TyX K H x (.type t)) (k : kitB t c = some b) (q : Q (.bl b) H) : rIsi K [x, .ty c] H Q := ⟨x, .ty c, .type t, .type c, b, rfl, .ty c, h, kit_ty k, q⟩
theorem r_isi2 {t c d : String} {b1 b2 : Bool} {p : Addr} (hp : H p = some (.tup [.ty c, .ty d])) (h : TyX K H x (.type t)) (k1 : kitB t c = some b1) (k2 : kitB t d = some b2) (q : Q (.bl (b1 || b2)) H) : rIsiT K [x, .ref p] H Q :=
  ⟨x, p, [.ty c, .ty d], .type t, [.type c, .type d], b1 || b2, rfl, hp, .cons (.ty c) (.cons (.ty d) .nil), h, kitAny_cons (kit_ty k1) (fun e => by
    subst e
    refine kitAny_cons (kit_ty k2) (fun e => ?_) (fun e => ?_)
    · subst e
      exact kitAny_nil
    · subst e
      rfl) (fun e => by
    subst e
    rfl), q⟩
theorem r_eqS {y : V} (h : scal x y = true) (q : Q (.bl (decide (x = y))) H) : rEq x y H Q := ⟨h, q⟩
theorem r_neS {y : V} (h : scal x y = true) (q : Q (.bl (!decide (x = y))) H) : rNe x y H Q := ⟨h, q⟩
end
/-- a value without parts -/
inductive Flt : V → Prop where
  | int (i : Int) : Flt (.int i)
  | non : Flt .non
  | bl (b : Bool) : Flt (.bl b)
/-- alike, one nesting above A -/
def AlkS (K : PySem.W.Frag) (A : Hp → V → V → Prop) (H : Hp) (x y : V) : Prop := (x = y ∧ Flt x) ∨ ∃ (a b : Addr) (xs ys : List V), x = .ref a ∧ y = .ref b ∧ ((SqL K H a xs ∧ SqL K H b ys) ∨ (SqT K H a xs ∧ SqT K H b ys)) ∧ xs.length = ys.length ∧ xs.length ≤ 100000 ∧ ∀ (i : Nat) u v, xs[i]? = some u → ys[i]? = some v → A H u v
/-- alike: the same numbers, lists and tuples of them, of nesting at most n -/
def AlkD (K : PySem.W.Frag) : Nat → Hp → V → V → Prop
  | 0 => AlkS K fun _ _ _ => False
  | n + 1 => AlkS K (AlkD K n)
theorem same_sqL {K : PySem.W.Frag} {H H' : Hp} {a : Addr} {xs : List V} (e : Same H H') (h : SqL K H a xs) : SqL K H' a xs := by
  rcases h with (h | ⟨o, h⟩) | h
  · exact .inl (.inl (e _ _ h))
  · exact .inl (.inr ⟨o, e _ _ h⟩)
  · exact .inr h
theorem AlkS.mono {K : PySem.W.Frag} {A : Hp → V → V → Prop} (ha : ∀ H H' x y, A H x y → Same H H' → A H' x y) {H H' : Hp} {x y : V} (h : AlkS K A H x y) (s : Same H H') : AlkS K A H' x y := by
  rcases h with h | ⟨a, b, xs, ys, e1, e2, h, l, l2, k⟩
  · exact .inl h
  · refine .inr ⟨a, b, xs, ys, e1, e2, ?_, l, l2, fun i u v h1 h2 => ha _ _ _ _ (k i u v h1 h2) s⟩
    rcases h with h | h
    · exact .inl ⟨same_sqL s h.1, same_sqL s h.2⟩
    · exact .inr ⟨same_sqT s h.1, same_sqT s h.2⟩
theorem AlkD.mono {K : PySem.W.Frag} : ∀ (n : Nat) (H H' : Hp) (x y : V), AlkD K n H x y → Same H H' → AlkD K n H' x y
  | 0, _, _, _, _, h, s => AlkS.mono (fun _ _ _ _ z _ => z) h s
  | n + 1, _, _, _, _, h, s => AlkS.mono (AlkD.mono n) h s
theorem r_eqSelf {K : PySem.W.Frag} {H : Hp} {Q : VK} {x y : V} {d : PyData} (h : Dp K H x d) (h2 : Dp K H y d) (s : SeqAt.shaped d = true) (e : PyData.eqv d d = true) (q : Q (.bl true) H) : rEqD K x y H Q := ⟨d, d, h, h2, s, s, by rw [e]; exact q⟩
theorem r_neSelf {K : PySem.W.Frag} {H : Hp} {Q : VK} {x y : V} {d : PyData} (h : Dp K H x d) (h2 : Dp K H y d) (s : SeqAt.shaped d = true) (e : PyData.eqv d d = true) (q : Q (.bl false) H) : rNeD K x y H Q := ⟨d, d, h, h2, s, s, by rw [e]; exact q⟩
/-- [] != [] -/
theorem r_neNil {K : PySem.W.Frag} {H : Hp} {Q : VK} {p : Addr} (hp : H p = some (.lst [])) (q : ∀ H', Same H H' → Q (.bl false) H') : NwL (fun y H2 => rNeD K (.ref p) y H2 Q) [] H := r_nwL (Nat.le_of_ble_eq_true rfl) fun l hl =>
  r_neSelf (d := .list []) (.lst (sqL_at ((same_new hl) _ _ hp)) .nil) (.lst (sqL_at upd_same) .nil) (by rfl) (by simp [PyData.eqv, PyData.eqvAll]) (q _ (same_new hl))
/-- a list, a tuple, by its type's name -/
def SqN (K : PySem.W.Frag) (t : String) (H : Hp) (a : Addr) (xs : List V) : Prop := (t = "list" ∧ SqL K H a xs) ∨ (t = "tuple" ∧ SqT K H a xs)
theorem SqN.ty {K : PySem.W.Frag} {t : String} {H : Hp} {a : Addr} {xs : List V} (h : SqN K t H a xs) : TyX K H (.ref a) (.type t) := by
  rcases h with ⟨rfl, h⟩ | ⟨rfl, h⟩
  · exact tyx_sqL h
  · exact tyx_sqT h
theorem SqN.mono {K : PySem.W.Frag} {t : String} {H H' : Hp} {a : Addr} {xs : List V} (h : SqN K t H a xs) (s : Same H H') : SqN K t H' a xs := by
  rcases h with ⟨e, h⟩ | ⟨e, h⟩
  · exact .inl ⟨e, same_sqL s h⟩
  · exact .inr ⟨e, same_sqT s h⟩
theorem r_lenN {K : PySem.W.Frag} {t : String} {H : Hp} {a : Addr} {xs : List V} {Q : VK} (h : SqN K t H a xs) (q : Q (.int xs.length) H) : rLenQ K [V.ref a] H Q := by
  rcases h with ⟨_, h⟩ | ⟨_, h⟩
  · exact r_lenL h q
  · exact r_lenT h q
theorem r_ixN {K : PySem.W.Frag} {t : String} {H : Hp} {a : Addr} {xs : List V} {Q : VK} {v : V} {i : Int} {j : Nat} (h : SqN K t H a xs) (e : i = (j : Int)) (l : xs[j]? = some v) (q : Q v H) : rIxS K (.ref a) (.int i) H Q := by
  rcases h with ⟨_, h⟩ | ⟨_, h⟩
  · exact .inl (r_ixL h e l q)
  · exact .inr (r_ixT h e l q)
/-! ### a law's drawn numbers -/
/-- the list that draws: its number, the script's copy, its count -/
def Hat (H : Hp) (h l : Addr) : Prop := ∃ (m c : Int) (xs : List Int), H h = some (.lst [.int m, .ref l, .int c]) ∧ H l = some (.lst (xs.map V.int)) ∧ h ≠ l ∧ 0 ≤ m ∧ m < 2147483647 ∧ 0 ≤ c ∧ xs.length ≤ 63
theorem Hat.mono {H H' : Hp} {h l : Addr} (a : Hat H h l) (s : Same H H') : Hat H' h l := by
  obtain ⟨m, c, xs, e1, e2, r⟩ := a
  exact ⟨m, c, xs, s _ _ e1, s _ _ e2, r⟩
/-- all but the drawing list and its script stay -/
def SameD (h l : Addr) (H H' : Hp) : Prop := ∀ b o, b ≠ h → b ≠ l → H b = some o → H' b = some o
theorem sameD_of {h l : Addr} {H H' : Hp} (s : Same H H') : SameD h l H H' := fun b o _ _ z => s b o z
theorem SameD.tr {h l : Addr} {H H' H2 : Hp} (a : SameD h l H H') (b : SameD h l H' H2) : SameD h l H H2 := fun p o n1 n2 z => b p o n1 n2 (a p o n1 n2 z)
theorem SameD.sm {h l : Addr} {H H' H2 : Hp} (a : SameD h l H H') (b : Same H' H2) : SameD h l H H2 := a.tr (sameD_of b)
/-- what H does not hold may change -/
theorem SameD.mut {h l p : Addr} {H H' : Hp} {o : HO} (a : SameD h l H H') (n : H p = none) : SameD h l H (upd H' p o) := fun b u n1 n2 e => by
  rw [upd_ne (ne_of_none e n)]
  exact a b u n1 n2 e
/-- tuples stay -/
theorem SameD.tup {h l p : Addr} {H H' : Hp} {xs : List V} (a : SameD h l H H') (hh : Hat H h l) (e : H p = some (.tup xs)) : H' p = some (.tup xs) := by
  obtain ⟨m, c, ys, e1, e2, _⟩ := hh
  refine a p _ (fun z => ?_) (fun z => ?_) e
  · subst z
    rw [e] at e1
    cases e1
  · subst z
    rw [e] at e2
    cases e2
theorem SameD.sqT {K : PySem.W.Frag} {h l p : Addr} {H H' : Hp} {xs : List V} (a : SameD h l H H') (hh : Hat H h l) (e : SqT K H p xs) : SqT K H' p xs := by
  have ne : ∀ u : HO, H p = some u → (∀ ys, u ≠ .lst ys) → p ≠ h ∧ p ≠ l := fun u e n => by
    obtain ⟨m, c, ys, e1, e2, _⟩ := hh
    constructor
    · intro z
      subst z
      exact n _ (Option.some.inj (e.symm.trans e1))
    · intro z
      subst z
      exact n _ (Option.some.inj (e.symm.trans e2))
  rcases e with (e | ⟨o, e⟩) | e
  · obtain ⟨n1, n2⟩ := ne _ e fun _ z => by cases z
    exact .inl (.inl (a _ _ n1 n2 e))
  · obtain ⟨n1, n2⟩ := ne _ e fun _ z => by cases z
    exact .inl (.inr ⟨o, a _ _ n1 n2 e⟩)
  · exact .inr e
theorem Hat.ne {h l p : Addr} {H : Hp} (hh : Hat H h l) (e : H p = none) : p ≠ h ∧ p ≠ l := by
  obtain ⟨m, c, ys, e1, e2, _⟩ := hh
  constructor
  · intro z
    subst z
    rw [e] at e1
    cases e1
  · intro z
    subst z
    rw [e] at e2
    cases e2
theorem Hat.mut {h l p : Addr} {H : Hp} {o : HO} (hh : Hat H h l) (n : p ≠ h ∧ p ≠ l) : Hat (upd H p o) h l := by
  obtain ⟨m, c, ys, e1, e2, r⟩ := hh
  exact ⟨m, c, ys, by rw [upd_ne n.1.symm]; exact e1, by rw [upd_ne n.2.symm]; exact e2, r⟩
/-! a list of pairs -/
def PairAt (H : Hp) (v : V) (z : Int × Int) : Prop := ∃ p, v = .ref p ∧ H p = some (.tup [.int z.1, .int z.2])
def Pairs (H : Hp) (vs : List V) (l : List (Int × Int)) : Prop := vs.length = l.length ∧ ∀ (i : Nat) v z, vs[i]? = some v → l[i]? = some z → PairAt H v z
theorem Pairs.mono {H H' : Hp} {vs : List V} {l : List (Int × Int)} (h : Pairs H vs l) (s : Same H H') : Pairs H' vs l := ⟨h.1, fun i v z e1 e2 => let ⟨p, e3, e4⟩ := h.2 i v z e1 e2; ⟨p, e3, s _ _ e4⟩⟩
theorem Pairs.mut {H : Hp} {vs : List V} {l : List (Int × Int)} {D : Addr} {zs zs' : List V} (h : Pairs H vs l) (e : H D = some (.lst zs)) : Pairs (upd H D (.lst zs')) vs l := ⟨h.1, fun i v z e1 e2 => let ⟨p, e3, e4⟩ := h.2 i v z e1 e2; ⟨p, e3, Stab.tup.2 _ _ _ _ e4 e⟩⟩
theorem Pairs.snoc {H : Hp} {vs : List V} {l : List (Int × Int)} {v : V} {z : Int × Int} (h : Pairs H vs l) (k : PairAt H v z) : Pairs H (vs ++ [v]) (l ++ [z]) := by
  refine ⟨by simp [h.1], fun i u y e1 e2 => ?_⟩
  rcases Nat.lt_trichotomy i vs.length with lt | eq | gt
  · rw [List.getElem?_append_left lt] at e1
    rw [List.getElem?_append_left (by have := h.1; omega)] at e2
    exact h.2 i u y e1 e2
  · subst eq
    rw [List.getElem?_append_right (Nat.le_refl _)] at e1
    rw [List.getElem?_append_right (by have := h.1; omega)] at e2
    simp at e1
    simp [h.1] at e2
    subst e1 e2
    exact k
  · rw [List.getElem?_eq_none (by simp; omega)] at e1
    cases e1
theorem Pairs.nil {H : Hp} : Pairs H [] [] := ⟨rfl, fun i v z e _ => by simp at e⟩
theorem Pairs.at {H : Hp} {vs : List V} {l : List (Int × Int)} (h : Pairs H vs l) {i : Nat} {v : V} (e : vs[i]? = some v) : ∃ z, l[i]? = some z ∧ PairAt H v z := by
  have lt := (List.getElem?_eq_some_iff.mp e).1
  have lt2 : i < l.length := by have := h.1; omega
  exact ⟨l[i], List.getElem?_eq_getElem lt2, h.2 i v _ e (List.getElem?_eq_getElem lt2)⟩
theorem drop_at {α : Type} : ∀ {l : List α} {i : Nat} {z : α}, l[i]? = some z → l.drop i = z :: l.drop (i + 1)
  | [], _, _, h => by simp at h
  | a :: l, 0, z, h => by
    have e : a = z := by simpa using h
    rw [e]
    rfl
  | a :: l, i + 1, z, h => drop_at (l := l) (i := i) (by simpa using h)
/-! ### comprehensions that keep nothing; that draw -/
section
variable {K : PySem.W.Frag} {σ : L2.St} {H1 : Hp} {Q : VK} {te : TE} {tt : TT}
theorem lcE_list {a : Addr} {xs : List V} {j : Nat} {vs : List Nat} (hl : H1 a = some (.lst xs)) (hw : ∀ v, wipe ((wipe σ vs).set j (some v)) vs = wipe σ vs)
    (hs : ∀ (i : Nat) (x : V) (H' : Hp) (Z : Bool → Hp → Prop), xs[i]? = some x → Same H1 H' → (∀ H4, Same H' H4 → Z false H4) → tt ((wipe σ vs).set j (some x)) H' Z)
    (hd : ∀ D H', H1 D = none → Same H1 H' → H' D = some (.lst []) → Q (.ref D) H') : LcR (Itl K a) (gName j) tt te vs σ Q H1 := fun D hD =>
  lc_list (xs := xs) (fun _ H' => Same H1 H' ∧ H' D = some (.lst [])) ⟨same_new hD, upd_same⟩ (fun i H' hi p => sqL_same hl p.1) (fun i x H' hx p => ⟨hw _, hs i x H' _ hx p.1 fun H4 s => iteF ⟨sameT p.1 s, s _ _ p.2⟩⟩) fun H' p => hd D H' hD p.1 p.2
theorem lcD_range {h l : Addr} {lo : Int} {n j : Nat} {vs : List Nat} (P : Int → Prop) (hat : Hat H1 h l) (hn : n ≤ 1000) (hw : ∀ v, wipe ((wipe σ vs).set j (some v)) vs = wipe σ vs)
    (hs : ∀ i H' (Z : VK), i < n → Hat H' h l → SameD h l H1 H' → (∀ y H4, Hat H4 h l → SameD h l H' H4 → P y → Z (.int y) H4) → te ((wipe σ vs).set j (some (.int (lo + i)))) H' Z)
    (hd : ∀ D H' (ns : List Int), H1 D = none → Hat H' h l → SameD h l H1 H' → H' D = some (.lst (ns.map V.int)) → ns.length = n → (∀ x ∈ ns, P x) → Q (.ref D) H') : LcR (Itr lo n) (gName j) tYes te vs σ Q H1 := fun D hD => by
  have nD := hat.ne hD
  refine lc_range (fun i H' => Hat H' h l ∧ SameD h l H1 H' ∧ ∃ ns : List Int, H' D = some (.lst (ns.map V.int)) ∧ ns.length = i ∧ ∀ x ∈ ns, P x) ⟨hat.mut nD, (sameD_of sameR).mut hD, [], upd_same, rfl, fun x hx => by cases hx⟩ ?_ ?_
  · rintro i H' hi ⟨hat', sd, ns, e, nl, np⟩
    refine ⟨hw _, tYes_of (hs i H' _ hi hat' sd fun y H4 h4 s4 py => ⟨_, s4 _ _ nD.1 nD.2 e, Nat.lt_of_lt_of_le (show _ < 1001 by rw [List.length_map]; omega) (by decide), h4.mut nD, (sd.tr s4).mut hD, ns ++ [y], by rw [upd_same]; simp, by simp [nl], fun x hx => ?_⟩)⟩
    rcases List.mem_append.mp hx with hx | hx
    · exact np x hx
    · rw [List.mem_singleton.mp hx]
      exact py
  · rintro H' ⟨hat', sd, ns, e, nl, np⟩
    exact hd D H' ns hD hat' sd e nl np
end
end G57
end
section
set_option maxRecDepth 100000
set_option maxHeartbeats 4000000
/-! XAuto: readings whose new heaps are letters; facts found by the way back. -/
namespace G57
open PySem PySem.Spec PyProof.Rows L2
section
variable {K : PySem.W.Frag} {σ : L2.St} {H H' H1 : Hp} {Q : VK} {v x y : V} {ta tb tc te : TE} {D : Ends}
theorem at_s {p : Addr} {o : HO} (s : Same H H') (h : H p = some o) : H' p = some o := s _ _ h
theorem at_upd {p q : Addr} {o u : HO} (n : H q = none) (h : H p = some o) : upd H q u p = some o := (same_new n) _ _ h
theorem atd_tup {h l p : Addr} {xs : List V} (s : SameD h l H H') (hat : Hat H h l) (e : H p = some (.tup xs)) : H' p = some (.tup xs) := s.tup hat e
theorem atd_ins {h l p C dx : Addr} {fs : List (Str × V)} (s : SameD h l H H') (hat : Hat H h l) (e : H p = some (.ins C dx fs)) : H' p = some (.ins C dx fs) := by
  obtain ⟨m, c, ys, e1, e2, _⟩ := hat
  refine s p _ (fun z => ?_) (fun z => ?_) e
  · subst z
    rw [e] at e1
    cases e1
  · subst z
    rw [e] at e2
    cases e2
theorem atd_lst {h l p : Addr} {xs : List V} (s : SameD h l H H') (n : p ≠ h ∧ p ≠ l) (e : H p = some (.lst xs)) : H' p = some (.lst xs) := s _ _ n.1 n.2 e
theorem atx_tup {L p : Addr} {xs zs : List V} (s : SameX L H H') (hl : H L = some (.lst zs)) (e : H p = some (.tup xs)) : H' p = some (.tup xs) := s p _ (fun z => by subst z; rw [hl] at e; cases e) e
theorem atx_ins {L p C dx : Addr} {fs : List (Str × V)} {zs : List V} (s : SameX L H H') (hl : H L = some (.lst zs)) (e : H p = some (.ins C dx fs)) : H' p = some (.ins C dx fs) := s p _ (fun z => by subst z; rw [hl] at e; cases e) e
theorem atx_ne {L p : Addr} {o : HO} (s : SameX L H H') (n : p ≠ L) (e : H p = some o) : H' p = some o := s p _ n e
theorem at_id {p : Addr} {o : HO} (h : H p = some o) : H p = some o := h
theorem sqT_id {a : Addr} {xs : List V} (h : SqT K H a xs) : SqT K H a xs := h
theorem hat_id {h l : Addr} (a : Hat H h l) : Hat H h l := a
theorem pairs_id {vs : List V} {l : List (Int × Int)} (a : Pairs H vs l) : Pairs H vs l := a
theorem ne_id {h l p : Addr} (e : p ≠ h ∧ p ≠ l) : p ≠ h ∧ p ≠ l := e
theorem sqL_s {a : Addr} {xs : List V} (s : Same H H') (h : SqL K H a xs) : SqL K H' a xs := same_sqL s h
theorem sqT_s {a : Addr} {xs : List V} (s : Same H H') (h : SqT K H a xs) : SqT K H' a xs := same_sqT s h
theorem sqT_d {h l a : Addr} {xs : List V} (s : SameD h l H H') (hat : Hat H h l) (e : SqT K H a xs) : SqT K H' a xs := s.sqT hat e
theorem sqT_x {L a : Addr} {xs zs : List V} (s : SameX L H H') (hl : H L = some (.lst zs)) (h : SqT K H a xs) : SqT K H' a xs := by
  have ne : ∀ o : HO, H a = some o → (∀ xs, o ≠ .lst xs) → a ≠ L := fun o e n z => by
    subst z
    rw [hl] at e
    exact n _ (Option.some.inj e).symm
  rcases h with (h | ⟨o, h⟩) | h
  · exact .inl (.inl (s _ _ (ne _ h fun _ z => by cases z) h))
  · exact .inl (.inr ⟨o, s _ _ (ne _ h fun _ z => by cases z) h⟩)
  · exact .inr h
theorem hat_s {h l : Addr} (s : Same H H') (a : Hat H h l) : Hat H' h l := a.mono s
theorem pairs_s {vs : List V} {l : List (Int × Int)} (s : Same H H') (a : Pairs H vs l) : Pairs H' vs l := a.mono s
theorem hat_ne {h l p : Addr} (e : H p = none) (hat : Hat H h l) : p ≠ h ∧ p ≠ l := hat.ne e
theorem sameB {H2 : Hp} (b : Same H' H2) (a : Same H H') : Same H H2 := sameT a b
theorem sameDB {h l : Addr} {H2 : Hp} (b : SameD h l H' H2) (a : SameD h l H H') : SameD h l H H2 := a.tr b
theorem sameDS {h l : Addr} {H2 : Hp} (b : Same H' H2) (a : SameD h l H H') : SameD h l H H2 := a.sm b
/-! new objects -/
theorem a_nwT {xs : List V} (h : xs.length ≤ 1000) (q : ∀ p H', Same H H' → H p = none → H' p = some (.tup xs) → Q (.ref p) H') : NwT Q xs H := r_nwT h fun p hp => q p _ (same_new hp) hp upd_same
theorem a_nwL {xs : List V} (h : xs.length ≤ 1000) (q : ∀ p H', Same H H' → H p = none → H' p = some (.lst xs) → Q (.ref p) H') : NwL Q xs H := r_nwL h fun p hp => q p _ (same_new hp) hp upd_same
theorem a_listL {a : Addr} {xs : List V} (h : SqL K H a xs) (q : ∀ p H', Same H H' → H p = none → H' p = some (.lst xs) → Q (.ref p) H') : rListQ K [V.ref a] H Q := r_listL h fun p hp => q p _ (same_new hp) hp upd_same
theorem a_tupL {a : Addr} {xs : List V} (h : SqL K H a xs) (q : ∀ p H', Same H H' → H p = none → H' p = some (.tup xs) → Q (.ref p) H') : rTupLQ K [V.ref a] H Q := r_tupL h fun p hp => q p _ (same_new hp) hp upd_same
theorem a_cat {a b : Addr} {xs ys : List V} (h : H a = some (.lst xs)) (k : H b = some (.lst ys)) (l : xs.length + ys.length ≤ 100000) (q : ∀ p H', Same H H' → H p = none → H' p = some (.lst (xs ++ ys)) → Q (.ref p) H') : rCat (.ref a) (.ref b) H Q :=
  r_cat h k (Nat.le_trans l (by decide)) fun p hp => q p _ (same_new hp) hp upd_same
theorem a_slL {a : Addr} {xs : List V} {lo hi : Option Int} (h : SqL K H a xs) (q : ∀ p H', Same H H' → H p = none → H' p = some (.lst (cutV xs lo hi)) → Q (.ref p) H') : rSlL K (.ref a) lo hi H Q := r_slL h fun p hp => q p _ (same_new hp) hp upd_same
theorem a_revL {a : Addr} {xs : List V} (h : SqL K H a xs) (q : ∀ p H', Same H H' → H p = none → H' p = some (.lst xs.reverse) → Q (.ref p) H') : ∃ a' ys, V.ref a = .ref a' ∧ SqL K H a' ys ∧ ∀ p, H p = none → Q (.ref p) (upd H p (.lst ys.reverse)) := r_revL h fun p hp => q p _ (same_new hp) hp upd_same
theorem a_append {a : Addr} {xs : List V} (h : H a = some (.lst xs)) (l : xs.length < 100000) (q : ∀ H', SameX a H H' → H' a = some (.lst (xs ++ [v])) → Q .non H') : rAppend (.ref a) [v] H Q := r_append h l (q _ (SameX.at (SameX.of sameR)) upd_same)
theorem r_p6 (q : Q (.int 1000000) H) : rI CPow (fun i j => V.int (i ^ j.toNat)) (.int 10) (.int 6) H Q := ⟨10, 6, rfl, rfl, ⟨by decide, by decide, by decide⟩, by
  show Q (.int ((10 : Int) ^ (6 : Int).toNat)) H
  have e : (10 : Int) ^ (6 : Int).toNat = 1000000 := by decide
  rw [e]
  exact q⟩
theorem r_p8 (q : Q (.int 100000000) H) : rI CPow (fun i j => V.int (i ^ j.toNat)) (.int 10) (.int 8) H Q := ⟨10, 8, rfl, rfl, ⟨by decide, by decide, by decide⟩, by
  show Q (.int ((10 : Int) ^ (8 : Int).toNat)) H
  have e : (10 : Int) ^ (8 : Int).toNat = 100000000 := by decide
  rw [e]
  exact q⟩
theorem r_p9 (q : Q (.int 1000000000) H) : rI CPow (fun i j => V.int (i ^ j.toNat)) (.int 10) (.int 9) H Q := ⟨10, 9, rfl, rfl, ⟨by decide, by decide, by decide⟩, by
  show Q (.int ((10 : Int) ^ (9 : Int).toNat)) H
  have e : (10 : Int) ^ (9 : Int).toNat = 1000000000 := by decide
  rw [e]
  exact q⟩
theorem r_p10 (q : Q (.int 10000000000) H) : rI CPow (fun i j => V.int (i ^ j.toNat)) (.int 10) (.int 10) H Q := ⟨10, 10, rfl, rfl, ⟨by decide, by decide, by decide⟩, by
  show Q (.int ((10 : Int) ^ (10 : Int).toNat)) H
  have e : (10 : Int) ^ (10 : Int).toNat = 10000000000 := by decide
  rw [e]
  exact q⟩
theorem r_p12 (q : Q (.int 1000000000000) H) : rI CPow (fun i j => V.int (i ^ j.toNat)) (.int 10) (.int 12) H Q := ⟨10, 12, rfl, rfl, ⟨by decide, by decide, by decide⟩, by
  show Q (.int ((10 : Int) ^ (12 : Int).toNat)) H
  have e : (10 : Int) ^ (12 : Int).toNat = 1000000000000 := by decide
  rw [e]
  exact q⟩
theorem r_p14 (q : Q (.int 100000000000000) H) : rI CPow (fun i j => V.int (i ^ j.toNat)) (.int 10) (.int 14) H Q := ⟨10, 14, rfl, rfl, ⟨by decide, by decide, by decide⟩, by
  show Q (.int ((10 : Int) ^ (14 : Int).toNat)) H
  have e : (10 : Int) ^ (14 : Int).toNat = 100000000000000 := by decide
  rw [e]
  exact q⟩
theorem r_p15 (q : Q (.int 1000000000000000) H) : rI CPow (fun i j => V.int (i ^ j.toNat)) (.int 10) (.int 15) H Q := ⟨10, 15, rfl, rfl, ⟨by decide, by decide, by decide⟩, by
  show Q (.int ((10 : Int) ^ (15 : Int).toNat)) H
  have e : (10 : Int) ^ (15 : Int).toNat = 1000000000000000 := by decide
  rw [e]
  exact q⟩
theorem r_p17 (q : Q (.int 100000000000000000) H) : rI CPow (fun i j => V.int (i ^ j.toNat)) (.int 10) (.int 17) H Q := ⟨10, 17, rfl, rfl, ⟨by decide, by decide, by decide⟩, by
  show Q (.int ((10 : Int) ^ (17 : Int).toNat)) H
  have e : (10 : Int) ^ (17 : Int).toNat = 100000000000000000 := by decide
  rw [e]
  exact q⟩
theorem r_p18 (q : Q (.int 1000000000000000000) H) : rI CPow (fun i j => V.int (i ^ j.toNat)) (.int 10) (.int 18) H Q := ⟨10, 18, rfl, rfl, ⟨by decide, by decide, by decide⟩, by
  show Q (.int ((10 : Int) ^ (18 : Int).toNat)) H
  have e : (10 : Int) ^ (18 : Int).toNat = 1000000000000000000 := by decide
  rw [e]
  exact q⟩
theorem a_lenLI {a : Addr} {ns : List Int} (h : SqL K H a (ns.map V.int)) (q : Q (.int ns.length) H) : rLenQ K [.ref a] H Q := r_lenL h (by rw [List.length_map]; exact q)
theorem a_rng2v {i j : Int} {R : It → Hp → Prop} (h1 : -4611686018427387904 ≤ i) (h2 : i < 4611686018427387904) (h3 : -4611686018427387904 ≤ j) (h4 : j < 4611686018427387904) (q : R (Itr i (j - i).toNat) H) : ∃ i' j' : Int, [V.int i, V.int j] = [.int i', .int j'] ∧ (-(2 ^ 62) ≤ i' ∧ i' < 2 ^ 62 ∧ -(2 ^ 62) ≤ j' ∧ j' < 2 ^ 62) ∧ R (Itr i' (j' - i').toNat) H := ⟨i, j, rfl, ⟨h1, h2, h3, h4⟩, q⟩
theorem a_rng1v {j : Int} {R : It → Hp → Prop} (h1 : -4611686018427387904 ≤ j) (h2 : j < 4611686018427387904) (q : R (Itr 0 j.toNat) H) : ∃ j' : Int, [V.int j] = [.int j'] ∧ -(2 ^ 62) ≤ j' ∧ j' < 2 ^ 62 ∧ R (Itr 0 j'.toNat) H := ⟨j, rfl, h1, h2, q⟩
theorem a_iTv {a : Addr} {xs : List V} {R : It → Hp → Prop} (h : SqT K H a xs) (q : R (Itt K a) H) : ∃ a', V.ref a = .ref a' ∧ (∃ xs, SqT K H a' xs) ∧ R (Itt K a') H := ⟨a, rfl, ⟨xs, h⟩, q⟩
theorem zNF {Z : Bool → Hp → Prop} {p : Prop} [Decidable p] (h : p) (q : Z false H) : Z (!decide p) H := by
  rw [decide_eq_true h]
  exact q
theorem zF {Z : Bool → Hp → Prop} {p : Prop} [Decidable p] (h : ¬ p) (q : Z false H) : Z (decide p) H := by
  rw [decide_eq_false h]
  exact q
theorem zT {Z : Bool → Hp → Prop} {p : Prop} [Decidable p] (h : p) (q : Z true H) : Z (decide p) H := by
  rw [decide_eq_true h]
  exact q
/-! an item of a short list of ints -/
theorem a_pick2 {a : Addr} {p q r : Int} (h : SqL K H a [.int p, .int q]) (r0 : 0 ≤ r) (r1 : r < 2) (k : ∀ z, z = p ∨ z = q → Q (.int z) H) : rIxL K (.ref a) (.int r) H Q := by
  rcases (by omega : r = 0 ∨ r = 1) with e | e <;> subst e
  · exact r_ixL h (j := 0) rfl rfl (k p (.inl rfl))
  · exact r_ixL h (j := 1) rfl rfl (k q (.inr rfl))
theorem a_pick3 {a : Addr} {p q s r : Int} (h : SqL K H a [.int p, .int q, .int s]) (r0 : 0 ≤ r) (r1 : r < 3) (k : ∀ z, z = p ∨ z = q ∨ z = s → Q (.int z) H) : rIxL K (.ref a) (.int r) H Q := by
  rcases (by omega : r = 0 ∨ r = 1 ∨ r = 2) with e | e | e <;> subst e
  · exact r_ixL h (j := 0) rfl rfl (k p (.inl rfl))
  · exact r_ixL h (j := 1) rfl rfl (k q (.inr (.inl rfl)))
  · exact r_ixL h (j := 2) rfl rfl (k s (.inr (.inr rfl)))
theorem a_pick4 {a : Addr} {p q s t r : Int} (h : SqL K H a [.int p, .int q, .int s, .int t]) (r0 : 0 ≤ r) (r1 : r < 4) (k : ∀ z, z = p ∨ z = q ∨ z = s ∨ z = t → Q (.int z) H) : rIxL K (.ref a) (.int r) H Q := by
  rcases (by omega : r = 0 ∨ r = 1 ∨ r = 2 ∨ r = 3) with e | e | e | e <;> subst e
  · exact r_ixL h (j := 0) rfl rfl (k p (.inl rfl))
  · exact r_ixL h (j := 1) rfl rfl (k q (.inr (.inl rfl)))
  · exact r_ixL h (j := 2) rfl rfl (k s (.inr (.inr (.inl rfl))))
  · exact r_ixL h (j := 3) rfl rfl (k t (.inr (.inr (.inr rfl))))
/-! comprehensions over lists of ints -/
theorem lcE_ints {tt : TT} {a : Addr} {xs : List Int} {j : Nat} (hl : H1 a = some (.lst (xs.map V.int)))
    (hs : ∀ (x : Int) (H' : Hp) (Z : Bool → Hp → Prop), x ∈ xs → Same H1 H' → (∀ H4, Same H' H4 → Z false H4) → SetR j (.int x) (fun s => tt s H' Z) σ)
    (hd : ∀ D H', H1 D = none → Same H1 H' → H' D = some (.lst []) → Q (.ref D) H') : LcR (Itl K a) (gName j) tt te [j] σ Q H1 :=
  lcE_list hl wipe1' (fun i x H' Z hx s z => by
    rw [wipe1]
    obtain ⟨y, hy, rfl⟩ : ∃ y, xs[i]? = some y ∧ V.int y = x := by simpa using hx
    exact hs y H' Z (List.mem_of_getElem? hy) s z) hd
/-- a comprehension whose items are ints told by their places -/
theorem lcI_range {lo : Int} {n j : Nat} (f : Nat → Int) (hn : n ≤ 100000)
    (hs : ∀ i H' (Z : VK), i < n → Same H1 H' → (∀ H4, Same H' H4 → Z (.int (f i)) H4) → SetR j (.int (lo + i)) (fun s => te s H' Z) σ)
    (hd : ∀ D H', H1 D = none → Same H1 H' → H' D = some (.lst (((List.range n).map f).map V.int)) → Q (.ref D) H') : LcR (Itr lo n) (gName j) tYes te [j] σ Q H1 :=
  lcN_range (fun i v _ => v = .int (f i)) (fun _ _ => Stab.triv) (Nat.le_trans hn (by decide)) wipe1' (fun i H' Z hi s z => by
    rw [wipe1]
    exact hs i H' Z hi s fun H4 s4 => z _ _ s4 rfl) fun D H' ys hD s e l h => hd D H' hD s (by rw [e, ints_of l h])
theorem map_at {xs : List Int} {ys : List V} {f : Int → Int} (l : ys.length = xs.length) (h : ∀ (i : Nat) (y : V), ys[i]? = some y → ∃ x, xs[i]? = some x ∧ y = V.int (f x)) : ys = (xs.map f).map V.int := by
  refine List.ext_getElem? fun i => ?_
  by_cases lt : i < ys.length
  · obtain ⟨x, hx, e⟩ := h i _ (List.getElem?_eq_getElem lt)
    rw [List.getElem?_eq_getElem lt, e, List.getElem?_map, List.getElem?_map, hx]
    rfl
  · rw [List.getElem?_eq_none (by omega), List.getElem?_eq_none (by simp; omega)]
theorem lcI_list {a : Addr} {xs : List Int} {j : Nat} (f : Int → Int) (hl : H1 a = some (.lst (xs.map V.int))) (hn : xs.length ≤ 100000)
    (hs : ∀ x H' (Z : VK), x ∈ xs → Same H1 H' → (∀ H4, Same H' H4 → Z (.int (f x)) H4) → SetR j (.int x) (fun s => te s H' Z) σ)
    (hd : ∀ D H', H1 D = none → Same H1 H' → H' D = some (.lst ((xs.map f).map V.int)) → Q (.ref D) H') : LcR (Itl K a) (gName j) tYes te [j] σ Q H1 :=
  lcN_list (fun i v _ => ∃ x, xs[i]? = some x ∧ v = .int (f x)) (fun _ _ => Stab.triv) hl (Nat.le_trans (by rw [List.length_map]; exact hn) (by decide : 100000 ≤ sizeLine)) wipe1' (fun i v H' Z hx s z => by
    rw [wipe1]
    obtain ⟨y, hy, rfl⟩ : ∃ y, xs[i]? = some y ∧ V.int y = v := by simpa using hx
    exact hs y H' Z (List.mem_of_getElem? hy) s fun H4 s4 => z _ _ s4 ⟨y, hy, rfl⟩) fun D H' ys hD s e l h => hd D H' hD s (by rw [e, map_at (by rw [l, List.length_map]) h])
theorem lcI_tup {a : Addr} {xs : List Int} {j : Nat} (f : Int → Int) (hl : SqT K H1 a (xs.map V.int)) (hn : xs.length ≤ 100000)
    (hs : ∀ x H' (Z : VK), x ∈ xs → Same H1 H' → (∀ H4, Same H' H4 → Z (.int (f x)) H4) → SetR j (.int x) (fun s => te s H' Z) σ)
    (hd : ∀ D H', H1 D = none → Same H1 H' → H' D = some (.lst ((xs.map f).map V.int)) → Q (.ref D) H') : LcR (Itt K a) (gName j) tYes te [j] σ Q H1 :=
  lcN_tup (fun i v _ => ∃ x, xs[i]? = some x ∧ v = .int (f x)) (fun _ _ => Stab.triv) hl (Nat.le_trans (by rw [List.length_map]; exact hn) (by decide : 100000 ≤ sizeLine)) wipe1' (fun i v H' Z hx s z => by
    rw [wipe1]
    obtain ⟨y, hy, rfl⟩ : ∃ y, xs[i]? = some y ∧ V.int y = v := by simpa using hx
    exact hs y H' Z (List.mem_of_getElem? hy) s fun H4 s4 => z _ _ s4 ⟨y, hy, rfl⟩) fun D H' ys hD s e l h => hd D H' hD s (by rw [e, map_at (by rw [l, List.length_map]) h])
/-- a drawing comprehension: ints that keep a word -/
theorem lcD_ints {h l : Addr} {lo : Int} {n j : Nat} (P : Int → Prop) (hat : Hat H1 h l) (hn : n ≤ 1000)
    (hs : ∀ (i : Nat) H' (Z : VK), i < n → Hat H' h l → SameD h l H1 H' → (∀ y H4, Hat H4 h l → SameD h l H' H4 → P y → Z (.int y) H4) → SetR j (.int (lo + i)) (fun s => te s H' Z) σ)
    (hd : ∀ D H' (ns : List Int), Hat H' h l → SameD h l H1 H' → H1 D = none → H' D = some (.lst (ns.map V.int)) → ns.length = n → (∀ x ∈ ns, P x) → Q (.ref D) H') : LcR (Itr lo n) (gName j) tYes te [j] σ Q H1 :=
  lcD_range P hat hn wipe1' (fun i H' Z a b c d => by
    rw [wipe1]
    exact hs i H' Z a b c d) fun D H' ns a b c d e f => hd D H' ns b c a d e f
/-- a filter over a range that keeps some -/
theorem lcF_range {tt : TT} {lo : Int} {n j : Nat} (p : Nat → Bool) (f : Nat → Int) (hn : n ≤ 100000)
    (ht : ∀ i H' (Z : Bool → Hp → Prop), i < n → Same H1 H' → (∀ H4, Same H' H4 → Z (p i) H4) → SetR j (.int (lo + (i : Nat))) (fun s => tt s H' Z) σ)
    (hs : ∀ i H' (Z : VK), i < n → p i = true → Same H1 H' → (∀ H4, Same H' H4 → Z (.int (f i)) H4) → SetR j (.int (lo + (i : Nat))) (fun s => te s H' Z) σ)
    (hd : ∀ D H', H1 D = none → Same H1 H' → H' D = some (.lst ((((List.range n).filter p).map f).map V.int)) → Q (.ref D) H') : LcR (Itr lo n) (gName j) tt te [j] σ Q H1 := fun D hD => by
  refine lc_range (fun i H' => Same H1 H' ∧ H' D = some (.lst ((((List.range i).filter p).map f).map V.int))) ⟨same_new hD, by rw [upd_same]; rfl⟩ ?_ fun H' p => hd D H' hD p.1 p.2
  rintro i H' hi ⟨s1, e1⟩
  refine ⟨wipe1' _, ?_⟩
  rw [wipe1]
  have len : ((((List.range i).filter p).map f).map V.int).length ≤ i := by
    rw [List.length_map, List.length_map]
    exact Nat.le_trans (List.length_filter_le _ _) (by rw [List.length_range]; exact Nat.le_refl _)
  refine ht i H' _ hi s1 fun H4 s4 => ?_
  have s14 := sameT s1 s4
  have e4 := s4 _ _ e1
  cases hp : p i with
  | false =>
    refine iteF ⟨s14, ?_⟩
    rw [e4, List.range_succ, List.filter_append]
    simp [hp]
  | true =>
    refine iteT (hs i H4 _ hi hp s14 fun H5 s5 => ⟨_, s5 _ _ e4, Nat.lt_of_lt_of_le (show _ < 100001 by omega) (by decide), same_mut (sameT s14 s5) hD, ?_⟩)
    rw [upd_same, List.range_succ, List.filter_append]
    simp [hp]
theorem lcE_range {tt : TT} {lo : Int} {n j : Nat} (hn : n ≤ 100000)
    (ht : ∀ i H' (Z : Bool → Hp → Prop), i < n → Same H1 H' → (∀ H4, Same H' H4 → Z false H4) → SetR j (.int (lo + (i : Nat))) (fun s => tt s H' Z) σ)
    (hd : ∀ D H', H1 D = none → Same H1 H' → H' D = some (.lst []) → Q (.ref D) H') : LcR (Itr lo n) (gName j) tt te [j] σ Q H1 :=
  lcF_range (fun _ => false) (fun _ => 0) hn ht (fun _ _ _ _ z => by cases z) fun D H' hD s e => hd D H' hD s (by
    rw [e]
    simp)
theorem ix_rng {f : Nat → Int} {n i : Nat} (h : i < n) : (((List.range n).map f).map V.int)[i]? = some (.int (f i)) := by
  rw [List.getElem?_map, List.getElem?_map, List.getElem?_range h]
  rfl
/-- a comprehension over a list of pairs -/
theorem lcP_list {a : Addr} {us : List V} {l : List (Int × Int)} {i j : Nat} (R : Nat → V → Hp → Prop) (hR : ∀ i v, Stab (R i v)) (nij : i ≠ j) (hl : H1 a = some (.lst us)) (hp : Pairs H1 us l) (hn : l.length ≤ 100000)
    (hs : ∀ k z H' (Z : VK), l[k]? = some z → Same H1 H' → (∀ y H4, Same H' H4 → R k y H4 → Z y H4) → SetR i (.int z.1) (SetR j (.int z.2) fun s => te s H' Z) σ)
    (hd : ∀ D H' ys, H1 D = none → Same H1 H' → H' D = some (.lst ys) → ys.length = l.length → (∀ k y, ys[k]? = some y → R k y H') → Q (.ref D) H') :
    LcR (Itl K a) (gTup K 2 (gCons (gName i) (gCons (gName j) gNil))) tYes te [i, j] σ Q H1 := fun D hD => by
  have ul : us.length = l.length := hp.1
  refine lc_list (xs := us) (LcP H1 D R) (lcP_0 hD) (fun k H' hk p => sqL_same hl p.choose_spec.2.2.1) (fun k x H' hx p => ?_) fun H' p => by
    obtain ⟨ys, e, le, s, hr⟩ := p
    exact hd D H' ys hD s e (le.trans ul) hr
  have s := p.choose_spec.2.2.1
  obtain ⟨z, hz, q, rfl, hq⟩ := (hp.mono s).at hx
  have lt := (List.getElem?_eq_some_iff.mp hz).1
  refine r_gtup (sqT_at hq) rfl ?_
  refine r_gcons ?_
  refine r_gname ?_
  refine r_setU ?_
  refine r_gcons ?_
  refine r_gname ?_
  refine r_setU ?_
  refine r_gnil ?_
  rw [wipe2 nij]
  refine ⟨wipe2' nij _ _, tYes_of (hs k z H' _ hz s fun y H4 s4 r => lcP_step hR (show l.length ≤ sizeLine from Nat.le_trans hn (by decide)) lt hD p s4 r)⟩
theorem stab_pair {v : V} {z : Int × Int} : Stab fun H => PairAt H v z := Stab.ex fun _ => Stab.and Stab.triv Stab.tup
theorem lcPP_list {a : Addr} {us : List V} {l : List (Int × Int)} {i j : Nat} (f : Int × Int → Int × Int) (nij : i ≠ j) (hl : H1 a = some (.lst us)) (hp : Pairs H1 us l) (hn : l.length ≤ 100000)
    (hs : ∀ z H' (Z : VK), z ∈ l → Same H1 H' → (∀ y H4, Same H' H4 → PairAt H4 y (f z) → Z y H4) → SetR i (.int z.1) (SetR j (.int z.2) fun s => te s H' Z) σ)
    (hd : ∀ D H' ys, H1 D = none → Same H1 H' → H' D = some (.lst ys) → Pairs H' ys (l.map f) → Q (.ref D) H') :
    LcR (Itl K a) (gTup K 2 (gCons (gName i) (gCons (gName j) gNil))) tYes te [i, j] σ Q H1 :=
  lcP_list (fun k v H => ∃ z, l[k]? = some z ∧ PairAt H v (f z)) (fun _ _ => Stab.ex fun _ => Stab.and Stab.triv stab_pair) nij hl hp hn (fun k z H' Z hz s c => hs z H' Z (List.mem_of_getElem? hz) s fun y H4 s4 r => c y H4 s4 ⟨z, hz, r⟩) fun D H' ys hD s e le hr => hd D H' ys hD s e ⟨by rw [le, List.length_map], fun k v z e1 e2 => by
    obtain ⟨z', hz', r⟩ := hr k v e1
    rw [List.getElem?_map, hz'] at e2
    rw [← Option.some.inj e2]
    exact r⟩
theorem lcPI_list {a : Addr} {us : List V} {l : List (Int × Int)} {i j : Nat} (f : Int × Int → Int) (nij : i ≠ j) (hl : H1 a = some (.lst us)) (hp : Pairs H1 us l) (hn : l.length ≤ 100000)
    (hs : ∀ z H' (Z : VK), z ∈ l → Same H1 H' → (∀ H4, Same H' H4 → Z (.int (f z)) H4) → SetR i (.int z.1) (SetR j (.int z.2) fun s => te s H' Z) σ)
    (hd : ∀ D H', H1 D = none → Same H1 H' → H' D = some (.lst ((l.map f).map V.int)) → Q (.ref D) H') :
    LcR (Itl K a) (gTup K 2 (gCons (gName i) (gCons (gName j) gNil))) tYes te [i, j] σ Q H1 :=
  lcP_list (fun k v _ => ∃ z, l[k]? = some z ∧ v = .int (f z)) (fun _ _ => Stab.triv) nij hl hp hn (fun k z H' Z hz s c => hs z H' Z (List.mem_of_getElem? hz) s fun H4 s4 => c _ H4 s4 ⟨z, hz, rfl⟩) fun D H' ys hD s e le hr => hd D H' hD s (by
    rw [e]
    congr 2
    refine List.ext_getElem? fun k => ?_
    by_cases lt : k < ys.length
    · obtain ⟨z, hz, r⟩ := hr k _ (List.getElem?_eq_getElem lt)
      rw [List.getElem?_eq_getElem lt, r, List.getElem?_map, List.getElem?_map, hz]
      rfl
    · rw [List.getElem?_eq_none (by omega), List.getElem?_eq_none (by simp; omega)])
theorem a_neNil {p : Addr} (hp : SqL K H p []) (q : ∀ H', Same H H' → Q (.bl false) H') : NwL (fun y H2 => rNeD K (.ref p) y H2 Q) [] H := a_nwL (Nat.le_of_ble_eq_true rfl) fun l H' s _ e =>
  r_neSelf (d := .list []) (.lst (same_sqL s hp) .nil) (.lst (sqL_at e) .nil) (by rfl) (by simp [PyData.eqv, PyData.eqvAll]) (q _ s)
theorem a_eqNil {p : Addr} (hp : SqL K H p []) (q : ∀ H', Same H H' → Q (.bl true) H') : NwL (fun y H2 => rEqD K (.ref p) y H2 Q) [] H := a_nwL (Nat.le_of_ble_eq_true rfl) fun l H' s _ e =>
  r_eqSelf (d := .list []) (.lst (same_sqL s hp) .nil) (.lst (sqL_at e) .nil) (by rfl) (by simp [PyData.eqv, PyData.eqvAll]) (q _ s)
theorem a_neSelf {d : PyData} (h : Dp K H x d) (h2 : Dp K H y d) (s : SeqAt.shaped d = true) (e : PyData.eqv d d = true) (q : Q (.bl false) H) : rNeD K x y H Q := r_neSelf h h2 s e q
theorem a_eqSelf {d : PyData} (h : Dp K H x d) (h2 : Dp K H y d) (s : SeqAt.shaped d = true) (e : PyData.eqv d d = true) (q : Q (.bl true) H) : rEqD K x y H Q := r_eqSelf h h2 s e q
/-- == of lists of ints -/
theorem a_eqLI {a b : Addr} {ns ms : List Int} (h : SqL K H a (ns.map V.int)) (k : SqL K H b (ms.map V.int)) (q : Q (.bl (decide (ns = ms))) H) : rEqD K (.ref a) (.ref b) H Q :=
  ⟨_, _, .lst h (dpAll_ints ns), .lst k (dpAll_ints ms), shaped_lstI ns, shaped_lstI ms, by rw [eqv_lstI]; exact q⟩
theorem a_neLI {a b : Addr} {ns ms : List Int} (h : SqL K H a (ns.map V.int)) (k : SqL K H b (ms.map V.int)) (q : Q (.bl (!decide (ns = ms))) H) : rNeD K (.ref a) (.ref b) H Q :=
  ⟨_, _, .lst h (dpAll_ints ns), .lst k (dpAll_ints ms), shaped_lstI ns, shaped_lstI ms, by rw [eqv_lstI]; exact q⟩
theorem a_neTI {a b : Addr} {ns ms : List Int} (h : SqT K H a (ns.map V.int)) (k : SqT K H b (ms.map V.int)) (q : Q (.bl (!decide (ns = ms))) H) : rNeD K (.ref a) (.ref b) H Q :=
  ⟨_, _, .tup h (dpAll_ints ns), .tup k (dpAll_ints ms), shaped_tupI ns, shaped_tupI ms, by rw [eqv_tupI]; exact q⟩
end
/-! ### alike data, by shapes -/
theorem alk0_int {K : PySem.W.Frag} {H : Hp} {i j : Int} (e : i = j) : AlkD K 0 H (.int i) (.int j) := .inl ⟨by rw [e], .int i⟩
theorem alk_int {K : PySem.W.Frag} {n : Nat} {H : Hp} {i j : Int} (e : i = j) : AlkD K n H (.int i) (.int j) := by
  subst e
  cases n with
  | zero => exact .inl ⟨rfl, .int i⟩
  | succ n => exact .inl ⟨rfl, .int i⟩
theorem alk_non {K : PySem.W.Frag} {n : Nat} {H : Hp} : AlkD K n H .non .non := by
  cases n with
  | zero => exact .inl ⟨rfl, .non⟩
  | succ n => exact .inl ⟨rfl, .non⟩
theorem alk_bl {K : PySem.W.Frag} {n : Nat} {H : Hp} {b : Bool} : AlkD K n H (.bl b) (.bl b) := by
  cases n with
  | zero => exact .inl ⟨rfl, .bl b⟩
  | succ n => exact .inl ⟨rfl, .bl b⟩
/-- items alike, one by one -/
inductive AlkL (K : PySem.W.Frag) (n : Nat) (H : Hp) : List V → List V → Prop where
  | nil : AlkL K n H [] []
  | cons {x y : V} {xs ys : List V} (h : AlkD K n H x y) (t : AlkL K n H xs ys) : AlkL K n H (x :: xs) (y :: ys)
theorem AlkL.len {K : PySem.W.Frag} {n : Nat} {H : Hp} : ∀ {xs ys : List V}, AlkL K n H xs ys → xs.length = ys.length
  | _, _, .nil => rfl
  | _, _, .cons _ t => by rw [List.length_cons, List.length_cons, t.len]
theorem AlkL.at {K : PySem.W.Frag} {n : Nat} {H : Hp} : ∀ {xs ys : List V}, AlkL K n H xs ys → ∀ (i : Nat) u v, xs[i]? = some u → ys[i]? = some v → AlkD K n H u v
  | _, _, .nil, i, u, v, h, _ => by simp at h
  | _, _, .cons h t, 0, u, v, h1, h2 => by
    cases h1
    cases h2
    exact h
  | _, _, .cons h t, i + 1, u, v, h1, h2 => t.at i u v (by simpa using h1) (by simpa using h2)
theorem alk_lst {K : PySem.W.Frag} {n : Nat} {H : Hp} {a b : Addr} {xs ys : List V} (h : SqL K H a xs) (k : SqL K H b ys) (l : xs.length ≤ 100000) (t : AlkL K n H xs ys) : AlkD K (n + 1) H (.ref a) (.ref b) := .inr ⟨a, b, xs, ys, rfl, rfl, .inl ⟨h, k⟩, t.len, l, t.at⟩
theorem alk_tup {K : PySem.W.Frag} {n : Nat} {H : Hp} {a b : Addr} {xs ys : List V} (h : SqT K H a xs) (k : SqT K H b ys) (l : xs.length ≤ 100000) (t : AlkL K n H xs ys) : AlkD K (n + 1) H (.ref a) (.ref b) := .inr ⟨a, b, xs, ys, rfl, rfl, .inr ⟨h, k⟩, t.len, l, t.at⟩
theorem alk_ints {K : PySem.W.Frag} {n : Nat} {H : Hp} : ∀ {ns ms : List Int}, ns = ms → AlkL K n H (ns.map V.int) (ms.map V.int)
  | [], _, e => by
    subst e
    exact .nil
  | n :: ns, _, e => by
    subst e
    exact .cons (alk_int rfl) (alk_ints rfl)
theorem alk_pairs {K : PySem.W.Frag} {H : Hp} {vs ws : List V} {l : List (Int × Int)} (hv : Pairs H vs l) (hw : Pairs H ws l) (n : Nat) : ∀ (i : Nat) u v, vs[i]? = some u → ws[i]? = some v → AlkD K (n + 1) H u v := fun i u v h1 h2 => by
  obtain ⟨z, hz, p, rfl, hp⟩ := hv.at h1
  obtain ⟨z2, hz2, q, rfl, hq⟩ := hw.at h2
  have e : z = z2 := Option.some.inj (hz.symm.trans hz2)
  subst e
  exact alk_tup (sqT_at hp) (sqT_at hq) (by simp) (.cons (alk_int rfl) (.cons (alk_int rfl) .nil))
theorem alk_prs {K : PySem.W.Frag} {H : Hp} {a b : Addr} {vs ws : List V} {l : List (Int × Int)} (n : Nat) (h : SqL K H a vs) (k : SqL K H b ws) (ll : l.length ≤ 100000) (hv : Pairs H vs l) (hw : Pairs H ws l) : AlkD K (n + 2) H (.ref a) (.ref b) :=
  .inr ⟨a, b, vs, ws, rfl, rfl, .inl ⟨h, k⟩, by rw [hv.1, hw.1], by have := hv.1; omega, alk_pairs hv hw n⟩
end G57
end
section
set_option maxRecDepth 100000
set_option maxHeartbeats 4000000
/-! XB: the second family's drawing list; instances that are called. -/
namespace G57
open PySem PySem.Spec PyProof.Rows L2
/-! ### the drawing list -/
def hid (h : Addr) (H : Hp) : Hp := fun b => if b = h then none else H b
theorem hid_same {h : Addr} {H : Hp} : Same (hid h H) H := fun b o e => by
  unfold hid at e
  split at e
  · cases e
  · exact e
theorem hid_ne {h b : Addr} {H : Hp} (n : b ≠ h) : hid h H b = H b := if_neg n
theorem hid_d {h : Addr} {H H' : Hp} (s : SameD h h H H') : Same (hid h H) (hid h H') := fun b o e => by
  unfold hid at e
  split at e
  · cases e
  · rename_i n
    rw [hid_ne n]
    exact s b o n n e
theorem hid_new {h : Addr} {H : Hp} {o : HO} (n : H h = none) : Same H (hid h (upd H h o)) := fun b u e => by
  have ne := ne_of_none e n
  rw [hid_ne ne, upd_ne ne]
  exact e
/-- script, place, number, rest -/
def HatB (K : PySem.W.Frag) (H : Hp) (h a : Addr) : Prop := ∃ (ns : List Int) (p m r : Int), H h = some (.lst [.ref a, .int p, .int m, .int r]) ∧ SqL K (hid h H) a (ns.map V.int) ∧ ns.length ≤ 63 ∧ 0 ≤ p ∧ 0 ≤ m ∧ m < 2147483647 ∧ 0 ≤ r
section
variable {K : PySem.W.Frag} {H H' H2 : Hp} {h a p : Addr}
theorem HatB.mono (w : HatB K H h a) (s : Same H H') : HatB K H' h a := by
  obtain ⟨ns, p, m, r, e, q, z⟩ := w
  exact ⟨ns, p, m, r, s _ _ e, same_sqL (hid_d (sameD_of s)) q, z⟩
theorem HatB.lst (w : HatB K H h a) : ∃ xs, H h = some (.lst xs) := let ⟨_, _, _, _, e, _⟩ := w; ⟨_, e⟩
theorem hatB_s (s : Same H H') (w : HatB K H h a) : HatB K H' h a := w.mono s
theorem hatB_id (w : HatB K H h a) : HatB K H h a := w
theorem HatB.ne (hat : HatB K H h a) (e : H p = none) : p ≠ h ∧ p ≠ h := by
  obtain ⟨xs, q⟩ := hat.lst
  have n : p ≠ h := fun z => by
    subst z
    rw [e] at q
    cases q
  exact ⟨n, n⟩
theorem hatB_ne (e : H p = none) (hat : HatB K H h a) : p ≠ h ∧ p ≠ h := hat.ne e
theorem atB_no {o : HO} (hat : HatB K H h a) (n : ∀ xs, o ≠ .lst xs) (e : H p = some o) : p ≠ h := fun z => by
  obtain ⟨xs, q⟩ := hat.lst
  subst z
  rw [e] at q
  exact n _ (Option.some.inj q)
theorem atB_tup {xs : List V} (s : SameD h h H H') (hat : HatB K H h a) (e : H p = some (.tup xs)) : H' p = some (.tup xs) := by
  have n := atB_no hat (fun _ z => by cases z) e
  exact s _ _ n n e
theorem atB_ins {C dx : Addr} {fs : List (Str × V)} (s : SameD h h H H') (hat : HatB K H h a) (e : H p = some (.ins C dx fs)) : H' p = some (.ins C dx fs) := by
  have n := atB_no hat (fun _ z => by cases z) e
  exact s _ _ n n e
theorem atB_lst {xs : List V} (s : SameD h h H H') (n : p ≠ h ∧ p ≠ h) (e : H p = some (.lst xs)) : H' p = some (.lst xs) := s _ _ n.1 n.2 e
theorem sqTB {xs : List V} (s : SameD h h H H') (hat : HatB K H h a) (e : SqT K H p xs) : SqT K H' p xs := by
  rcases e with (e | ⟨o, e⟩) | e
  · exact .inl (.inl (atB_tup s hat e))
  · have n := atB_no hat (fun _ z => by cases z) e
    exact .inl (.inr ⟨o, s _ _ n n e⟩)
  · exact .inr e
end
section
variable {K : PySem.W.Frag} {σ : L2.St} {H1 : Hp} {Q : VK} {te : TE}
theorem sqL_hid {D a : Addr} {H : Hp} {xs : List V} (n : H D = none) (q : SqL K H a xs) : SqL K (hid D H) a xs := by
  rcases q with (q | ⟨o, q⟩) | q
  · exact .inl (.inl (by rw [hid_ne (ne_of_none q n)]; exact q))
  · exact .inl (.inr ⟨o, by rw [hid_ne (ne_of_none q n)]; exact q⟩)
  · exact .inr q
theorem hid_hid {D h : Addr} {H H' : Hp} (s : SameD h h H H') : Same (hid D (hid h H)) (hid D (hid h H')) := fun b o e => by
  unfold hid at e
  split at e
  · cases e
  · rename_i n1
    split at e
    · cases e
    · rename_i n2
      rw [hid_ne n1, hid_ne n2]
      exact s b o n2 n2 e
/-- the script apart from D -/
def Scr (K : PySem.W.Frag) (H : Hp) (D h a : Addr) : Prop := ∃ ns : List Int, SqL K (hid D (hid h H)) a (ns.map V.int) ∧ ns.length ≤ 63
theorem Scr.of {H : Hp} {D h a : Addr} (hat : HatB K H h a) (n : H D = none) : Scr K H D h a := by
  obtain ⟨ns, p, m, r, e, q, l, _⟩ := hat
  refine ⟨ns, sqL_hid ?_ q, l⟩
  unfold hid
  split
  · rfl
  · exact n
theorem Scr.d {H H' : Hp} {D h a : Addr} (z : Scr K H D h a) (s : SameD h h H H') : Scr K H' D h a := let ⟨ns, q, l⟩ := z; ⟨ns, same_sqL (hid_hid s) q, l⟩
theorem HatB.put {H : Hp} {D h a : Addr} {o : HO} (hat : HatB K H h a) (z : Scr K H D h a) (n : D ≠ h) : HatB K (upd H D o) h a ∧ Scr K (upd H D o) D h a := by
  obtain ⟨ms, p, m, r, e, _, _, w⟩ := hat
  obtain ⟨ns, q, l⟩ := z
  have s : Same (hid D (hid h H)) (hid D (hid h (upd H D o))) := fun b u e => by
    unfold hid at e
    split at e
    · cases e
    · rename_i n1
      split at e
      · cases e
      · rename_i n2
        rw [hid_ne n1, hid_ne n2, upd_ne n1]
        exact e
  have q2 := same_sqL s q
  exact ⟨⟨ns, p, m, r, by rw [upd_ne n.symm]; exact e, same_sqL hid_same q2, l, w⟩, ns, q2, l⟩
/-- a drawing comprehension: ints that keep a word -/
theorem lcB_ints {h a : Addr} {lo : Int} {n j : Nat} (P : Int → Prop) (hat : HatB K H1 h a) (hn : n ≤ 1000)
    (hs : ∀ (i : Nat) H' (Z : VK), i < n → HatB K H' h a → SameD h h H1 H' → (∀ y H4, HatB K H4 h a → SameD h h H' H4 → P y → Z (.int y) H4) → SetR j (.int (lo + i)) (fun s => te s H' Z) σ)
    (hd : ∀ D H' (ns : List Int), HatB K H' h a → SameD h h H1 H' → H1 D = none → H' D = some (.lst (ns.map V.int)) → ns.length = n → (∀ x ∈ ns, P x) → Q (.ref D) H') : LcR (Itr lo n) (gName j) tYes te [j] σ Q H1 := fun D hD => by
  have nD := hat.ne hD
  refine lc_range (fun i H' => (HatB K H' h a ∧ Scr K H' D h a) ∧ SameD h h H1 H' ∧ ∃ xs : List Int, H' D = some (.lst (xs.map V.int)) ∧ xs.length = i ∧ ∀ x ∈ xs, P x) ⟨hat.put (Scr.of hat hD) nD.1, (sameD_of sameR).mut hD, [], upd_same, rfl, fun x hx => by cases hx⟩ ?_ ?_
  · rintro i H' hi ⟨⟨hH', sc⟩, sd, xs, hDx, xl, xb⟩
    refine ⟨wipe1' _, tYes_of ?_⟩
    rw [wipe1]
    refine hs i H' _ hi hH' sd fun y H4 h4 s4 py => ?_
    have hD4 := s4 _ _ nD.1 nD.1 hDx
    refine ⟨_, hD4, Nat.lt_of_lt_of_le (show _ < 1001 by rw [List.length_map]; omega) (by decide), h4.put (sc.d s4) nD.1, (sd.tr s4).mut hD, xs ++ [y], by rw [upd_same]; simp, by simp [xl], fun x hx => ?_⟩
    rcases List.mem_append.mp hx with hx | hx
    · exact xb x hx
    · rw [List.mem_singleton.mp hx]
      exact py
  · rintro H' ⟨⟨hH', sc⟩, sd, xs, hDx, xl, xb⟩
    exact hd D H' xs hH' sd hD hDx xl xb
end
/-! ### an instance that is called -/
structure Cop (P : Program) (w : World) (K : PySem.W.Frag) (mg : Str → Option Value) (base : Heap) (k : Nat) (C : Addr) (sp : Sp) : Prop where
  ex : ∃ g : Addr, StX.CallO K C g ∧ FnR P w K mg base CX0 k g sp
section
variable {P : Program} {w : World} {K : PySem.W.Frag} {mg : Str → Option Value} {base : Heap}
theorem cop_of {d : DefA} {C : Str} {N ps : List Str} {k : Nat} {sp : Sp} (F : ∃ fd, d.Fn K fd) (hp : d.path = pM C "__call__") (hd : d.dfl = []) (hm : Meth K (He.ga K C) "__call__" (He.ma K (He.ga K C) "__call__")) (hf : PySem.W.fnIn K (He.ma K (He.ga K C) "__call__") = true) (S : FnScope N ps d.scope)
    (b : BindA d.name d.qual d.params d.body d.scope ps) (len : ∀ vs H Q E, sp vs H Q E → vs.length = ps.length) (hb : Body0 P w K mg base N d.qual d.body d.scope (He.ma K (He.ga K C) "__call__") k sp) : Cop P w K mg base (k + 1) (He.ga K C) sp := by
  obtain ⟨fd, F⟩ := F
  have F' : FunD K d.name d.qual d.params d.body d.scope [] (d.kws K) (He.ma K (He.ga K C) "__call__") fd := by
    have q : FunD K d.name d.qual d.params d.body d.scope (d.dvs K) (d.kws K) (d.path K) fd := F
    unfold DefA.dvs at q
    rw [hd, hp] at q
    exact q
  have Fk := fn0_of (P := P) (w := w) (mg := mg) (base := base) F' S len hb
  obtain ⟨oc, od, kV, doc, pm, an, cdv, ct, osl, rfl, lk, hcd⟩ := fun_of F'
  refine ⟨_, ⟨hm.at_, hm.fn, hf⟩, ?_⟩
  have z := Fk.raw (Binds.all (b kV doc pm an cdv ct)) .nil
  exact z.imp fun vs H Q E q => by
    rw [List.append_nil]
    exact q
end
def InsD (H : Hp) (a C : Addr) : Prop := (∃ dx vs, SlX.Slt H a C dx vs) ∨ ∃ dx fs, H a = some (.ins C dx fs)
def tCo (C : Addr) (sp : Sp) (E : XK) (tf : TE) (t : TA) : TE := fun σ H Q => tf σ H fun y H1 => ∃ a, y = V.ref a ∧ t σ H1 fun vs H2 => InsD H2 a C ∧ sp (V.ref a :: vs) H2 Q E
section
variable {X : Cx} {k j : Nat} {C : Addr} {sp : Sp} {fe e : Expr} {es : List Expr} {pos : Pos} {tf : TE} {t : TA}
theorem pe_co (c : Cop X.prog X.w X.K X.mg X.base k C sp) (hr : Room j X.A) (hk : k ≤ j) (hf : PE X fe tf) (ha : PA X (e :: es) t)
    (ht : eval (.Call fe (e :: es) [] pos) X.env = (do callWith pos (← eval fe X.env) [] (backTo pos (starEach (e :: es) X.env)) (backToKw pos (keywordEach [] X.env))) := by rfl)
    (he : starEach (e :: es) X.env = (false, eval e X.env) :: starEach es X.env := by rfl) (hpl : (backTo pos (starEach es X.env)).any (·.1) = false := by rfl) : PE X (.Call fe (e :: es) [] pos) (tCo C sp E0 tf t) := by
  obtain ⟨g, c1, F⟩ := c.ex
  exact StX.pe_callO hf c1 F (hr.mono hk) pass0 ha ht he hpl
end
section
variable {σ : L2.St} {H : Hp} {Q : VK} {C : Addr} {sp : Sp} {E : XK} {tf : TE} {t : TA}
def CoR (C : Addr) (sp : Sp) (E : XK) (t : TA) (σ : L2.St) (Q : VK) (y : V) (H1 : Hp) : Prop := ∃ a, y = V.ref a ∧ t σ H1 fun vs H2 => InsD H2 a C ∧ sp (V.ref a :: vs) H2 Q E
theorem r_co (q : tf σ H (CoR C sp E t σ Q)) : tCo C sp E tf t σ H Q := q
theorem r_coR {a : Addr} (q : t σ H fun vs H2 => InsD H2 a C ∧ sp (V.ref a :: vs) H2 Q E) : CoR C sp E t σ Q (.ref a) H := ⟨a, rfl, q⟩
theorem r_coI {a dx : Addr} {fs : List (Str × V)} {A : Prop} (h : H a = some (.ins C dx fs)) (q : A) : InsD H a C ∧ A := ⟨.inr ⟨dx, fs, h⟩, q⟩
end
/-! ### list(range(..)) -/
section
variable {σ : L2.St} {H : Hp} {Q : VK} {ta tb : TE}
def Rg2R (Q : Int → Int → Hp → Prop) (x y : V) (H : Hp) : Prop := ∃ i j, x = .int i ∧ y = .int j ∧ Q i j H
def LRgR (Q : VK) (a b : Int) (H : Hp) : Prop := RgOk a b ∧ ∀ q, H q = none → Q (.ref q) (upd H q (.lst (rgV a b)))
theorem r_lRg {te : L2.St → Hp → (Int → Int → Hp → Prop) → Prop} (q : te σ H (LRgR Q)) : tLstRg te σ H Q := q
theorem r_rg2 {Q : Int → Int → Hp → Prop} (q : ta σ H fun x H1 => tb σ H1 fun y H2 => Rg2R Q x y H2) : tRg2 ta tb σ H Q := q
theorem r_rg2R {Q : Int → Int → Hp → Prop} {i j : Int} (q : Q i j H) : Rg2R Q (.int i) (.int j) H := ⟨i, j, rfl, rfl, q⟩
theorem rgV_ints (a b : Int) : rgV a b = ((List.range (b - a).toNat).map fun i : Nat => a + (i : Int)).map V.int := by
  unfold rgV
  simp
theorem a_lRg {a b : Int} (ok : RgOk a b) (q : ∀ p H', Same H H' → H p = none → H' p = some (.lst (((List.range (b - a).toNat).map fun i : Nat => a + (i : Int)).map V.int)) → Q (.ref p) H') : LRgR Q a b H := ⟨ok, fun p hp => by
  rw [rgV_ints]
  exact q p _ (same_new hp) hp upd_same⟩
end
/-- an if whose ways meet in J -/
theorem r_ifJ {c : TT} {t u : TS} {D : Ends} {σ : L2.St} {H : Hp} (J : L2.St → Hp → Prop) (hn : ∀ σ H, J σ H → D.nx σ H) (h1 : (∀ σ H, J σ H → D.nx σ H) → tIfS c t u D σ H) : tIfS c t u D σ H := h1 hn
theorem r_stopF {w : TI} {g : TG} {tb : TS} {D : Ends} {σ : L2.St} {H : Hp} (q : tFor w g tb D σ H) : tFor w g tb D σ H := q
end G57
end
section
set_option maxRecDepth 100000
set_option maxHeartbeats 4000000
/-! XLam: lambdas as values: their making, their promises, defs that are told what a closure does. -/
namespace G57
open PySem PySem.Spec PyProof.Rows L2 LamX NdefX
/-! ### a lambda's text, a made closure -/
structure LamD where
  params : Arguments
  body : Expr
  scope : Scope
  pos : Pos
structure LF where
  d : LamD
  qual : Str
  cl : List (Str × Addr)
  c : Addr
  dV : Value
def LF.nf (F : LF) : NF := ⟨"<lambda>", F.qual, F.d.params, [], F.d.scope, F.cl, F.c⟩
abbrev LF.fd (F : LF) (doc pm ctv : Value) : FuncData := PySem.W.kdv_fn "<lambda>" F.qual F.d.params (.expr F.d.body) F.d.scope F.cl F.dV doc pm (.ref F.c) ctv
abbrev LF.obj (F : LF) (doc pm ctv : Value) : Obj := { cls := .type "function", data := .func (F.fd doc pm ctv) }
/-- an object that never changes -/
def Frz (H : Hp) (a : Addr) (o : Obj) : Prop := ∃ u, H a = some (.frz o u)
def CodeF (H : Hp) (c : Addr) (q : Str) : Prop := ∃ oc vs t, Frz H c oc ∧ oc.data = .fields vs ∧ vs[1]? = some (.str q t)
def FnF (H : Hp) (f : Addr) (F : LF) : Prop := ∃ doc pm ctv, Frz H f (F.obj doc pm ctv)
structure Lam (H : Hp) (f : Addr) (F : LF) (ds : List V) : Prop where
  fn : FnF H f F
  code : CodeF H F.c F.qual
  dfl : (F.dV = .none ∧ ds = []) ∨ (ds ≠ [] ∧ ∃ t, F.dV = .ref t ∧ H t = some (.tup ds))
/-- what never changes has not -/
def Still (H H' : Hp) : Prop := (∀ b o u, H b = some (.frz o u) → H' b = some (.frz o u)) ∧ ∀ b xs, H b = some (.tup xs) → H' b = some (.tup xs)
section
variable {H H' : Hp} {f c h a : Addr} {F : LF} {ds : List V} {q : Str} {K : PySem.W.Frag}
theorem Still.of (s : Same H H') : Still H H' := ⟨fun b o u e => s _ _ e, fun b xs e => s _ _ e⟩
theorem Still.n (s : ExtN H H') : Still H H' := ⟨fun b o u e => s _ _ e fun ps z => (by cases z), fun b xs e => s _ _ e fun ps z => (by cases z)⟩
theorem Still.d (s : SameD h h H H') (hat : HatB K H h a) : Still H H' := by
  refine ⟨fun b o u e => ?_, fun b xs e => atB_tup s hat e⟩
  have n := atB_no hat (fun _ z => by cases z) e
  exact s _ _ n n e
theorem Still.dA {l : Addr} (s : SameD h l H H') (hat : Hat H h l) : Still H H' := by
  refine ⟨fun b o u e => ?_, fun b xs e => s.tup hat e⟩
  obtain ⟨m, c, ys, e1, e2, _⟩ := hat
  refine s b _ (fun z => ?_) (fun z => ?_) e
  · subst z
    rw [e] at e1
    cases e1
  · subst z
    rw [e] at e2
    cases e2
theorem Still.tr {H2 : Hp} (a : Still H H') (b : Still H' H2) : Still H H2 := ⟨fun x o u e => b.1 _ _ _ (a.1 _ _ _ e), fun x xs e => b.2 _ _ (a.2 _ _ e)⟩
theorem Frz.st {o : Obj} (z : Frz H a o) (s : Still H H') : Frz H' a o := let ⟨u, e⟩ := z; ⟨u, s.1 _ _ _ e⟩
theorem CodeF.st (z : CodeF H c q) (s : Still H H') : CodeF H' c q := let ⟨oc, vs, t, e, r⟩ := z; ⟨oc, vs, t, e.st s, r⟩
theorem FnF.st (z : FnF H f F) (s : Still H H') : FnF H' f F := let ⟨d, p, c, e⟩ := z; ⟨d, p, c, e.st s⟩
theorem Lam.st (z : Lam H f F ds) (s : Still H H') : Lam H' f F ds := ⟨z.fn.st s, z.code.st s, z.dfl.elim .inl fun ⟨n, t, e, k⟩ => .inr ⟨n, t, e, s.2 _ _ k⟩⟩
end
/-! ### tables -/
def TabF (H : Hp) (P : Addr) (q : Str) : Prop := ∃ ps : Array Value, H P = some (.tbl ps) ∧ TriplesOk ps.toList ∧ ∀ (pos : Pos) (cv : Value), codeAmong pos ps.toList = some cv → ∃ c, cv = .ref c ∧ CodeF H c q
def TabsF (T : List (Addr × Str)) (H : Hp) : Prop := ∀ p ∈ T, TabF H p.1 p.2
theorem TabF.mv {H H' : Hp} {P : Addr} {q : Str} (t : TabF H P q) (e : ∀ ps, H P = some (.tbl ps) → H' P = some (.tbl ps)) (s : Still H H') : TabF H' P q := by
  obtain ⟨ps, h1, h2, h3⟩ := t
  exact ⟨ps, e _ h1, h2, fun pos cv hc => let ⟨c, e1, e2⟩ := h3 pos cv hc; ⟨c, e1, e2.st s⟩⟩
theorem tabsF_s {T : List (Addr × Str)} {H H' : Hp} (s : Same H H') (t : TabsF T H) : TabsF T H' := fun p hp => (t p hp).mv (fun ps e => s _ _ e) (.of s)
theorem tabsF_d {T : List (Addr × Str)} {H H' : Hp} {K : PySem.W.Frag} {h a : Addr} (s : SameD h h H H') (hat : HatB K H h a) (t : TabsF T H) : TabsF T H' := fun p hp => (t p hp).mv (fun ps e => by
  have n := atB_no hat (fun _ z => by cases z) e
  exact s _ _ n n e) (.d s hat)
theorem tabsF_x {T : List (Addr × Str)} {H H' : Hp} {L : Addr} {zs : List V} (s : SameX L H H') (hl : H L = some (.lst zs)) (t : TabsF T H) : TabsF T H' := by
  have ne : ∀ {b : Addr} {o : HO}, H b = some o → (∀ xs, o ≠ .lst xs) → b ≠ L := fun {b o} e n z => by
    subst z
    rw [hl] at e
    exact n _ (Option.some.inj e).symm
  exact fun p hp => (t p hp).mv (fun ps e => s _ _ (ne e fun _ z => by cases z) e) ⟨fun b o u e => s _ _ (ne e fun _ z => by cases z) e, fun b xs e => s _ _ (ne e fun _ z => by cases z) e⟩
theorem tabsF_0 {T : List (Addr × Str)} {H : Hp} (h : ∀ p ∈ T, H p.1 = some (.tbl #[])) : TabsF T H := fun p hp => ⟨#[], h p hp, True.intro, fun pos cv hc => by
  have z : codeAmong pos [] = some cv := hc
  simp [codeAmong] at z⟩
/-! ### the making -/
def FO (a : Addr) (o : Obj) : HO := .ext fun h => h.get? a = some o
section
variable {X : Cx} {pins : List (Addr × Obj)} {σ : L2.St} {H : Hp} {s : Shared}
theorem fo_ok {P : Program} {w : World} {h : Heap} {a : Addr} {o : Obj} (e : h.get? a = some o) : ObjOk P w H h a (.frz o (FO a o)) := ⟨e, e, ⟨_, e⟩, fun h1 h2 z st => st _ z⟩
theorem inv_frz {o : Obj} {t' : Nat} (I : Inv X pins σ H s) (hf : o.isFreed = false := by rfl) : Inv X pins σ (upd H s.heap.objs.size (.frz o (FO s.heap.objs.size o))) { s with heap := s.heap.push o, toks := t' } :=
  I.laid (a := s.heap.objs.size) (fun b u e => Heap.get?_push_of_some _ e) (Nat.le_refl _) (fo_ok (Heap.get?_push_size _ hf))
theorem frz_at {P : Program} {w : World} {h : Heap} {a : Addr} {o : Obj} (hok : HOk P w H h) (e : Frz H a o) : h.get? a = some o := by
  obtain ⟨u, e⟩ := e
  exact (hok a _ e).1
theorem lamF_make {T : List (Addr × Str)} {c P : Addr} {d : LamD} {dV : Value} {E : Value → Shared → Prop} {Q : Value → Shared → Prop} (I : Inv X pins σ H s) (TB : TabB X.base X.mg c P) (hcode : X.env.code = .ref c)
    (hm : (P, X.env.qual ++ "<lambda>") ∈ T) (hu : ∀ p ∈ T, p.1 = P → p.2 = X.env.qual ++ "<lambda>") (hT : TabsF T H) (hfree : ∀ y ∈ d.scope.names, y.2 = .free → ∃ c, X.env.cells.lookup y.1 = some c)
    (h : ∀ (f c' : Addr) (H1 : Hp) (s' : Shared), Inv X pins σ H1 s' → ExtN H H1 → TabsF T H1 → H f = none → FnF H1 f ⟨d, X.env.qual ++ "<lambda>", cloFrom X.env.cells d.scope.names [], c', dV⟩ → CodeF H1 c' (X.env.qual ++ "<lambda>") → Q (.ref f) s') :
    wpAny (model X.prog X.w) X.A (makeTail "<lambda>" (X.env.qual ++ "<lambda>") d.params (.expr d.body) d.scope X.env dV .none none d.pos d.pos.line) Q E s := by
  obtain ⟨ps, hP, ht, ha⟩ := hT _ hm
  have bP : s.heap.BuiltinsAt X.mg P := TB.bm.keeps I.bk
  have hP' : s.heap.get? P = some { cls := .none, data := .fields ps } := I.hok P _ hP
  cases hc : codeAmong d.pos ps.toList with
  | none =>
    refine PySem.W.kdv_makeTail (mg := X.mg) (closure_ok hfree) I.ok.glob (I.mod.glob.keeps I.bk) hcode (TB.code.keeps I.bk) hP' ht hc TB.gP bP fun c' ctv doc h' tk hx hge hlt hrec htb => ?_
    obtain ⟨c2, oc, vs, t, e2, hoc, hd, hv⟩ := hrec
    cases e2
    have nC : H c' = none := I.hok.fresh hge
    have nPc : P ≠ c' := ne_of_none hP nC
    have J1 := inv_table (t' := tk) (more := #[rawInt d.pos.line, rawInt d.pos.col, .ref c']) (h' := h') I hP (fun b o hb e => hx b o hb e) htb hge ⟨oc, vs, t, hoc, hd, hv⟩
    generalize hA : upd (upd H P (.tbl (ps ++ #[rawInt d.pos.line, rawInt d.pos.col, .ref c']))) c' (CodeO c' (X.env.qual ++ "<lambda>")) = HA at J1
    have aC : HA c' = some (CodeO c' (X.env.qual ++ "<lambda>")) := by rw [← hA, upd_same]
    have J2 : Inv X pins σ (upd HA c' (.frz oc (FO c' oc))) { s with heap := h', toks := tk } := J1.write (x := c') (e := c') (t' := tk) (by rw [aC]; exact True.intro) (.inl rfl) (fun b u _ e => e) ⟨oc, hoc⟩ (fo_ok hoc)
    have J3 := inv_frz (o := LF.obj ⟨d, X.env.qual ++ "<lambda>", cloFrom X.env.cells d.scope.names [], c', dV⟩ doc ((X.mg "__name__").getD .none) ctv) (t' := tk) J2
    have nF : H h'.objs.size = none := I.hok.fresh (Nat.le_trans hge (Nat.le_of_lt hlt))
    have nFc : h'.objs.size ≠ c' := Nat.ne_of_gt hlt
    have nFP : h'.objs.size ≠ P := fun z => by
      rw [z, hP] at nF
      cases nF
    generalize hB : upd (upd HA c' (.frz oc (FO c' oc))) h'.objs.size (.frz (LF.obj ⟨d, X.env.qual ++ "<lambda>", cloFrom X.env.cells d.scope.names [], c', dV⟩ doc ((X.mg "__name__").getD .none) ctv) (FO h'.objs.size (LF.obj ⟨d, X.env.qual ++ "<lambda>", cloFrom X.env.cells d.scope.names [], c', dV⟩ doc ((X.mg "__name__").getD .none) ctv))) = HB at J3
    have bF : FnF HB h'.objs.size ⟨d, X.env.qual ++ "<lambda>", cloFrom X.env.cells d.scope.names [], c', dV⟩ := ⟨doc, _, ctv, _, by rw [← hB, upd_same]⟩
    have bC : CodeF HB c' (X.env.qual ++ "<lambda>") := ⟨oc, vs, t, ⟨FO c' oc, by rw [← hB, upd_ne nFc.symm, upd_same]⟩, hd, hv⟩
    have bP2 : HB P = some (.tbl (ps ++ #[rawInt d.pos.line, rawInt d.pos.col, .ref c'])) := by
      rw [← hB, upd_ne nFP.symm, upd_ne nPc, ← hA, upd_ne nPc, upd_same]
    have bO : ∀ b o, H b = some o → b ≠ P → HB b = some o := fun b o e n => by
      rw [← hB, upd_ne (ne_of_none e nF), upd_ne (ne_of_none e nC), ← hA, upd_ne (ne_of_none e nC), upd_ne n]
      exact e
    have bE : ExtN H HB := fun b o e n => bO b o e fun z => by
      rw [z, hP] at e
      exact n _ (Option.some.inj e).symm
    refine h _ c' HB _ J3 bE (fun p hp => ?_) nF bF bC
    by_cases hb : p.1 = P
    · rw [hu p hp hb, hb]
      refine ⟨_, bP2, by rw [show (ps ++ #[rawInt d.pos.line, rawInt d.pos.col, .ref c']).toList = ps.toList ++ [rawInt d.pos.line, rawInt d.pos.col, .ref c'] by simp]; exact PySem.TriplesOk_snoc _ _ _ _ ht, fun p' cv hcv => ?_⟩
      rw [show (ps ++ #[rawInt d.pos.line, rawInt d.pos.col, .ref c']).toList = ps.toList ++ [rawInt d.pos.line, rawInt d.pos.col, .ref c'] by simp] at hcv
      rcases among_app _ ht hcv with z | z
      · obtain ⟨c0, e1, e2⟩ := ha p' cv z
        exact ⟨c0, e1, e2.st (.n bE)⟩
      · exact ⟨c', z, bC⟩
    · exact (hT p hp).mv (fun qs e => bO _ _ e hb) (.n bE)
  | some cv =>
    obtain ⟨c', e, hco⟩ := ha d.pos cv hc
    subst e
    refine PySem.W.kdv_makeTailHit (mg := X.mg) (closure_ok hfree) I.ok.glob (I.mod.glob.keeps I.bk) hcode (TB.code.keeps I.bk) hP' ht hc bP fun ctv doc h' tk hx hsz => ?_
    have J1 : Inv X pins σ H { s with heap := h', toks := tk } := I.kept hx
    have J3 := inv_frz (o := LF.obj ⟨d, X.env.qual ++ "<lambda>", cloFrom X.env.cells d.scope.names [], c', dV⟩ doc ((X.mg "__name__").getD .none) ctv) (t' := tk) J1
    have nF : H h'.objs.size = none := J1.hok.fresh (Nat.le_refl _)
    have bS := same_new (o := .frz (LF.obj ⟨d, X.env.qual ++ "<lambda>", cloFrom X.env.cells d.scope.names [], c', dV⟩ doc ((X.mg "__name__").getD .none) ctv) (FO h'.objs.size (LF.obj ⟨d, X.env.qual ++ "<lambda>", cloFrom X.env.cells d.scope.names [], c', dV⟩ doc ((X.mg "__name__").getD .none) ctv))) nF
    exact h _ c' _ _ J3 (ExtN.of bS) (tabsF_s bS hT) nF ⟨doc, _, ctv, _, upd_same⟩ (hco.st (.of bS))
end
end G57
end
section
set_option maxRecDepth 100000
set_option maxHeartbeats 4000000
/-! XLam2: lambdas: the expression, the body's promise, what a caller knows, defs told of a closure. -/
namespace G57
open PySem PySem.Spec PyProof.Rows L2 LamX NdefX
/-! ### the expression -/
/-- captured: the cells that the maker's frame has -/
def ofC (cells : List (Str × Addr)) (F : LF) : Prop := F.cl = cloFrom cells F.d.scope.names []
def tLm (T : List (Addr × Str)) (cells : List (Str × Addr)) (d : LamD) (ds : List V) : TE := fun σ H Q => TabsF T H ∧ ∀ (f : Addr) (F : LF) (H1 : Hp), ExtN H H1 → TabsF T H1 → H f = none → Lam H1 f F ds → F.d = d → ofC cells F → Q (.ref f) H1
section
variable {X : Cx}
theorem pe_lm {T : List (Addr × Str)} {c P : Addr} {d : LamD} (TB : TabB X.base X.mg c P) (hcode : X.env.code = .ref c) (hm : (P, X.env.qual ++ "<lambda>") ∈ T) (hu : ∀ p ∈ T, p.1 = P → p.2 = X.env.qual ++ "<lambda>") (L : ∀ y ∈ d.scope.names, y.2 = .free → X.env.scope.names.lookup y.1 = some .cell ∨ X.env.scope.names.lookup y.1 = some .free)
    (hd : d.params.defaults = []) (hk : d.params.kw_defaults = []) : PE X (.Lambda d.params d.body d.scope d.pos) (tLm T X.env.cells d []) := by
  refine ⟨fun pins s σ H Q I h => ?_⟩
  obtain ⟨hT, h⟩ := h
  refine PySem.W.kla_eval (by rw [defaultsOf_eq, hd, hk] <;> rfl) ?_
  rw [makeFunction_eq]
  simp only [List.zip_nil_right, List.filterMap_nil, List.isEmpty_nil, if_true, pure_bind]
  refine lamF_make I TB hcode hm hu hT (fun y hy e => (L y hy e).elim (fun z => I.ok.has _ (.inl z)) fun z => I.ok.has _ (.inr z)) fun f c' H1 s' I1 eN T1 hf hF hc => ?_
  exact ⟨.ref f, H1, I1, rfl, h f _ H1 eN T1 hf ⟨hF, hc, .inl ⟨rfl, rfl⟩⟩ rfl rfl⟩
/-- with one default -/
theorem pe_lm1 {T : List (Addr × Str)} {c P : Addr} {d : LamD} {i : Int} {e : Expr} (TB : TabB X.base X.mg c P) (hcode : X.env.code = .ref c) (hm : (P, X.env.qual ++ "<lambda>") ∈ T) (hu : ∀ p ∈ T, p.1 = P → p.2 = X.env.qual ++ "<lambda>") (L : ∀ y ∈ d.scope.names, y.2 = .free → X.env.scope.names.lookup y.1 = some .cell ∨ X.env.scope.names.lookup y.1 = some .free)
    (hd : d.params.defaults = [e]) (he : PE X e (tC (.int i))) (hk : d.params.kw_defaults = []) : PE X (.Lambda d.params d.body d.scope d.pos) (tLm T X.env.cells d [.int i]) := by
  refine ⟨fun pins s σ H Q I h => ?_⟩
  obtain ⟨hT, h⟩ := h
  refine PySem.W.kdv_lam (by rw [hd] <;> rfl) hk ?_
  rw [hd]
  refine PySem.W.kdv_all1 (thn (he.run pins s σ H (fun v H1 => v = .int i ∧ H1 = H) I ⟨rfl, rfl⟩) fun u s1 ⟨v, H1, I1, r1, q1⟩ => ?_)
  obtain ⟨rfl, rfl⟩ := q1
  refine PySem.W.kdv_all0 ?_
  obtain ⟨t0, rfl⟩ : ∃ t, u = Value.int i t := r1
  rw [makeFunction_eq]
  simp only [List.zip_nil_right, List.filterMap_nil, List.isEmpty_nil, if_true, pure_bind, List.isEmpty_cons, Bool.false_eq_true, if_false]
  refine wpAny_bind (wpAny_newTextTuple ?_)
  have nT : H1 s1.heap.objs.size = none := I1.hok.fresh (Nat.le_refl _)
  have I2 : Inv X pins σ (upd H1 s1.heap.objs.size (.tup [.int i])) { s1 with heap := s1.heap.push { cls := .type "tuple", data := .seq #[Value.int i t0] } } := I1.laid (t' := s1.toks) (fun b u e => Heap.get?_push_of_some _ e) (Nat.le_refl _) ⟨by show 1 ≤ sizeLine; decide, [.int i t0], .cons ⟨t0, rfl⟩ .nil, _, Heap.get?_push_size _ rfl, rfl, ⟨_, rfl⟩⟩
  have sS := same_new (o := .tup [V.int i]) nT
  refine lamF_make I2 TB hcode hm hu (tabsF_s sS hT) (fun y hy e => (L y hy e).elim (fun z => I.ok.has _ (.inl z)) fun z => I.ok.has _ (.inr z)) fun f c' H2 s' I3 eN T1 hf hF hc => ?_
  exact ⟨.ref f, H2, I3, rfl, h f _ H2 ((ExtN.of sS).trans eN) T1 (none_of_same sS hf) ⟨hF, hc, .inr ⟨by simp, _, rfl, (Still.n eN).2 _ _ upd_same⟩⟩ rfl rfl⟩
end
/-! ### what is known of a frame's cells -/
structure CellsK (cells : List (Str × Addr)) (N : List Str) (sc : Scope) (σ : L2.St) (s : Shared) (H : Hp) : Prop where
  all : ∀ y c, cells.lookup y = some c → H c = none ∧ ∃ v, s.heap.IsCell c v
  inj : ∀ x y c, cells.lookup x = some c → cells.lookup y = some c → x = y
  has : ∀ y, (sc.names.lookup y = some .cell ∨ sc.names.lookup y = some .free) → ∃ c, cells.lookup y = some c
  val : ∀ (j : Nat) (y : Str) (v : V), N[j]? = some y → σ[j]? = some (some v) → (sc.names.lookup y = some .cell ∨ sc.names.lookup y = some .free) → ∃ c u, cells.lookup y = some c ∧ L2.RelV v u ∧ s.heap.IsCell c (some u)
theorem inv_cellsK {X : Cx} {pins : List (Addr × Obj)} {σ : L2.St} {H : Hp} {s : Shared} (I : Inv X pins σ H s) : CellsK X.env.cells X.N X.env.scope σ s H := by
  refine ⟨fun y c e => ⟨I.freeC y c e, I.cell y c e⟩, I.ok.inj, fun y e => I.ok.has y e, fun j y v e1 e2 k => ?_⟩
  obtain ⟨m, hn, hl⟩ := I.loc
  obtain ⟨u, r, l⟩ := hl j y v e1 e2 (.inr k)
  rcases l with ⟨z, _⟩ | ⟨_, c, hc, hv⟩
  · have z' : X.env.scope.names.lookup y = some .local := z
    rcases k with k | k <;> rw [k] at z' <;> cases z'
  · exact ⟨c, u, hc, r, hv⟩
/-- the state s' is one behind s: what was not tracked stands -/
structure Kp (s : Shared) (H : Hp) (s' : Shared) (H' : Hp) : Prop where
  still : Still H H'
  cell : ∀ b v, s.heap.IsCell b v → H b = none → s'.heap.IsCell b v ∧ H' b = none
theorem Kp.refl {s : Shared} {H : Hp} : Kp s H s H := ⟨⟨fun _ _ _ e => e, fun _ _ e => e⟩, fun b v e n => ⟨e, n⟩⟩
theorem Kp.tr {s s1 s2 : Shared} {H H1 H2 : Hp} (a : Kp s H s1 H1) (b : Kp s1 H1 s2 H2) : Kp s H s2 H2 := ⟨a.still.tr b.still, fun x v e n => let ⟨e1, n1⟩ := a.cell x v e n; b.cell x v e1 n1⟩
theorem Kp.un {fs ex : List Addr} {s s' : Shared} {H H' : Hp} (u : Un fs ex H H' s.heap s'.heap) (hx : ∀ b v, s.heap.IsCell b v → H b = none → b ∉ ex) : Kp s H s' H' := ⟨⟨u.frzs, u.tups⟩, fun b v ⟨o, ho, hd⟩ n => by
  have nx := hx b v ⟨o, ho, hd⟩ n
  obtain ⟨sl, e⟩ := u.any ho n nx
  exact ⟨⟨_, e, hd⟩, u.free b o ho n nx⟩⟩
theorem CellsK.kp {cells : List (Str × Addr)} {N : List Str} {sc : Scope} {σ : L2.St} {s s' : Shared} {H H' : Hp} (k : CellsK cells N sc σ s H) (p : Kp s H s' H') : CellsK cells N sc σ s' H' :=
  ⟨fun y c e => by
    obtain ⟨n, v, z⟩ := k.all y c e
    obtain ⟨z1, n1⟩ := p.cell c v z n
    exact ⟨n1, v, z1⟩, k.inj, k.has, fun j y v e1 e2 e3 => by
    obtain ⟨c, u, hc, r, hv⟩ := k.val j y v e1 e2 e3
    exact ⟨c, u, hc, r, (p.cell c _ hv (k.all y c hc).1).1⟩⟩
theorem cellsAt_kp {cl : List (Str × Addr)} {fr : List Str} {ws : List (Option V)} {s s' : Shared} {H H' : Hp} (C : CellsAt cl fr ws s.heap H) (p : Kp s H s' H') : CellsAt cl fr ws s'.heap H' :=
  ⟨C.len, fun y c e => by
    obtain ⟨n, v, z⟩ := C.all y c e
    obtain ⟨z1, n1⟩ := p.cell c v z n
    exact ⟨n1, v, z1⟩, C.inj, fun i y e => by
    obtain ⟨c, hc, hv⟩ := C.has i y e
    refine ⟨c, hc, fun v ev => ?_⟩
    obtain ⟨u, r, z⟩ := hv v ev
    exact ⟨u, r, (p.cell c _ z (C.all y c hc).1).1⟩⟩
/-- a look at the texts: the lambda's captured names stand in the maker's frame at the places js -/
def capB (N : List Str) (sc lsc : Scope) (fr : List Str) (js : List Nat) : Bool :=
  (lsc.names.all fun y => !decide (y.2 = .free) || decide (sc.names.lookup y.1 = some .cell) || decide (sc.names.lookup y.1 = some .free)) && (fr.all fun y => decide ((y, NameKind.free) ∈ lsc.names)) && decide (js.map (fun j => N[j]?) = fr.map some)
theorem CellsK.at {cells : List (Str × Addr)} {N : List Str} {sc : Scope} {σ : L2.St} {s : Shared} {H : Hp} {F : LF} {fr : List Str} {js : List Nat} (k : CellsK cells N sc σ s H) (o : ofC cells F) (b : capB N sc F.d.scope fr js = true) : CellsAt F.cl fr (js.map (slotAt σ)) s.heap H := by
  unfold capB at b
  simp only [Bool.and_eq_true, Bool.or_eq_true, Bool.not_eq_true', decide_eq_true_eq, decide_eq_false_iff_not, List.all_eq_true] at b
  obtain ⟨⟨b1, b2⟩, b3⟩ := b
  have hf : ∀ y ∈ F.d.scope.names, y.2 = .free → ∃ c, cells.lookup y.1 = some c := fun y hy e => by
    rcases b1 y hy with (z | z) | z
    · exact absurd e z
    · exact k.has _ (.inl z)
    · exact k.has _ (.inr z)
  have ll : js.length = fr.length := by
    have q := congrArg List.length b3
    simpa using q
  have o' : F.cl = cloFrom cells F.d.scope.names [] := o
  rw [o']
  refine ⟨by rw [List.length_map]; exact ll, fun y c e => k.all y c (clo_cm hf e), fun x y c e1 e2 => k.inj x y c (clo_cm hf e1) (clo_cm hf e2), fun i y e => ?_⟩
  have hy := b2 y (List.mem_of_getElem? e)
  obtain ⟨c, hc⟩ := hf _ hy rfl
  refine ⟨c, clo_has hf hy hc, fun v ev => ?_⟩
  have lt : i < fr.length := (List.getElem?_eq_some_iff.mp e).1
  obtain ⟨j, hj⟩ : ∃ j, js[i]? = some j := ⟨_, List.getElem?_eq_getElem (by omega)⟩
  have e2 : (js.map fun j => N[j]?)[i]? = some (some y) := by
    rw [b3, List.getElem?_map, e]
    rfl
  rw [List.getElem?_map, hj] at e2
  have hN : N[j]? = some y := Option.some.inj e2
  rw [List.getElem?_map, hj] at ev
  have ev2 : σ[j]? = some (some v) := slotAt_some (Option.some.inj ev)
  have kind : sc.names.lookup y = some .cell ∨ sc.names.lookup y = some .free := by
    rcases b1 _ hy with (z | z) | z
    · exact absurd rfl z
    · exact .inl z
    · exact .inr z
  obtain ⟨c2, u, hc2, r, hv⟩ := k.val j y v hN ev2 kind
  have hc' : cells.lookup y = some c := hc
  rw [hc'] at hc2
  cases hc2
  exact ⟨u, r, hv⟩
/-! ### a lambda's promise by its body -/
/-- ps: its parameters (ds: the defaults of the last ones); fr: the captured names -/
structure LOk (P : Program) (w : World) (K : PySem.W.Frag) (mg : Str → Option Value) (base : Heap) (k : Nat) (d : LamD) (ps fr : List Str) (ds : List V) (sp : List (Option V) → Sp) : Prop where
  run : ∀ (F : LF) (f : Addr) (A : Around) (outer : List Env) (s : Shared) (H : Hp) (us : List Value) (vs : List V) (ws : List (Option V)) (Q : VK) (E : XK), F.d = d → Room k A → Env0 P w K mg base A outer s H → Lam H f F ds → CellsAt F.cl fr ws s.heap H → Vals vs us → sp ws vs H Q E →
    codeAny (model P w) A (.call (.ref f) ⟨us, []⟩) (CR (L2.CX P w) outer P w H s Q E) s
section
variable {P : Program} {w : World} {K : PySem.W.Frag} {mg : Str → Option Value} {base : Heap}
/-- how its arguments come to the parameters -/
def LBind (d : LamD) (ps : List Str) (ds : List V) : Prop := ∀ (F : LF) (doc pm ctv : Value) (s : Shared) (us dvs : List Value), F.d = d → (us ++ dvs).length = ps.length → Vals ds dvs → ((F.dV = .none ∧ dvs = []) ∨ (dvs ≠ [] ∧ ∃ t o n, F.dV = .ref t ∧ s.heap.get? t = some o ∧ o.data = .seq dvs.toArray n)) → BindsTo s (F.fd doc pm ctv) ⟨us, []⟩ (ps.zip (us ++ dvs))
theorem lok_of {d : LamD} {N ps fr : List Str} {ds : List V} {k : Nat} {sp : List (Option V) → Sp} (S : NScope N ps fr d.scope) (hb : LBind d ps ds) (len : ∀ ws vs H Q E, sp ws vs H Q E → (vs ++ ds).length = ps.length)
    (hbody : ∀ (F : LF) (f : Addr) (A : Around) (outer : List Env) (s : Shared) (H : Hp) (vs : List V) (ws : List (Option V)) (Q : VK) (E : XK), F.d = d → Room k (A.deeper (envF F.nf f s.heap.objs.size)) → ws.length = fr.length → sp ws vs H Q E →
      ∃ t, PE (ncx (L2.CX P w) P w K mg base N F.nf f A outer s H E) d.body t ∧ t (startF N (vs ++ ds) ws) H Q) : LOk P w K mg base (k + 1) d ps fr ds sp := by
  refine ⟨fun F f A outer s H us vs ws Q E hd hr e0 hF C r hsp => ?_⟩
  have hl := len _ _ _ _ _ hsp
  have lim : s.heap.NoLimit := e0.mod.nolimit.keeps fun b o e => (e0.bs b o e).1
  obtain ⟨⟨doc, pm, ctv, ff⟩, ⟨oc, cvs, ct, fc, cd, cq⟩, df⟩ := hF
  have ho := frz_at e0.hok ff
  have hcode : s.heap.CodeRec (.ref F.c) F.qual := ⟨F.c, oc, cvs, ct, rfl, frz_at e0.hok fc, cd, cq⟩
  obtain ⟨dvs, rd, hdv⟩ : ∃ dvs, Vals ds dvs ∧ ((F.dV = .none ∧ dvs = []) ∨ (dvs ≠ [] ∧ ∃ t o n, F.dV = .ref t ∧ s.heap.get? t = some o ∧ o.data = .seq dvs.toArray n)) := by
    rcases df with ⟨e1, e2⟩ | ⟨nd, t, e1, e2⟩
    · rw [e2]
      exact ⟨[], .nil, .inl ⟨e1, rfl⟩⟩
    · obtain ⟨_, its, rv, o, h1, h2, n, h3⟩ := e0.hok t _ e2
      exact ⟨its, rv, .inr ⟨fun z => nd (by subst z; cases rv; rfl), t, o, n, e1, h1, h3⟩⟩
  have r2 : Vals (vs ++ ds) (us ++ dvs) := r.append rd
  have hsc : F.d.scope = d.scope := by rw [hd]
  have S' : NScope N ps fr F.nf.scope := by
    show NScope N ps fr F.d.scope
    rw [hsc]
    exact S
  refine PySem.W.kla_callFunE (body := F.d.body) (fd := F.fd doc pm ctv) hr.depth ho rfl (by show F.d.scope.isCoroutine = false; rw [hsc]; exact S.co) (by show F.d.scope.isGenerator = false; rw [hsc]; exact S.gen) rfl hcode ?_
  refine hb F doc pm ctv s us dvs hd (by rw [← r2.length]; exact hl) rd hdv _ _ _ _ ?_
  refine wpAny_newFunctionEnv (fun y hy => S'.nocell y hy) (fun ⟨n, _⟩ hy => S'.par n (List.of_mem_zip hy).1) (fun h₁ hns hsb => ⟨lim.fresh _ hsb, ?_⟩) S'.kind
  show codeAny _ _ (.expr F.d.body (envF F.nf f s.heap.objs.size)) _ _
  have kp : ∀ b o, s.heap.get? b = some o → h₁.get? b = some o := fun b o e => hsb.extBut b o (Nat.ne_of_lt (Heap.lt_size e)) (Heap.get?_push_of_some _ e)
  obtain ⟨t, ht, hq⟩ := hbody F f A outer s H vs ws Q E hd (hr.deeper _) C.len hsp
  rw [hd]
  have I : Inv (ncx (L2.CX P w) P w K mg base N F.nf f A outer s H E) [] (startF N (vs ++ ds) ws) H { s with heap := h₁, toks := s.toks + (ps.zip (us ++ dvs)).length } := inv_startN S' hr.hd e0 hl r2 C hns kp
  refine PySem.W.kla_codeExpr (wpAny_mono (ht.run [] _ _ H Q I hq) (fun v s' hq => ?_) fun e s' hq => hq)
  obtain ⟨w', H', J', rv, q⟩ := hq
  exact ⟨w', H', J'.os, J'.bare, J'.base, J'.hok, rv, q⟩
theorem LOk.mono {d : LamD} {ps fr : List Str} {ds : List V} {j k : Nat} {sp : List (Option V) → Sp} (o : LOk P w K mg base j d ps fr ds sp) (h : j ≤ k) : LOk P w K mg base k d ps fr ds sp := ⟨fun F f A outer s H us vs ws Q E e hr => o.run F f A outer s H us vs ws Q E e (hr.mono h)⟩
theorem lbind0 {d : LamD} {ps : List Str} (h : ∀ (F : LF) (doc pm ctv : Value) (us : List Value), F.d = d → F.dV = .none → us.length = ps.length → bindArgs (F.fd doc pm ctv) ⟨us, []⟩ = pure (ps.zip us)) : LBind d ps [] := fun F doc pm ctv s us dvs hd hl rd hv => by
  cases rd
  rw [List.append_nil] at hl ⊢
  rcases hv with ⟨e, _⟩ | ⟨z, _⟩
  · exact .of_eq (h F doc pm ctv us hd e hl)
  · exact absurd rfl z
theorem lbind1 {d : LamD} {p : Str} {x : V} (h : ∀ (F : LF) (doc pm ctv : Value), F.d = d → ∃ k : Option (Array Value) → Sem (List (Str × Value)), bindArgs (F.fd doc pm ctv) ⟨[], []⟩ = seqItems? F.dV >>= k ∧ ∀ u, k (some #[u]) = pure [(p, u)]) : LBind d [p] [x] := fun F doc pm ctv s us dvs hd hl rd hv => by
  cases rd with
  | @cons _ u _ ur ru rr =>
    cases rr
    have e : us = [] := by
      cases us with
      | nil => rfl
      | cons a b =>
        simp at hl
    subst e
    rcases hv with ⟨_, z⟩ | ⟨_, t, o, n, e1, e2, e3⟩
    · cases z
    · obtain ⟨k, h1, h2⟩ := h F doc pm ctv hd
      exact BindsTo.of_defaults (n := n) e1 e2 e3 h1 (h2 u)
end
/-! ### a closure at a state -/
structure Clo (P : Program) (w : World) (K : PySem.W.Frag) (mg : Str → Option Value) (base : Heap) (k : Nat) (f : Addr) (sp : Sp) (s : Shared) (H : Hp) : Prop where
  fn : ∃ F, FnF H f F
  run : ∀ (A : Around) (outer : List Env) (s' : Shared) (H' : Hp) (us : List Value) (vs : List V) (Q : VK) (E : XK), Room k A → Env0 P w K mg base A outer s' H' → Kp s H s' H' → Vals vs us → sp vs H' Q E → codeAny (model P w) A (.call (.ref f) ⟨us, []⟩) (CR (L2.CX P w) outer P w H' s' Q E) s'
section
variable {P : Program} {w : World} {K : PySem.W.Frag} {mg : Str → Option Value} {base : Heap} {k j : Nat} {f : Addr} {sp : Sp} {s s' : Shared} {H H' : Hp}
theorem Clo.kp (c : Clo P w K mg base k f sp s H) (p : Kp s H s' H') : Clo P w K mg base k f sp s' H' := ⟨let ⟨F, z⟩ := c.fn; ⟨F, z.st p.still⟩, fun A outer s2 H2 us vs Q E hr e0 p2 => c.run A outer s2 H2 us vs Q E hr e0 (p.tr p2)⟩
theorem Clo.imp {sp' : Sp} (c : Clo P w K mg base k f sp s H) (h : ∀ vs H Q E, sp' vs H Q E → sp vs H Q E) : Clo P w K mg base k f sp' s H := ⟨c.fn, fun A outer s2 H2 us vs Q E hr e0 p2 r q => c.run A outer s2 H2 us vs Q E hr e0 p2 r (h _ _ _ _ q)⟩
theorem Clo.mono (c : Clo P w K mg base j f sp s H) (h : j ≤ k) : Clo P w K mg base k f sp s H := ⟨c.fn, fun A outer s2 H2 us vs Q E hr => c.run A outer s2 H2 us vs Q E (hr.mono h)⟩
theorem clo_of {d : LamD} {ps fr : List Str} {ds : List V} {F : LF} {ws : List (Option V)} {spl : List (Option V) → Sp} (L : LOk P w K mg base j d ps fr ds spl) (h : j ≤ k) (hd : F.d = d) (hF : Lam H f F ds) (C : CellsAt F.cl fr ws s.heap H) : Clo P w K mg base k f (spl ws) s H :=
  ⟨⟨F, hF.fn⟩, fun A outer s2 H2 us vs Q E hr e0 p2 r q => L.run F f A outer s2 H2 us vs ws Q E hd (hr.mono h) e0 (hF.st p2.still) (cellsAt_kp C p2) r q⟩
end
end G57
end
section
set_option maxRecDepth 100000
set_option maxHeartbeats 4000000
/-! XLam3: defs whose promise tells of the state; calls of closures. -/
namespace G57
open PySem PySem.Spec PyProof.Rows L2 LamX NdefX
abbrev SpS := Shared → Sp
def FnS (P : Program) (w : World) (K : PySem.W.Frag) (mg : Str → Option Value) (base : Heap) (CX : CXT) (k : Nat) (f : Addr) (spS : SpS) : Prop :=
  ∀ (A : Around) (outer : List Env) (s : Shared) (H : Hp) (us : List Value) (vs : List V) (Q : VK) (E : XK), Room k A → Env0 P w K mg base A outer s H → Vals vs us → spS s vs H Q E → codeAny (model P w) A (.call (.ref f) ⟨us, []⟩) (CR CX outer P w H s Q E) s
structure CalS (P : Program) (w : World) (K : PySem.W.Frag) (mg : Str → Option Value) (base : Heap) (CX : CXT) (k : Nat) (x : Str) (spS : SpS) : Prop where
  ex : ∃ f : Addr, FnS P w K mg base CX k f spS ∧ mg x = some (.ref f) ∧ PySem.W.keepIn K (.ref f) = true
section
variable {P : Program} {w : World} {K : PySem.W.Frag} {mg : Str → Option Value} {base : Heap} {CX : CXT}
theorem fnS_of {x qual : Str} {pa : Arguments} {bd : List Stmt} {sc : Scope} {kws : List (Str × V)} {f : Addr} {fd : FuncData} {N ps : List Str} {k : Nat} {spS : SpS} (F : FunD K x qual pa bd sc [] kws f fd) (S : FnScope N ps sc) (b : BindA x qual pa bd sc ps)
    (len : ∀ s vs H Q E, spS s vs H Q E → vs.length = ps.length)
    (hb : ∀ (cdv : Value) (A : Around) (outer : List Env) (s : Shared) (H : Hp) (vs : List V) (Q : VK) (E : XK), Room k (A.deeper (envOfC qual sc s.heap.objs.size f cdv)) → spS s vs H Q E →
      ∃ t, PSs (cxOf CX P w K mg base N qual sc f cdv A outer s H E) bd t ∧ t { nx := fun _ H' => Q .non H', rt := Q } (start N vs) H) : FnS P w K mg base CX (k + 1) f spS := by
  obtain ⟨oc, od, kV, doc, pm, an, cdv, ct, osl, rfl, lk, hcd⟩ := fun_of F
  intro A outer s H us vs Q E hr e0 r hsp
  have hl := len _ _ _ _ _ hsp
  exact run_ofS (us := us) (vs := vs) lk hcd S hr e0 (BindsTo.of_eq (b kV doc pm an cdv ct us (by rw [← r.length]; exact hl))) r hl fun hr' => hb cdv A outer s H vs Q E hr' hsp
theorem cals_of {d : DefA} {x : Str} {N ps : List Str} {k : Nat} {spS : SpS} (F : ∃ fd, d.Fn K fd) (hp : d.path = pG x) (hd : d.dfl = []) (hm : mg x = some (.ref (He.ga K x))) (S : FnScope N ps d.scope)
    (b : BindA d.name d.qual d.params d.body d.scope ps) (len : ∀ s vs H Q E, spS s vs H Q E → vs.length = ps.length)
    (hb : ∀ (cdv : Value) (A : Around) (outer : List Env) (s : Shared) (H : Hp) (vs : List V) (Q : VK) (E : XK), Room k (A.deeper (envOfC d.qual d.scope s.heap.objs.size (He.ga K x) cdv)) → spS s vs H Q E →
      ∃ t, PSs (cxOf CX P w K mg base N d.qual d.scope (He.ga K x) cdv A outer s H E) d.body t ∧ t { nx := fun _ H' => Q .non H', rt := Q } (start N vs) H) : CalS P w K mg base CX (k + 1) x spS := by
  obtain ⟨fd, F⟩ := F
  have F' : FunD K d.name d.qual d.params d.body d.scope [] (d.kws K) (He.ga K x) fd := by
    have q : FunD K d.name d.qual d.params d.body d.scope (d.dvs K) (d.kws K) (d.path K) fd := F
    unfold DefA.dvs at q
    rw [hd, hp] at q
    exact q
  exact ⟨_, fnS_of F' S b len hb, hm, F'.kp⟩
end
/-- how the state is told where a def is called -/
def tCallS (Kn : L2.St → Shared → Hp → Prop) (spS : SpS) (E : L2.St → XK) (t : TA) : TE := fun σ H Q => t σ H fun vs H1 => ∀ s, Kn σ s H1 → spS s vs H1 Q (E σ)
section
variable {X : Cx} {CX : CXT} {k j : Nat} {x : Str} {spS : SpS} {E : L2.St → XK} {Kn : L2.St → Shared → Hp → Prop} {p pos : Pos} {e : Expr} {es : List Expr} {t : TA}
theorem pe_cS (c : CalS X.prog X.w X.K X.mg X.base CX k x spS) (hr : Room j X.A) (hk : k ≤ j) (hg : Gl X x) (hKn : ∀ pins σ H s, Inv X pins σ H s → Kn σ s H) (hx : ∀ σ, PassesAt CX X σ (E σ)) (ha : PA X (e :: es) t)
    (hdb : (x == ("__debug__" : Str)) = false := by decide) (he : starEach (e :: es) X.env = (false, eval e X.env) :: starEach es X.env := by rfl) (hpl : (backTo pos (starEach es X.env)).any (·.1) = false := by rfl) :
    PE X (.Call (.Name x p) (e :: es) [] pos) (tCallS Kn spS E t) := by
  refine ⟨fun pins s σ H Q I h => ?_⟩
  obtain ⟨f, F, hm, kp⟩ := c.ex
  refine wpAny_Call_Name_kw (ld_glob I hg hm ?_ hdb)
  refine PySem.W.callWith_K (h₀ := X.base) I.ok.mod.kin kp (thn (ha.run pos pins s σ H _ I h) fun us s1 ⟨vs, H1, I1, r, q⟩ => ⟨I1.kIn, ?_⟩) he hpl
  refine wpAny_call (codeAny_mono (F X.A X.stack s1 H1 us vs Q (E σ) (hr.mono hk) I1.env0 r (q s1 (hKn _ _ _ _ I1))) fun r s' hq => ?_)
  cases r with
  | error e => exact hx σ pins H1 s1 e s' I1 hq
  | ok fl =>
    cases fl with
    | ret u => exact I1.after hq
    | next => exact False.elim hq
    | brk => exact False.elim hq
    | cont => exact False.elim hq
/-- a closure that a name holds, called without arguments -/
def tClo0 (i : Nat) (Ck : Shared → Hp → Addr → Sp → Prop) (E : L2.St → XK) : TE := fun σ H Q => ∃ f sp, σ[i]? = some (some (.ref f)) ∧ (∀ s, Ck s H f sp) ∧ sp [] H Q (E σ)
theorem clo_at {P : Program} {w : World} {H : Hp} {h : Heap} {f : Addr} {F : LF} (hok : HOk P w H h) (e : FnF H f F) : PySem.W.FnAt f h := by
  obtain ⟨doc, pm, ctv, z⟩ := e
  exact ⟨_, _, _, _, frz_at hok z⟩
/-- .. f(): what is known of closures is told by Kn -/
theorem pe_clo0 {i : Nat} (hr : Room j X.A) (hk : k ≤ j) (hx : ∀ σ, PassesAt (L2.CX X.prog X.w) X σ (E σ)) (hKn : ∀ pins σ H s, Inv X pins σ H s → Kn σ s H) (hN : X.N[i]? = some x) (hv : Vis X.env.scope x)
    (hd : (x == ("__debug__" : Str)) = false := by decide) (hcd : (x == ("__classdict__" : Str)) = false := by decide) :
    PE X (.Call (.Name x p) [] [] pos) (fun σ H Q => ∃ f sp, σ[i]? = some (some (.ref f)) ∧ (∀ s, Kn σ s H → Clo X.prog X.w X.K X.mg X.base k f sp s H) ∧ sp [] H Q (E σ)) := by
  refine ⟨fun pins s σ H Q I h => ?_⟩
  obtain ⟨f, sp, hs, hc, q⟩ := h
  refine wpAny_Call_Name_kw (thn ((pe_var (pos := p) (i := i) hN hv hd hcd).run pins s σ H (fun v H1 => v = .ref f ∧ H1 = H) I ⟨.ref f, hs, rfl, rfl⟩) fun u s1 ⟨v, H1, I1, r1, q1⟩ => ?_)
  obtain ⟨ev, eH⟩ := q1
  subst ev
  rw [eH] at I1
  obtain rfl : u = Value.ref f := r1
  have C := hc s1 (hKn _ _ _ _ I1)
  obtain ⟨F, hF⟩ := C.fn
  refine PySem.W.callWith_F0 (first := []) (clo_at I1.hok hF) ?_
  show wpAny _ _ (call (.ref f) []) _ _ _
  refine wpAny_call (codeAny_mono (C.run X.A X.stack s1 H [] [] Q (E σ) (hr.mono hk) I1.env0 .refl .nil q) fun r s' hq => ?_)
  cases r with
  | error e => exact hx σ pins H s1 e s' I1 hq
  | ok fl =>
    cases fl with
    | ret u => exact I1.after hq
    | next => exact False.elim hq
    | brk => exact False.elim hq
    | cont => exact False.elim hq
theorem pe_clo {i : Nat} (hr : Room j X.A) (hk : k ≤ j) (hx : ∀ σ, PassesAt (L2.CX X.prog X.w) X σ (E σ)) (hKn : ∀ pins σ H s, Inv X pins σ H s → Kn σ s H) (hN : X.N[i]? = some x) (hv : Vis X.env.scope x) (ha : PA X (e :: es) t)
    (hd : (x == ("__debug__" : Str)) = false := by decide) (hcd : (x == ("__classdict__" : Str)) = false := by decide)
    (he : starEach (e :: es) X.env = (false, eval e X.env) :: starEach es X.env := by rfl) (hpl : (backTo pos (starEach es X.env)).any (·.1) = false := by rfl) :
    PE X (.Call (.Name x p) (e :: es) [] pos) (fun σ H Q => ∃ f sp, σ[i]? = some (some (.ref f)) ∧ (∀ s, Kn σ s H → Clo X.prog X.w X.K X.mg X.base k f sp s H) ∧ t σ H fun vs H1 => (∃ F, FnF H1 f F) ∧ (∀ s, Kn σ s H1 → Clo X.prog X.w X.K X.mg X.base k f sp s H1) ∧ sp vs H1 Q (E σ)) := by
  refine ⟨fun pins s σ H Q I h => ?_⟩
  obtain ⟨f, sp, hs, hc, ht⟩ := h
  refine wpAny_Call_Name_kw (thn ((pe_var (pos := p) (i := i) hN hv hd hcd).run pins s σ H (fun v H1 => v = .ref f ∧ H1 = H) I ⟨.ref f, hs, rfl, rfl⟩) fun u s1 ⟨v, H1, I1, r1, q1⟩ => ?_)
  obtain ⟨ev, eH⟩ := q1
  subst ev
  rw [eH] at I1
  obtain rfl : u = Value.ref f := r1
  obtain ⟨F, hF⟩ := (hc s1 (hKn _ _ _ _ I1)).fn
  refine PySem.W.callWith_F (first := []) (clo_at I1.hok hF) (thn (ha.run pos pins s1 σ H _ I1 ht) fun us s2 ⟨vs, H2, I2, r, ⟨F2, h1⟩, h2, q⟩ => ⟨clo_at I2.hok h1, ?_⟩) he hpl
  show wpAny _ _ (call (.ref f) us) _ _ _
  refine wpAny_call (codeAny_mono ((h2 s2 (hKn _ _ _ _ I2)).run X.A X.stack s2 H2 us vs Q (E σ) (hr.mono hk) I2.env0 .refl r q) fun r s' hq => ?_)
  cases r with
  | error e => exact hx σ pins H2 s2 e s' I2 hq
  | ok fl =>
    cases fl with
    | ret u => exact I2.after hq
    | next => exact False.elim hq
    | brk => exact False.elim hq
    | cont => exact False.elim hq
/-- in the frame of a def entered at s_0: what is known there is known on -/
theorem kp_of {pins : List (Addr × Obj)} {σ : L2.St} {H : Hp} {s : Shared} (hex : X.ex = []) (I : Inv X pins σ H s) : Kp X.s_0 X.H_0 s H := Kp.un I.base fun b v _ _ => by
  rw [hex]
  simp
end
end G57
end
section
set_option maxRecDepth 100000
set_option maxHeartbeats 4000000
/-! XLam4: a comprehension whose block is told what the def's frame knows; the head's facts with tables; the end. -/
namespace G57
open PySem PySem.Spec PyProof.Rows L2 LamX NdefX
section
variable {X : Cx} {elt tg iter : Expr} {ifs : List Expr} {scope : Scope} {own : List (Str × Nat)} {pos pos' : Pos} {wi : TI} {g : TG} {tt : TT} {te : TE}
/-- the three parts of a block, where the def's frame stands at its start -/
def BlkK (X : Cx) (scope : Scope) (tg : Expr) (ifs : List Expr) (elt : Expr) (g : TG) (tt : TT) (te : TE) (σ : L2.St) : Prop :=
  ∀ (pl : List (Addr × Obj)) (s0 : Shared) (H0 : Hp) (C : Addr) (cl : List (Str × Addr)) (fp : List Addr), Inv X pl σ H0 s0 → (∀ b ∈ fp, ∃ o, s0.heap.get? b = some o ∧ ∀ v, o.data ≠ .cell v) →
    PG (X.blk s0 H0 scope (compEnvC scope cl C X.env) fp) tg g ∧ PTs (X.blk s0 H0 scope (compEnvC scope cl C X.env) fp) ifs tt ∧ PE (X.blk s0 H0 scope (compEnvC scope cl C X.env) fp) elt te
theorem lcK {pins : List (Addr × Obj)} {s : Shared} {σ : L2.St} {H : Hp} {Q : VK} {use : Option (Value → Sem Unit)} {Qf : Value → Shared → Prop} (calm : X.calm = true) (nd : X.N.Nodup) (I : Inv X pins σ H s) (walk : PI X tg iter wi) (ok : BlkOk X.N X.env.scope scope own)
    (blk : BlkK X scope tg ifs elt g tt te σ) (fold : ∀ x, foldedSetIterable iter X.env x = pure x) (rd : tLc wi g tt te (own.map (·.2)) σ H Q)
    (out : ∀ D C s' m H', Inv X pins σ H' s' → Q (.ref D) H' → s'.heap.Ns C m → FpOk X pins H' C → compPost (model X.prog X.w) X.A X.xe use Qf (.ref D) C (.ok .next) s') :
    wpAny (model X.prog X.w) X.A (comprehension (.ListComp elt [⟨tg, iter, ifs, 0⟩] scope pos) scope X.env pos' (newList []) false (eval iter X.env) use) Qf X.xe s := by
  have caught : ∀ y ∈ scope.names, y.2 = .free → ∃ c, X.env.cells.lookup y.1 = some c := fun y hy e => (ok.free y hy e).elim (fun z => I.ok.has _ (.inl z)) fun z => I.ok.has _ (.inr z)
  refine wpAny_comprehension_free (use := use) rfl fold (closure_ok caught) ok.kind (fun y hy e => (ok.uniq y hy).trans (congrArg some e)) (thn (walk.run pins s σ H _ I rd) fun xv s1 hx => thn hx fun itv s2 hw => ?_)
  obtain ⟨it, fp, tn, J, H2, rfl, I2, T, at0, fp0, turns⟩ := hw
  refine wpAny_newObj_type (newEnv_comp ?_) (by show 0 ≤ sizeLine; decide)
  -- the list that is made
  obtain ⟨D, hD⟩ : ∃ D, D = s2.heap.objs.size := ⟨_, rfl⟩
  rw [← hD]
  have newD : H2 D = none := I2.hok.fresh (by rw [hD]; exact Nat.le_refl _)
  obtain ⟨W, ⟨m0, start⟩, turn⟩ := turns D newD
  obtain ⟨sA, hA⟩ : ∃ sA : Shared, sA = { s2 with heap := s2.heap.push { cls := .type "list", data := .seq ([] : List Value).toArray } } := ⟨_, rfl⟩
  have hpA : sA.heap = s2.heap.push { cls := .type "list", data := .seq ([] : List Value).toArray } := congrArg Shared.heap hA
  have keepA : ∀ b o, s2.heap.get? b = some o → sA.heap.get? b = some o := fun b o e => by
    rw [hpA]
    exact Heap.get?_push_of_some _ e
  obtain ⟨HA, hHA⟩ : ∃ HA : Hp, HA = upd H2 D (.lst []) := ⟨_, rfl⟩
  rw [← hHA] at start
  have IA : Inv X pins σ HA sA := by
    subst hHA hA
    exact I2.laid (t' := s2.toks) keepA (by rw [hD]; exact Nat.le_refl _) ⟨Nat.zero_le _, [], 0, .nil, by rw [hD]; exact Heap.get?_push_size _ rfl⟩
  have old : ∀ b ∈ fp, b < s2.heap.objs.size := fun b hb => let ⟨o, e, _⟩ := T.obj _ _ at0 b hb; Heap.lt_size e
  have fpA : ∀ b ∈ fp, FpOk X pins HA b ∧ b < sA.heap.objs.size := fun b hb => by
    have lt := old b hb
    have z := fp0 b hb
    refine ⟨⟨by rw [hHA, upd_ne (by rw [hD]; exact Nat.ne_of_lt lt)]; exact z.1, z.2⟩, ?_⟩
    rw [hpA, Heap.size_push]
    exact Nat.lt_succ_of_lt lt
  have atA : tn 0 sA.heap := T.keep _ _ _ at0 fun b _ o e => keepA b o e
  have IB := block_start IA ok nd fpA
  obtain ⟨pg, pt, pe⟩ := blk pins sA HA sA.heap.objs.size (cellsFrom (sA.heap.objs.size + 1) scope.names (cloFrom X.env.cells scope.names [])) fp IA (T.obj 0 _ atA)
  rw [← hA]
  show codeAny _ _ (.compStart (.ListComp elt [⟨tg, iter, ifs, 0⟩] scope pos) 0 (.ref it) (.ref D) (compEnvC scope (cellsFrom (sA.heap.objs.size + 1) scope.names (cloFrom X.env.cells scope.names [])) sA.heap.objs.size X.env)) (compPost (model X.prog X.w) X.A X.xe use Qf (.ref D) sA.heap.objs.size) { sA with heap := pushCells (sA.heap.push { cls := .type "dict", data := .dict #[] }) scope.names }
  have untr : ∀ b ∈ fp, HA b = none := fun b hb => (fpA b hb).1.1
  obtain ⟨ce, hce⟩ : ∃ ce : Env, ce = compEnvC scope (cellsFrom (sA.heap.objs.size + 1) scope.names (cloFrom X.env.cells scope.names [])) sA.heap.objs.size X.env := ⟨_, rfl⟩
  have ceL : ce.locals = sA.heap.objs.size := by rw [hce] <;> rfl
  rw [← hce] at IB pg pt pe ⊢
  obtain ⟨sB, hB⟩ : ∃ sB : Shared, sB = { sA with heap := pushCells (sA.heap.push { cls := .type "dict", data := .dict #[] }) scope.names } := ⟨_, rfl⟩
  rw [← hB] at IB ⊢
  have atB : tn 0 sB.heap := T.keep _ _ _ atA fun b _ o e => by
    rw [hB]
    exact pushCells_keeps _ _ _ _ (Heap.get?_push_of_some _ e)
  have own_fp : ∀ {σ' : L2.St} {H' : Hp} {s' : Shared}, Inv (X.blk sA HA scope ce fp) [] σ' H' s' → (∀ b ∈ fp, H' b = none) → ∀ b ∈ fp, FpOk (X.blk sA HA scope ce fp) [] H' b := fun J' n b hb =>
    ⟨n b hb, (J'.ok.exf b hb).1, J'.ok.exfs b hb, .inl hb, fun x c e => (J'.ok.exf b hb).2 x c e, fun p hp => (nomatch (show p ∈ ([] : List (Addr × Obj)) from hp))⟩
  have back : ∀ {σ' : L2.St} {H' : Hp} {s' : Shared}, Inv (X.blk sA HA scope ce fp) [] σ' H' s' → Inv X pins σ H' s' := fun J' => IA.call' (ch := fp) J'.os J'.base J'.hok J'.bare fun b hb => ⟨(fpA b hb).1.2.2.2.1, (fpA b hb).1.2.1, (fpA b hb).1.2.2.2.2.1, (fpA b hb).1.2.2.2.2.2⟩
  let G : Nat → Shared → Prop := fun n s' => ∃ i H', Inv (X.blk sA HA scope ce fp) [] (wipe σ (own.map (·.2))) H' s' ∧ tn i s'.heap ∧ (∀ b ∈ fp, H' b = none) ∧ W i n H'
  have loop : codeAny (model X.prog X.w) X.A (.compLoop (.ListComp elt [⟨tg, iter, ifs, 0⟩] scope pos) 0 (.ref it) (.ref D) ce) (compPost (model X.prog X.w) X.A X.xe use Qf (.ref D) sA.heap.objs.size) sB := by
    refine compLoop_any G (fun n sC hG => ?_) m0 ⟨0, HA, IB, atB, untr, start⟩
    obtain ⟨i, HC, IC, atC, unC, wC⟩ := hG
    rcases turn i n HC wC with ⟨stop, qq⟩ | ⟨go, Nx, nxt, step⟩
    · refine thnF (T.done (X.blk sA HA scope ce fp) rfl rfl rfl calm i [] sC _ HC (fun _ _ => False) IC (own_fp IC unC) atC stop) fun r sD ⟨hr, ID⟩ => ?_
      subst hr
      have nC : HC sA.heap.objs.size = none := ceL ▸ ID.free
      obtain ⟨m, hn, _⟩ := ID.loc
      exact out D sA.heap.objs.size sD m HC (back ID) qq (ceL ▸ hn) (IA.fpOk (Nat.le_refl _) nC)
    · refine thnF (T.item (X.blk sA HA scope ce fp) rfl rfl rfl calm i [] sC _ HC (fun _ _ => False) IC (own_fp IC unC) atC go) fun r sD ⟨u, hr, more⟩ => ?_
      subst hr
      refine thnF more fun _ sE ⟨x, HE, IE, rx, yl, atE, unE⟩ => ?_
      have IE' := IE.pinned (own_fp IE unE) (T.obj _ _ atE)
      refine thnF (pg.run _ sE _ HE x u _ IE' rx (step x HE yl)) fun _ sF ⟨σF, HF, IF, wip, qF⟩ => ?_
      refine thnF (pt.run _ sF σF HF _ IF qF) fun b sK ⟨HK, IK, qK⟩ => ?_
      have closes : ∀ {s' : Shared} {H' : Hp}, Inv (X.blk sA HA scope ce fp) ([] ++ pinsAt fp sE.heap) σF H' s' → Nx H' → ∃ m, m < n ∧ G m s' := fun {s' H'} J' nx => by
        obtain ⟨m', lt, w'⟩ := nxt H' nx
        have pinned : ∀ b ∈ fp, ∀ o, sE.heap.get? b = some o → s'.heap.get? b = some o ∧ H' b = none := fun b hb o e => by
          have z := J'.pin (b, o) (List.mem_append_right _ (List.mem_append_right _ (mem_pinsAt hb e)))
          exact ⟨z.1, z.2.1⟩
        refine ⟨m', lt, i + 1, H', (J'.unpinned (pins := [])).weak (by rw [← wip, wipe_length]) (fun j v e => ?_), T.keep _ _ _ atE fun b hb o e => (pinned b hb o e).1, fun b hb => ?_, w'⟩
        · rw [← wip] at e
          exact (wipe_some e).1
        · obtain ⟨o, e, _⟩ := T.obj _ _ atE b hb
          exact (pinned b hb o e).2
      cases b with
      | false =>
        simp only [Bool.false_eq_true, if_false] at qK ⊢
        exact closes IK qK
      | true =>
        simp only [if_true] at qK ⊢
        exact thnF (pe.run _ sK σF HK _ IK qK) fun z sL ⟨yv, HL, IL, rz, acc, aD, az, nx⟩ => app_ok (X := X.blk sA HA scope ce fp) IL aD az rz fun sM IM => closes IM nx
  exact codeAny_compStart_list loop (T.self X.A 0 _ _ _ atB loop)
/-- as a value; what the block reads may lean on the def's slots at its start -/
theorem pe_lcK {tt : L2.St → TT} {te : L2.St → TE} (calm : X.calm = true) (nd : X.N.Nodup) (walk : PI X tg iter wi) (ok : BlkOk X.N X.env.scope scope own) (blk : ∀ σ, BlkK X scope tg ifs elt g (tt σ) (te σ) σ) (fold : ∀ x, foldedSetIterable iter X.env x = pure x := by intro _; rfl) :
    PE X (.ListComp elt [⟨tg, iter, ifs, 0⟩] scope pos) (fun σ H Q => tLc wi g (tt σ) (te σ) (own.map (·.2)) σ H Q) := by
  refine ⟨fun pins s σ H Q I h => ?_⟩
  rw [eval_ListComp]
  refine lcK calm nd I walk ok (blk σ) fold h fun D C s' m H' I' q hn f => ⟨m, hn, fun h'' sb => ⟨.ref D, H', ?_, rfl, q⟩⟩
  exact I'.turned (t' := s'.toks) (fun b o hb e => (sb.2 b hb).trans e) f.1 f.2.1 f.2.2.2.1 f.2.2.2.2.1 f.2.2.2.2.2
end
/-- what was known at the block's start is known in it -/
theorem kp_blk {X : Cx} {s0 : Shared} {H0 : Hp} {scope : Scope} {ce : Env} {fp : List Addr} {pins : List (Addr × Obj)} {σ : L2.St} {H : Hp} {s : Shared} (hf : ∀ b ∈ fp, ∃ o, s0.heap.get? b = some o ∧ ∀ v, o.data ≠ .cell v) (I : Inv (X.blk s0 H0 scope ce fp) pins σ H s) : Kp s0 H0 s H :=
  Kp.un I.base fun b v ⟨o, ho, hd⟩ _ hb => by
    obtain ⟨o2, e, n⟩ := hf b hb
    rw [ho] at e
    cases e
    exact n v hd
/-! ### the place of a lambda in a text -/
def kS : Stmt → List Stmt
  | .For _ _ b o _ => b ++ o
  | .While _ b o _ => b ++ o
  | .If _ b o _ => b ++ o
  | .Try b _ o f _ => b ++ o ++ f
  | .With _ b _ => b
  | _ => []
def kE : Stmt → List Expr
  | .Return (some e) _ => [e]
  | .Assign _ e _ => [e]
  | .AugAssign _ _ e _ => [e]
  | .For _ i _ _ _ => [i]
  | .While t _ _ _ => [t]
  | .If t _ _ _ => [t]
  | .Expr e _ => [e]
  | _ => []
def eE : Expr → List Expr
  | .BoolOp _ vs _ => vs
  | .BinOp a _ b _ => [a, b]
  | .UnaryOp _ e _ => [e]
  | .Lambda _ b _ _ => [b]
  | .IfExp t a b _ => [t, a, b]
  | .Compare a _ bs _ => a :: bs
  | .Call f es _ _ => f :: es
  | .List es _ => es
  | .Tuple es _ _ => es
  | .Attribute e _ _ => [e]
  | .Subscript a b _ => [a, b]
  | _ => []
def noS : Stmt := .Pass ⟨0, 0, 0, 0⟩
def noE : Expr := .Name "?" ⟨0, 0, 0, 0⟩
def stP : List Stmt → List Nat → Stmt
  | _, [] => noS
  | l, [i] => l.getD i noS
  | l, i :: r => stP (kS (l.getD i noS)) r
def exP : Expr → List Nat → Expr
  | e, [] => e
  | e, i :: r => exP ((eE e).getD i noE) r
def lamE : Expr → LamD
  | .Lambda a b s p => ⟨a, b, s, p⟩
  | e => ⟨⟨[], [], none, [], [], none, []⟩, e, defScope noS, ⟨0, 0, 0, 0⟩⟩
/-- the lambda at the places r in the first expression of the statement at the places q -/
def lamAt (bd : List Stmt) (q r : List Nat) : LamD := lamE (exP ((kE (stP bd q)).getD 0 noE) r)
theorem lm_free {N : List Str} {sc lsc : Scope} {fr : List Str} {js : List Nat} (h : capB N sc lsc fr js = true) : ∀ y ∈ lsc.names, y.2 = .free → sc.names.lookup y.1 = some .cell ∨ sc.names.lookup y.1 = some .free := by
  unfold capB at h
  simp only [Bool.and_eq_true, Bool.or_eq_true, Bool.not_eq_true', decide_eq_true_eq, decide_eq_false_iff_not, List.all_eq_true] at h
  intro y hy e
  rcases h.1.1 y hy with (z | z) | z
  · exact absurd e z
  · exact .inl z
  · exact .inr z
theorem tl_uniq {l : List (Addr × Str)} (nd : (l.map fun z => z.1).Nodup) {p q : Addr × Str} (hp : p ∈ l) (hq : q ∈ l) (e : p.1 = q.1) : p = q := by
  induction l with
  | nil => cases hp
  | cons x l ih =>
    rw [List.map_cons] at nd
    obtain ⟨n1, n2⟩ := List.nodup_cons.mp nd
    rcases List.mem_cons.mp hp with h1 | h1
    · rcases List.mem_cons.mp hq with h2 | h2
      · rw [h1, h2]
      · subst h1
        exact absurd (by rw [e]; exact List.mem_map.mpr ⟨q, h2, rfl⟩) n1
    · rcases List.mem_cons.mp hq with h2 | h2
      · subst h2
        exact absurd (by rw [← e]; exact List.mem_map.mpr ⟨p, h1, rfl⟩) n1
      · exact ih n2 h1 h2
/-! ### a def whose code object is known -/
section
variable {P : Program} {w : World} {K : PySem.W.Frag} {mg : Str → Option Value} {base : Heap}
theorem cd_of {x : Str} {d : DefA} {fd : FuncData} (F : d.Fn K fd) (hp : d.path K = He.fAd K (x, none)) {oc : Value} {od : Option Addr} {dV kV doc pm cdv ct : Value} {an : Option Addr} {osl : Array (Option Value)} (e : fd = PySem.W.fnOf d.name d.qual d.params d.body d.scope dV kV doc pm an cdv ct)
    (lk : K.lookup (d.path K) = some ⟨oc, od, .func fd, osl⟩) (hc : PySem.W.codeIn K cdv d.qual = true) : cdv = .ref (He.codeOf K (x, none)) := by
  obtain ⟨c, hc2⟩ := He.codeIn_ref hc
  have z := He.codeOf_eq (K := K) (p := (x, none)) (fd := fd) (c := c) (by rw [← hp]; exact lk) (by rw [e]; exact hc2)
  rw [z, hc2]
/-- what a body must show that knows its code object, nothing let out -/
abbrev BodyC (P : Program) (w : World) (K : PySem.W.Frag) (mg : Str → Option Value) (base : Heap) (N : List Str) (x : Str) (d : DefA) (k : Nat) (sp : Sp) : Prop :=
  ∀ (A : Around) (outer : List Env) (s : Shared) (H : Hp) (vs : List V) (Q : VK) (E : XK), Room k (A.deeper (envOfC d.qual d.scope s.heap.objs.size (He.ga K x) (.ref (He.codeOf K (x, none))))) → sp vs H Q E →
    ∃ t, PSs (cxOf CX0 P w K mg base N d.qual d.scope (He.ga K x) (.ref (He.codeOf K (x, none))) A outer s H E).nox d.body t ∧ t { nx := fun _ H' => Q .non H', rt := Q } (start N vs) H
theorem fnC_of {d : DefA} {x : Str} {N ps : List Str} {k : Nat} {sp : Sp} {fd : FuncData} (F : FunD K d.name d.qual d.params d.body d.scope [] (d.kws K) (He.ga K x) fd) (S : FnScope N ps d.scope) (len : ∀ vs H Q E, sp vs H Q E → vs.length = ps.length) (hb : BodyC P w K mg base N x d k sp) :
    FnOk P w K mg base CX0 (k + 1) (He.ga K x) fd ps sp := by
  obtain ⟨oc, od, kV, doc, pm, an, cdv, ct, osl, e, lk, hcd⟩ := fun_of F
  obtain ⟨c, hc2⟩ := He.codeIn_ref hcd
  have z := He.codeOf_eq (K := K) (p := (x, none)) (fd := fd) (c := c) lk (by rw [e]; exact hc2)
  subst e
  have ec : cdv = .ref (He.codeOf K (x, none)) := by rw [z, hc2]
  subst ec
  refine fn_of lk hcd S len fun A outer s H vs Q E hr hsp => ?_
  obtain ⟨t, h, q⟩ := hb A outer s H vs Q E hr hsp
  exact ⟨t, h.nox, q⟩
theorem calC_of {d : DefA} {x : Str} {N ps : List Str} {k : Nat} {sp : Sp} (F : ∃ fd, d.Fn K fd) (hp : d.path = pG x) (hd : d.dfl = []) (hm : mg x = some (.ref (He.ga K x))) (S : FnScope N ps d.scope)
    (b : BindA d.name d.qual d.params d.body d.scope ps) (len : ∀ vs H Q E, sp vs H Q E → vs.length = ps.length) (hb : BodyC P w K mg base N x d k sp) : C8.Cal P w K mg base (k + 1) x sp [] := by
  obtain ⟨fd, F⟩ := F
  have F' : FunD K d.name d.qual d.params d.body d.scope [] (d.kws K) (He.ga K x) fd := by
    have q : FunD K d.name d.qual d.params d.body d.scope (d.dvs K) (d.kws K) (d.path K) fd := F
    unfold DefA.dvs at q
    rw [hd, hp] at q
    exact q
  have Fk := fnC_of (P := P) (w := w) (mg := mg) (base := base) F' S len hb
  obtain ⟨oc, od, kV, doc, pm, an, cdv, ct, osl, rfl, lk, hcd⟩ := fun_of F'
  exact ⟨_, _, ps, [], Fk, hm, F'.kp, .all (b kV doc pm an cdv ct), .nil⟩
end
/-! ### the head's facts with empty tables -/
def obsT (n : Nat) (ex : List Ex) (fn : List DefA) (tf : List He.Defn) (g : Addr → Option Obj) : AlA :=
  ((obsA ex fn (He.frT g (asA g n))).1 && He.tabsB g tf (He.frT g (asA g n)), (obsA ex fn (He.frT g (asA g n))).2)
structure SaysTb (ex : List Ex) (fn : List DefA) (tf : List He.Defn) (h : Heap) (K : PySem.W.Frag) : Prop where
  a : SaysA ex fn K
  hd : ∀ p ∈ tf, PySem.W.codeHdIn K (He.cT K p).1 (He.cT K p).2 = true
  out : ∀ p ∈ tf, K.lookup (He.cT K p).2 = none
  empty : ∀ p ∈ tf, h.get? (He.cT K p).2 = some { cls := .none, data := .fields #[] }
theorem saysTb_of {n : Nat} {ex : List Ex} {fn : List DefA} {tf : List He.Defn} {h : Heap} (e : obsT n ex fn tf h.get? = valA fn) : SaysTb ex fn tf h (He.frT h.get? (asA h.get? n)) := by
  obtain ⟨KK, hK⟩ : ∃ KK, KK = He.frT h.get? (asA h.get? n) := ⟨_, rfl⟩
  have e1 := congrArg (fun z : AlA => z.1) e
  have e2 := congrArg (fun z : AlA => z.2) e
  unfold obsT at e1 e2
  rw [← hK] at e1 e2 ⊢
  obtain ⟨a1, a2⟩ := He.ba (show ((obsA ex fn KK).1 && He.tabsB h.get? tf KK) = true from e1)
  have each : ∀ p ∈ tf, PySem.W.codeHdIn KK (He.cT KK p).1 (He.cT KK p).2 = true ∧ ∃ o, h.get? (He.cT KK p).2 = some o ∧ He.emptyTab o = true := fun p hp => by
    obtain ⟨b1, b2⟩ := He.ba (List.all_eq_true.mp a2 p hp)
    refine ⟨b1, ?_⟩
    cases q : h.get? (He.cT KK p).2 with
    | none =>
      rw [q] at b2
      cases b2
    | some o =>
      rw [q] at b2
      exact ⟨o, rfl, b2⟩
  refine ⟨Prod.ext a1 e2, fun p hp => (each p hp).1, fun p hp => ?_, fun p hp => ?_⟩
  · obtain ⟨_, o, q, z⟩ := each p hp
    have r := He.frT_none (as := asA h.get? n) q z
    rw [← hK] at r
    exact r
  · obtain ⟨_, o, q, z⟩ := each p hp
    rw [q, He.emptyTab_eq z]
def hookT (n : Nat) (ex : List Ex) (fn : List DefA) (tf : List He.Defn) : PySem.W.Hook where
  α := AlA
  obs := fun s => obsT n ex fn tf s.heap.get?
  val := fun _ => valA fn
  says := fun _ h => ∃ K : PySem.W.Frag, K.In h ∧ SaysTb ex fn tf h K
  of := fun _ _ e => ⟨_, He.frT_in, saysTb_of e⟩
  keeps := fun _ _ _ z k => let ⟨K, hK, c⟩ := z; ⟨K, PySem.W.Frag.In.keeps hK k, c.a, c.hd, c.out, fun p hp => k _ _ (c.empty p hp)⟩
theorem obsT_eq {n : Nat} {ex : List Ex} {fn : List DefA} {tf : List He.Defn} {g : Addr → Option Obj} {s : Shared} (h : ∀ a, g a = s.heap.get? a) : obsT n ex fn tf g = (hookT n ex fn tf).obs s := by
  have e : g = s.heap.get? := funext h
  rw [e]
  rfl
/-! ### the end -/
theorem walk_ofT {l : PySem.W.OpenLaw} {n k : Nat} {q : Program} {loose : List Str} {XP : (Str → Option Value) → Heap → Prop} {YP : World → Heap → Prop} {d : DefRec} {x : Str}
    (hn : l.most = some n) (hn2 : n ≤ sizeLine) (hdf : d.params.defaults = []) (hr : Room k callerA)
    (F : ∀ (w : World) (mg : Str → Option Value) (fa : Addr) (h : Heap), YP w h → h.Ns mainGlobals mg → mg d.name = some (.ref fa) →
      ∃ (K : PySem.W.Frag) (fd : FuncData) (cs : List (Addr × Addr)) (sp : Sp), K.In h ∧ (∀ p ∈ cs, h.get? p.2 = some { cls := .none, data := .fields #[] }) ∧ (∀ p ∈ cs, K.lookup p.2 = none) ∧ (∀ p ∈ cs, PySem.W.CodeHd h p.1 p.2) ∧ (∀ (s : Shared) (u : Value), BindsTo s fd ⟨[u], []⟩ [(x, u)]) ∧
        (∀ (H : Hp) (a : Addr) (ns : List Int), ns.length ≤ n → (∀ p ∈ cs, H p.2 = some (.tbl #[])) → SqL K H a (ns.map V.int) → sp [.ref a] H (fun v _ => v = .bl true) fun _ _ _ => False) ∧
        ∀ base : Heap, K.In base → base.Ns mainGlobals mg → (∀ p ∈ cs, TabB base mg p.1 p.2) → FnOk l.prog w K mg base CX0 k fa fd [x] sp) :
    PySem.W.WalkO q loose XP YP l.row.toRowW d [] (fun f vs => PySem.call f vs) := by
  refine Att.attach_call hn hdf fun w s0 s1 mg mb fa o pm cd doc a vs ns G Y ho hd hcd hmg hobj hints hlen hg => ?_
  obtain ⟨K, fd, cs, sp, KX, hT, nT, C, hb, hsp, hF⟩ := F w mg fa _ Y G.T.g hmg
  exact law_callTs KX G.T.g G.T.b G.T.builtins G.T.nolimit hg hT nT C G.T.bmain hobj hints (Nat.le_trans hlen hn2) hr hF hb (fun H hH hS => hsp H a ns hlen hH hS) fun H e s' z => z
end G57
end
section
set_option maxRecDepth 100000
set_option maxHeartbeats 4000000
/-! XExc: defs and methods that may raise. -/
namespace G57
open PySem PySem.Spec PyProof.Rows L2
section
variable {P : Program} {w : World} {K : PySem.W.Frag} {mg : Str → Option Value} {base : Heap}
/-- what a body must show that may raise -/
abbrev BodyX (P : Program) (w : World) (K : PySem.W.Frag) (mg : Str → Option Value) (base : Heap) (N : List Str) (d : DefA) (f : Addr) (k : Nat) (sp : Sp) : Prop :=
  ∀ (cdv : Value) (A : Around) (outer : List Env) (s : Shared) (H : Hp) (vs : List V) (Q : VK) (E : XK), Room k (A.deeper (envOfC d.qual d.scope s.heap.objs.size f cdv)) → sp vs H Q E →
    ∃ t, PSs (cxOf (L2.CX P w) P w K mg base N d.qual d.scope f cdv A outer s H E) d.body t ∧ t { nx := fun _ H' => Q .non H', rt := Q } (start N vs) H
structure CalX (P : Program) (w : World) (K : PySem.W.Frag) (mg : Str → Option Value) (base : Heap) (k : Nat) (x : Str) (sp : Sp) : Prop where
  ex : ∃ (f : Addr) (fd : FuncData) (ps : List Str), FnOk P w K mg base (L2.CX P w) k f fd ps sp ∧ mg x = some (.ref f) ∧ PySem.W.keepIn K (.ref f) = true ∧ Binds K fd ps []
structure MetX (P : Program) (w : World) (K : PySem.W.Frag) (mg : Str → Option Value) (base : Heap) (k : Nat) (C : Addr) (m : Str) (sp : Sp) : Prop where
  ex : ∃ (f : Addr) (fd : FuncData) (ps : List Str), Cls K C ∧ Meth K C m f ∧ FnOk P w K mg base (L2.CX P w) k f fd ps sp ∧ Binds K fd ps []
structure MakX (P : Program) (w : World) (K : PySem.W.Frag) (mg : Str → Option Value) (base : Heap) (k : Nat) (x : Str) (C : Addr) (sp : Sp) : Prop where
  ex : ∃ (f : Addr) (fd : FuncData) (ps : List Str), Mk K C f ∧ FnOk P w K mg base (L2.CX P w) k f fd ps sp ∧ mg x = some (.ref C) ∧ Binds K fd ps []
theorem fnx_of {d : DefA} {f : Addr} {fd : FuncData} {N ps : List Str} {k : Nat} {sp : Sp} (F : FunD K d.name d.qual d.params d.body d.scope [] (d.kws K) f fd) (S : FnScope N ps d.scope) (len : ∀ vs H Q E, sp vs H Q E → vs.length = ps.length) (hb : BodyX P w K mg base N d f k sp) :
    FnOk P w K mg base (L2.CX P w) (k + 1) f fd ps sp := by
  obtain ⟨oc, od, kV, doc, pm, an, cdv, ct, osl, rfl, lk, hcd⟩ := fun_of F
  exact fn_of lk hcd S len fun A outer s H vs Q E hr hsp => hb cdv A outer s H vs Q E hr hsp
theorem fd_at {d : DefA} {p : PySem.W.Frag → Addr} (F : ∃ fd, d.Fn K fd) (hp : d.path = p) (hd : d.dfl = []) : ∃ fd, FunD K d.name d.qual d.params d.body d.scope [] (d.kws K) (p K) fd := by
  obtain ⟨fd, F⟩ := F
  refine ⟨fd, ?_⟩
  have q : FunD K d.name d.qual d.params d.body d.scope (d.dvs K) (d.kws K) (d.path K) fd := F
  unfold DefA.dvs at q
  rw [hd, hp] at q
  exact q
theorem binds_of {d : DefA} {f : Addr} {fd : FuncData} {ps : List Str} (F : FunD K d.name d.qual d.params d.body d.scope [] (d.kws K) f fd) (b : BindA d.name d.qual d.params d.body d.scope ps) : Binds K fd ps [] := by
  obtain ⟨oc, od, kV, doc, pm, an, cdv, ct, osl, rfl, lk, hcd⟩ := fun_of F
  exact .all (b kV doc pm an cdv ct)
theorem calX_of {d : DefA} {x : Str} {N ps : List Str} {k : Nat} {sp : Sp} (F : ∃ fd, d.Fn K fd) (hp : d.path = pG x) (hd : d.dfl = []) (hm : mg x = some (.ref (He.ga K x))) (S : FnScope N ps d.scope)
    (b : BindA d.name d.qual d.params d.body d.scope ps) (len : ∀ vs H Q E, sp vs H Q E → vs.length = ps.length) (hb : BodyX P w K mg base N d (He.ga K x) k sp) : CalX P w K mg base (k + 1) x sp := by
  obtain ⟨fd, F⟩ := fd_at F hp hd
  exact ⟨_, fd, ps, fnx_of F S len hb, hm, F.kp, binds_of F b⟩
theorem metX_of {d : DefA} {C m : Str} {N ps : List Str} {k : Nat} {sp : Sp} (F : ∃ fd, d.Fn K fd) (hp : d.path = pM C m) (hd : d.dfl = []) (hc : Cls K (He.ga K C)) (hm : Meth K (He.ga K C) m (He.ma K (He.ga K C) m)) (S : FnScope N ps d.scope)
    (b : BindA d.name d.qual d.params d.body d.scope ps) (len : ∀ vs H Q E, sp vs H Q E → vs.length = ps.length) (hb : BodyX P w K mg base N d (He.ma K (He.ga K C) m) k sp) : MetX P w K mg base (k + 1) (He.ga K C) m sp := by
  obtain ⟨fd, F⟩ := fd_at F hp hd
  exact ⟨_, fd, ps, hc, hm, fnx_of F S len hb, binds_of F b⟩
theorem makX_of {d : DefA} {C : Str} {N ps : List Str} {k : Nat} {sp : Sp} (F : ∃ fd, d.Fn K fd) (hp : d.path = pM C "__init__") (hd : d.dfl = []) (hm : mg C = some (.ref (He.ga K C))) (M : Mk K (He.ga K C) (He.ma K (He.ga K C) "__init__")) (S : FnScope N ps d.scope)
    (b : BindA d.name d.qual d.params d.body d.scope ps) (len : ∀ vs H Q E, sp vs H Q E → vs.length = ps.length) (hb : BodyX P w K mg base N d (He.ma K (He.ga K C) "__init__") k sp) : MakX P w K mg base (k + 1) C (He.ga K C) sp := by
  obtain ⟨fd, F⟩ := fd_at F hp hd
  exact ⟨_, fd, ps, M, fnx_of F S len hb, hm, binds_of F b⟩
end
section
variable {X : Cx} {k j : Nat} {C : Addr} {x m : Str} {sp : Sp} {p pos apos : Pos} {e o : Expr} {es : List Expr} {ta : TE} {t : TA} {E : XK}
theorem pe_cX (c : CalX X.prog X.w X.K X.mg X.base k x sp) (hr : Room j X.A) (hk : k ≤ j) (hg : Gl X x) (hx : Passes (L2.CX X.prog X.w) X E) (ha : PA X (e :: es) t)
    (hdb : (x == ("__debug__" : Str)) = false := by decide) (he : starEach (e :: es) X.env = (false, eval e X.env) :: starEach es X.env := by rfl) (hpl : (backTo pos (starEach es X.env)).any (·.1) = false := by rfl) :
    PE X (.Call (.Name x p) (e :: es) [] pos) (tCall sp [] E t) := by
  obtain ⟨f, fd, ps, F, hm, kp, b⟩ := c.ex
  exact pe_call F (hr.mono hk) hg hm kp b .nil hx ha hdb he hpl
theorem pe_kX (c : MakX X.prog X.w X.K X.mg X.base k x C sp) (hr : Room j X.A) (hk : k + 1 ≤ j) (hg : Gl X x) (hx : Passes (L2.CX X.prog X.w) X E) (ha : PA X (e :: es) t)
    (hdb : (x == ("__debug__" : Str)) = false := by decide) (he : starEach (e :: es) X.env = (false, eval e X.env) :: starEach es X.env := by rfl) (hpl : (backTo pos (starEach es X.env)).any (·.1) = false := by rfl) :
    PE X (.Call (.Name x p) (e :: es) [] pos) (tMake C sp [] E t) := by
  obtain ⟨f, fd, ps, M, F, hm, b⟩ := c.ex
  exact pe_make M F (hr.mono hk) hg hm b .nil hx ha hdb he hpl
theorem pe_mX {pl : Sem Bool} (c : MetX X.prog X.w X.K X.mg X.base k C m sp) (hr : Room j X.A) (hk : k ≤ j) (hx : Passes (L2.CX X.prog X.w) X E) (he : PE X o ta) (ha : PA X (e :: es) t)
    (hst : starEach (e :: es) X.env = (false, eval e X.env) :: starEach es X.env := by rfl) (hpl : (backTo pos (starEach es X.env)).any (·.1) = false := by rfl)
    (ht : eval (.Call (.Attribute o m apos) (e :: es) [] pos) X.env = (do
      let ov ← eval o X.env
      standAt apos.atName
      let (f, first) ← holding [ov] (getMethod ov m pl)
      callWith pos f first (backTo pos (starEach (e :: es) X.env)) (backToKw pos (keywordEach [] X.env))) := by rfl) :
    PE X (.Call (.Attribute o m apos) (e :: es) [] pos) (tMeth C m sp [] E ta t) := by
  obtain ⟨f, fd, ps, hc, hm, F, b⟩ := c.ex
  exact pe_meth (pl := pl) he hc hm F (hr.mono hk) b .nil hx ha hst hpl ht
/-- what a def's body lets out is the def's wish -/
theorem lets {tk : Takes X fun cls d _ H => E cls d H} : Passes (L2.CX X.prog X.w) X E := passes_call tk fun _ _ _ _ h => h
end
section
variable {K : PySem.W.Frag} {σ : L2.St} {H : Hp} {D : Ends} {c : Value} {ts : Addr → Value → Option Addr → TS} {Wout : WX} {tb : WX → TS}
end
end G57
end
section
set_option maxRecDepth 100000
set_option maxHeartbeats 4000000
/-! XKwExc: C(k = v, ..) raised, C an own exception class whose __init__ has keyword-only parameters. -/
namespace PySem
namespace KWX
open PySem.W PySem.Calls PyProof.Rows PySem.HandSPX
section
variable {M : Model} {A : Around} {E : Value → Shared → Prop} {h : Heap} {g : Array GenState} {d : Drawn} {t : Nat} {os : OsState}
variable {nm q : Str} {C N : Addr} {bs bm bmB : List Value} {hdct : Bool} {sn : List Str} {sub : List Value} {ab : Bool} {col : Option Bool} {dd : Option Addr} {k0 k1 k2 k3 k5 : Option Value} {B newId initId : String}
theorem check_new_kw (F : ExcBaseFacts B newId initId bmB) (same : ∀ X : String, bm.contains (.type X) = bmB.contains (.type X)) {kw : List (Str × Value)} {Q : Unit → Shared → Prop}
    (hC : h.get? C = some (excClassObj nm q C N bs bm hdct sn sub ab col dd k0 k1 k2 k3 k5 newId)) (fin : Q () ⟨h, g, d, t, os⟩) : wpAny M A (checkBuiltinCall newId ⟨[.ref C], kw⟩) Q E ⟨h, g, d, t, os⟩ := by
  have inB : (Value.ref C :: bm).contains (.type B) = true := by
    rw [List.contains_cons, same, F.hasB]
    exact Bool.or_true _
  have star := F.noStar
  simp only [checkBuiltinCall, F.newKind, F.newSplit, F.newRow]
  repeat (first
    | refine wpAny_loadPart_at hC ?_
    | (refine wpAny_isSubtype_exc hC ?_; rw [inB])
    | refine wpAny_staticBase_exc hC ?_
    | refine wpAny_madeBy_exc hC ?_
    | simp only [bne_self_eq_false, Bool.false_eq_true, if_false]
    | wp_step)
  exact fin
end
section
variable {prog : Program} {w : World} {A : Around} {E : Value → Shared → Prop} {R : Result → Shared → Prop} {h : Heap} {g : Array GenState} {d : Drawn} {t : Nat} {os : OsState}
variable {nm q : Str} {C N : Addr} {bs bm bmB : List Value} {hdct : Bool} {sn : List Str} {sub : List Value} {ab : Bool} {col : Option Bool} {dd : Option Addr} {k0 k1 k2 k3 k5 : Option Value} {B newId initId : String} {kw : List (Str × Value)}
theorem new_kw (F : ExcBaseFacts B newId initId bmB) (same : ∀ X : String, bm.contains (.type X) = bmB.contains (.type X)) (hC : h.get? C = some (excClassObj nm q C N bs bm hdct sn sub ab col dd k0 k1 k2 k3 k5 newId))
    (fin : R (.ok (.ret (.ref (h.objs.size + 1)))) ⟨(h.push (W.kdv_tup [])).push (excO C h.objs.size), g, d, t, os⟩) : codeAny (model prog w) A (.builtin newId ⟨[.ref C], kw⟩) R ⟨h, g, d, t, os⟩ := by
  have ends := F.ends
  have inB : (Value.ref C :: bm).contains (.type B) = true := by
    rw [List.contains_cons, same, F.hasB]
    exact Bool.or_true _
  have inA : (Value.ref C :: bm).contains (.type "AttributeError") = false := by
    rw [List.contains_cons, same, F.noAttr] <;> rfl
  have inN : (Value.ref C :: bm).contains (.type "NameError") = false := by
    rw [List.contains_cons, same, F.noName] <;> rfl
  refine codeAny_builtinAt F.entry ?_
  unfold Builtin.«BaseException.__new__»
  refine wpAt_bind ?_
  show wpAt _ _ _ (stack >>= _) _ _ _
  refine wpAt_bind (wpAt_stack fun p below => wpAt_of_wpAny ?_)
  wp_walk
  refine wpAt_of_wpAny ?_
  rw [F.owner]
  repeat (first
    | with_reducible refine wpAny_madeHere_exc F.canon hC ?_
    | with_reducible refine wpAny_loadPart_at hC ?_
    | (with_reducible refine wpAny_isSubtype_exc hC ?_; first | rw [inB] | rw [inA] | rw [inN])
    | wp_step)
  show R _ _
  rw [Heap.size_push]
  exact fin
theorem type_call_kw (F : ExcBaseFacts B newId initId bmB) (same : ∀ X : String, bm.contains (.type X) = bmB.contains (.type X)) {fI : Addr} {Q : Fin → Shared → Prop} (hC : h.get? C = some (excClassObj nm q C N bs bm hdct sn sub ab col dd k0 k1 k2 k3 k5 newId))
    (hi : W.Looks (model prog w) h (typeLookup (.ref C) "__init__") (some (.ref fI))) (hb : ∀ self, W.Looks (model prog w) h (bindSpecial (.ref fI) self) (.ref fI, [self]))
    (fin : codeAny (model prog w) A (.call (.ref fI) ⟨[.ref (h.objs.size + 1)], kw⟩) (fun r s' => match r with
      | .ok (.ret v) => v = .none ∧ Q (.done (.ret (.ref (h.objs.size + 1)))) s'
      | .ok _ => False
      | .error e => E e s') ⟨(h.push (W.kdv_tup [])).push (excO C h.objs.size), g, d, t, os⟩) : wpAny (model prog w) A (Builtin.«type.__call__» ⟨[.ref C], kw⟩) Q E ⟨h, g, d, t, os⟩ := by
  repeat (first
    | with_reducible refine wpAny_loadPart_at hC ?_
    | with_reducible refine wpAny_madeBy_exc hC ?_
    | wp_step)
  refine codeAny_call_builtin_code (Code.quiet_builtin _ F.quiet) (check_new_kw F same hC ?_)
  refine new_kw F same hC ?_
  show wpAny _ _ _ _ _ _
  have keep : ∀ b o, h.get? b = some o → ((h.push (W.kdv_tup [])).push (excO C h.objs.size)).get? b = some o := fun b o e => Heap.get?_push_of_some _ (Heap.get?_push_of_some _ e)
  have hC2 := keep _ _ hC
  have made : ((h.push (W.kdv_tup [])).push (excO C h.objs.size)).get? (h.objs.size + 1) = some (excO C h.objs.size) := by heap_get
  have inC : (Value.ref C :: bm).contains (.ref C) = true := by simp
  have i1 := hi.keeps keep
  have b1 := (hb (.ref (h.objs.size + 1))).keeps keep
  unfold isInstance
  repeat (first
    | with_reducible refine wpAny_loadPart_at made ?_
    | (with_reducible refine wpAny_isSubtype_exc hC2 ?_; rw [inC])
    | wp_step)
  show wpAny _ _ (typeLookup (.ref C) _) _ _ _
  refine i1.at ?_
  refine wpAny_holding (wpAny_bind (b1.at ?_))
  refine wpAny_bind (wpAny_call (codeAny_mono fin fun r s' z => ?_))
  rcases r with e | (v | _ | _ | _) <;> first | exact z | exact z.elim | skip
  obtain ⟨rfl, z⟩ := z
  first
    | exact wpAny_pure (wpAny_pure z)
    | (wp_walk; exact z)
theorem call_kw (F : ExcBaseFacts B newId initId bmB) (same : ∀ X : String, bm.contains (.type X) = bmB.contains (.type X)) {fI : Addr} (hC : h.get? C = some (excClassObj nm q C N bs bm hdct sn sub ab col dd k0 k1 k2 k3 k5 newId))
    (hi : W.Looks (model prog w) h (typeLookup (.ref C) "__init__") (some (.ref fI))) (hb : ∀ self, W.Looks (model prog w) h (bindSpecial (.ref fI) self) (.ref fI, [self]))
    (fin : codeAny (model prog w) (A.under (.builtin "type.__call__" ⟨[.ref C], kw⟩)) (.call (.ref fI) ⟨[.ref (h.objs.size + 1)], kw⟩) (W.InitBack (h.objs.size + 1) R) ⟨(h.push (W.kdv_tup [])).push (excO C h.objs.size), g, d, t, os⟩) :
    codeAny (model prog w) A (.call (.ref C) ⟨[], kw⟩) R ⟨h, g, d, t, os⟩ := by
  have f1 := tc_lookup
  have f2 := tc_bind (.ref C)
  have isT : (⟨h, g, d, t, os⟩ : Shared).TypeIs (.ref C) "type" := ⟨_, hC, rfl⟩
  refine codeAny_of_tree ?_
  show wpAny _ _ (callAny (.ref C) _) _ _ _
  repeat (any_goals (first
    | assumption
    | with_reducible refine wpAny_loadPart_at hC ?_
    | wp_step))
  refine ⟨rfl, ?_⟩
  refine codeAny_call_builtin_at (Code.quiet_builtin _ (by decide +kernel)) entry_typeCall (wpAny_check_type_call_sub hC (type_call_kw F same hC hi hb ?_))
  refine codeAny_mono fin fun r s' z => ?_
  rcases r with e | (v | _ | _ | _) <;> exact z
end
end KWX
end PySem
namespace G57
open PySem PySem.Spec PyProof.Rows L2
/-- C(k = v, ..), an exception with an own __init__ that keeps sp -/
def tMkK (C : Addr) (m : Nat) (sp : Sp) (gV : List V → List V → List V) (tk : TA) : L2.St → Hp → XK → Prop := fun σ H Q => tk σ H fun zs H1 => zs.length = m ∧ ∀ a, H1 a = none → sp (gV [.ref a] zs) (upd H1 a (exo a C none))
  (fun v H2 => v = .non ∧ ∃ (d : Addr) (fs : List (Str × V)), H2 a = some (exo a C (some d)) ∧ H2 d = some (exd d fs) ∧ H1 d = none ∧ Q (.ref C) (some d) (upd (L2.del H2 a) d (.xd fs))) fun _ _ _ => False
theorem pmk_kw {X : Cx} {CX : CXT} {x : Str} {C fI : Addr} {k : Nat} {fd : FuncData} {ps ks : List Str} {sp : Sp} {kws : List Keyword} {tk : TA} {g : List Value → List Value → List Value} {gV : List V → List V → List V} {p pos : Pos}
    (T : OexC X.K C) (iC : PySem.W.findIn X.K (.ref C) "__init__" = some (some (.ref fI))) (tI : PySem.W.typeIn X.K (.ref fI) = some (.type "function")) (F1 : FnOk X.prog X.w X.K X.mg X.base CX k fI fd ps sp) (hr : Room (k + 1) X.A) (hb : KBn X.K fd ps 1 ks g gV)
    (hx : Passes CX X (fun _ _ _ => False)) (hg : Gl X x) (hm : X.mg x = some (.ref C)) (hkw : PK X kws tk)
    (hall : (backToKw pos (keywordEach kws X.env)).all (·.1.isSome) = true := by rfl) (hks : (backToKw pos (keywordEach kws X.env)).filterMap (·.1) = ks := by rfl) (hdb : (x == ("__debug__" : Str)) = false := by decide)
    (hpl : ((backTo pos (starEach [] X.env)).any (·.1) || (backToKw pos (keywordEach kws X.env)).any (·.1.isNone)) = false := by rfl) : PMk X (.Call (.Name x p) [] kws pos) (tMkK C ks.length sp gV tk) := by
  intro pins s σ H Q I h
  obtain ⟨nm, q, N, bs, bm, sn, sub, ab, col, dd, k0, k1, k2, k3, k5, hC, hbm⟩ := T.cls
  refine wpAny_Call_Name_kw (ld_glob I hg hm ?_ hdb)
  refine PySem.W.callWith_KW0 (h₀ := X.base) I.ok.mod.kin T.kC hall ?_ hpl
  refine thn (hkw.run pos pins s σ H _ I h) fun ws s1 ⟨zs, H1, I1, rz, l2, q1⟩ => ⟨I1.kIn, ?_⟩
  rw [hks]
  obtain ⟨hp, gn, dr, tok, os⟩ := s1
  have le : hp.objs.size ≤ hp.objs.size + 1 := Nat.le_succ _
  have new : H1 (hp.objs.size + 1) = none := I1.hok.fresh le
  have told := q1 (hp.objs.size + 1) new
  have keep : ∀ b o, hp.get? b = some o → ((hp.push (PySem.W.kdv_tup [])).push (PySem.HandSPX.excO C hp.objs.size)).get? b = some o := fun b o e => Heap.get?_push_of_some _ (Heap.get?_push_of_some _ e)
  have made : ((hp.push (PySem.W.kdv_tup [])).push (PySem.HandSPX.excO C hp.objs.size)).get? (hp.objs.size + 1) = some (PySem.HandSPX.excO C hp.objs.size) := by heap_get
  have I2 : Inv X pins σ (upd H1 (hp.objs.size + 1) (exo (hp.objs.size + 1) C none)) ⟨(hp.push (PySem.W.kdv_tup [])).push (PySem.HandSPX.excO C hp.objs.size), gn, dr, tok, os⟩ :=
    I1.laid (t' := tok) (a := hp.objs.size + 1) (o := exo (hp.objs.size + 1) C none) (h' := (hp.push (PySem.W.kdv_tup [])).push (PySem.HandSPX.excO C hp.objs.size)) keep le (exo_ok made)
  have r1 : Vals [V.ref (hp.objs.size + 1)] [Value.ref (hp.objs.size + 1)] := .cons rfl .nil
  have r2 := hb.rel r1 rz
  refine wpAny_call (PySem.KWX.call_kw F.excBase_ValueError (fun Y => PySem.HandSPX.refsVE_contains Y bm hbm) (I1.kIn _ _ hC) (PySem.W.looks_findIn I1.kIn iC) (fun self => PySem.W.bind_fn I1.kIn self tI)
    (codeAny_mono (F1.run _ X.stack _ _ ⟨[Value.ref (hp.objs.size + 1)], ks.zip ws⟩ (g [Value.ref (hp.objs.size + 1)] ws) _ _ (fun _ _ _ => False) (hr.make C [] (ks.zip ws)) (I2.env0.make C [] (ks.zip ws)) (hb.to _ [Value.ref (hp.objs.size + 1)] ws I2.kIn rfl (rz.length.symm.trans l2)) r2 told) fun r s' hq => ?_))
  cases r with
  | error er => exact hx pins σ _ _ er s' I2 hq
  | ok fl =>
    cases fl with
    | ret u =>
      obtain ⟨v, H2, os2, bare2, un2, hok2, rv, ev, d, fs, ea, ed, hd1, q2⟩ := hq
      subst ev
      obtain ⟨h2, g2, d2, t2, os3⟩ := s'
      exact ⟨rv, mk_end (raises_own T.exC T.tyC) I1 le keep un2 hok2 os2 bare2 ea ed hd1 q2⟩
    | next => exact False.elim hq
    | brk => exact False.elim hq
    | cont => exact False.elim hq
/-- L.__init__(self, ..), L an own class over ValueError without own __init__ -/
def tVeL (K : PySem.W.Frag) (CL : Addr) (ta : TE) (t : TA) : TE := fun σ H Q => ta σ H fun x H1 => x = .ref CL ∧ t σ H1 fun vs H2 => ∃ (a C : Addr) (ws : List V), vs = .ref a :: ws ∧ ws.length ≤ 1000 ∧ OexC K C ∧ H2 a = some (exo a C none) ∧ Q .non H2
theorem pe_linit {X : Cx} {CL : Addr} {mc : Value} {o e : Expr} {es : List Expr} {pos apos : Pos} {ta : TE} {t : TA} {pl : Sem Bool} (he : PE X o ta) (r : ClX.CRead X.K CL mc) (vL : PySem.W.findCls X.K (.ref CL) mc "__init__" = some (.val (.builtin "ValueError.__init__"))) (ha : PA X (e :: es) t)
    (hst : starEach (e :: es) X.env = (false, eval e X.env) :: starEach es X.env := by rfl) (hpl : (backTo pos (starEach es X.env)).any (·.1) = false := by rfl)
    (ht : eval (.Call (.Attribute o "__init__" apos) (e :: es) [] pos) X.env = (do
      let ov ← eval o X.env
      standAt apos.atName
      let (f, first) ← holding [ov] (getMethod ov "__init__" pl)
      callWith pos f first (backTo pos (starEach (e :: es) X.env)) (backToKw pos (keywordEach [] X.env))) := by rfl) : PE X (.Call (.Attribute o "__init__" apos) (e :: es) [] pos) (tVeL X.K CL ta t) := by
  refine ⟨fun pins s σ H Q I h => ?_⟩
  refine PySem.W.methodCall_KW (pl := pl) (thn (he.run pins s σ H _ I h) fun u s1 ⟨x, H1, I1, rx, ex, q⟩ => ?_) ht
  subst ex
  obtain rfl : u = Value.ref CL := rx
  refine PySem.W.method_cls I1.kIn r.ga (PySem.W.cls_value I1.kIn r.rd vL (by decide +kernel) ?_)
  show wpAny _ _ (callWith pos (Value.builtin "ValueError.__init__") [] (backTo pos (starEach (e :: es) X.env)) []) _ _ _
  refine PyProof.Rows.callWith_method1 (thn (ha.run pos pins _ σ H1 _ (I1.tok _) q) fun us s2 ⟨vs, H2, I2, r1, a, C, ws, ev, hl, T, ea, q2⟩ => ?_) hst hpl
  subst ev
  cases r1 with
  | @cons _ u0 _ ur ra rest =>
    obtain rfl : u0 = Value.ref a := ra
    have len : ur.length ≤ sizeLine := by
      rw [← rest.length, sizeLine_eq]
      omega
    exact oinit_ok T I2 ea len fun s3 J => ⟨.non, H2, J, rfl, q2⟩
end G57
end
section
set_option maxRecDepth 100000
set_option maxHeartbeats 4000000
/-! XErr: own exception classes with a keyword-only __init__: the header's facts, raise, the suite's reading. -/
namespace G57
open PySem PySem.Spec PyProof.Rows L2
/-! ### facts -/
def clsB (K : PySem.W.Frag) (C : Addr) : Bool := match K.lookup C with
  | some ⟨.type "type", _, .cls cd, sl⟩ => (match cd.mro, sl.toList with
    | .ref C' :: bm, [_, _, _, _, some (.builtin n), _] => (C' == C && n == "ValueError.__new__") && (!cd.hasDel && (cd.hasDict && PySem.HandSPX.refsVE bm))
    | _, _ => false)
  | _ => false
theorem clsB_ok {K : PySem.W.Frag} {C : Addr} (h : clsB K C = true) : ∃ nm q N bs bm sn sub ab col dd k0 k1 k2 k3 k5, K.lookup C = some (excClassObj nm q C N bs bm true sn sub ab col dd k0 k1 k2 k3 k5 "ValueError.__new__") ∧ PySem.HandSPX.refsVE bm = true := by
  unfold clsB at h
  split at h
  · rename_i dd cd sl ho
    split at h
    · rename_i C' bm k0 k1 k2 k3 n k5 hm hs
      simp only [Bool.and_eq_true, beq_iff_eq, Bool.not_eq_true'] at h
      obtain ⟨⟨rfl, rfl⟩, hdel, hdct, hr⟩ := h
      obtain ⟨nm, bs, mro, ns, qn, hd, sn, sub, ab, col, del⟩ := cd
      dsimp only at hm hdel hdct
      subst hm hdel hdct
      have hsl : sl = #[k0, k1, k2, k3, some (.builtin "ValueError.__new__"), k5] := by
        obtain ⟨l⟩ := sl
        simp only at hs
        rw [hs]
      subst hsl
      exact ⟨nm, qn, ns, bs, bm, sn, sub, ab, col, dd, k0, k1, k2, k3, k5, ho, hr⟩
    · cases h
  · cases h
/-- a class of exceptions with an own __init__ -/
def oexB (x : Str) : Ex := fun K =>
  clsB K (He.ga K x) && (He.eqO (PySem.W.findIn K (.ref (He.ga K x)) "__setattr__") (some (some (.builtin "object.__setattr__"))) && (decide (PySem.W.subIn K (.ref (He.ga K x)) (.type "BaseException") = some true) && (decide (PySem.W.typeIn K (.ref (He.ga K x)) = some (.type "type")) && (PySem.W.keepIn K (.ref (He.ga K x)) &&
  (He.eqO (PySem.W.findIn K (.ref (He.ga K x)) "__init__") (some (some (.ref (He.ma K (He.ga K x) "__init__")))) && (decide (PySem.W.typeIn K (.ref (He.ma K (He.ga K x) "__init__")) = some (.type "function")) && xfB K (He.ga K x)))))))
structure Oex (K : PySem.W.Frag) (x : Str) : Prop where
  t : OexC K (He.ga K x)
  i : PySem.W.findIn K (.ref (He.ga K x)) "__init__" = some (some (.ref (He.ma K (He.ga K x) "__init__")))
  f : PySem.W.typeIn K (.ref (He.ma K (He.ga K x) "__init__")) = some (.type "function")
  x : XfC K (He.ga K x)
theorem oex_ok {K : PySem.W.Frag} {x : Str} (h : oexB x K = true) : Oex K x := by
  obtain ⟨h1, h⟩ := He.ba h
  obtain ⟨h2, h⟩ := He.ba h
  obtain ⟨h3, h⟩ := He.ba h
  obtain ⟨h4, h⟩ := He.ba h
  obtain ⟨h5, h⟩ := He.ba h
  obtain ⟨h6, h⟩ := He.ba h
  obtain ⟨h7, h8⟩ := He.ba h
  exact ⟨⟨clsB_ok h1, He.eqO_ok h2, of_decide_eq_true h3, of_decide_eq_true h4, h5⟩, He.eqO_ok h6, of_decide_eq_true h7, xfB_ok h8⟩
/-- a field that is no attribute of the class -/
def xnaB (x f : Str) : Ex := fun K => He.eqO (PySem.W.findIn K (.ref (He.ga K x)) f) (some none)
theorem xna_ok {K : PySem.W.Frag} {x f : Str} (h : xnaB x f K = true) : PySem.W.findIn K (.ref (He.ga K x)) f = some none := He.eqO_ok h
/-- the base class's __init__ -/
def linB (x : Str) : Ex := fun K =>
  PySem.W.readsIn K (He.ga K x) (.type "type") && (He.eqO (PySem.W.specialIn K (.ref (He.ga K x)) "__getattribute__") (some (some (.builtin "type.__getattribute__"))) &&
  (match PySem.W.findCls K (.ref (He.ga K x)) (.type "type") "__init__" with
  | some (.val (.builtin n)) => n == "ValueError.__init__"
  | _ => false))
theorem lin_ok {K : PySem.W.Frag} {x : Str} (h : linB x K = true) : ClX.CRead K (He.ga K x) (.type "type") ∧ PySem.W.findCls K (.ref (He.ga K x)) (.type "type") "__init__" = some (.val (.builtin "ValueError.__init__")) := by
  unfold linB at h
  obtain ⟨z1, h⟩ := He.ba h
  obtain ⟨z2, h⟩ := He.ba h
  refine ⟨⟨z1, He.eqO_ok z2⟩, ?_⟩
  split at h
  · rename_i n e
    obtain rfl : n = "ValueError.__init__" := by simpa using h
    exact e
  · cases h
/-- isinstance of its instances -/
def eisB (x : Str) : Ex := fun K =>
  He.eqO (PySem.W.findIn K (.ref (He.ga K x)) "__getattribute__") (some (some (.builtin "BaseException.__getattribute__"))) && (He.eqO (PySem.W.findIn K (.ref (He.ga K x)) "__getattr__") (some none) && (decide (PySem.W.subIn K (.ref (He.ga K x)) (.type "BaseException") = some true) && (PySem.W.hasDictIn K (He.ga K x) &&
  (He.eqO (PySem.W.findIn K (.ref (He.ga K x)) "__class__") (some (some (.builtin "object.__class__"))) && (He.eqO (PySem.W.specialIn K (.builtin "object.__class__") "__get__") (some (some (.builtin "getset_descriptor.__get__"))) && (decide (PySem.W.takesIn K (.builtin "object.__class__") = some true) && decide (PySem.W.mroIn K (He.ga K x) (.type "object") = some true)))))))
theorem eis_ok {K : PySem.W.Frag} {x : Str} (h : eisB x K = true) : ExcC K (He.ga K x) := by
  obtain ⟨h1, h⟩ := He.ba h
  obtain ⟨h2, h⟩ := He.ba h
  obtain ⟨h3, h⟩ := He.ba h
  obtain ⟨h4, h⟩ := He.ba h
  obtain ⟨h5, h⟩ := He.ba h
  obtain ⟨h6, h⟩ := He.ba h
  obtain ⟨h7, h8⟩ := He.ba h
  exact ⟨He.eqO_ok h1, He.eqO_ok h2, of_decide_eq_true h3, h4, He.eqO_ok h5, He.eqO_ok h6, of_decide_eq_true h7, of_decide_eq_true h8⟩
def kisB (x y : Str) (b : Bool) : Ex := fun K => decide (PySem.W.kitOne K (.ref (He.ga K x)) (.ref (He.ga K y)) = some b)
def kisTB (x : Str) (y : String) (b : Bool) : Ex := fun K => decide (PySem.W.kitOne K (.ref (He.ga K x)) (.type y) = some b)
/-! ### the binding of keyword-only parameters -/
section
variable {P : Program} {w : World} {K : PySem.W.Frag} {mg : Str → Option Value} {base : Heap}
abbrev KBindA (x qual : Str) (pa : Arguments) (bd : List Stmt) (sc : Scope) (ps ks : List Str) : Prop := ∀ (kV doc pm : Value) (an : Option Addr) (cdv ct : Value) (us ws : List Value), us.length = 1 → ws.length = ks.length → bindArgs (PySem.W.fnOf x qual pa bd sc .none kV doc pm an cdv ct) ⟨us, ks.zip ws⟩ = pure (ps.zip (us ++ ws))
theorem kbn_of {d : DefA} {f : Addr} {fd : FuncData} {ps ks : List Str} (F : FunD K d.name d.qual d.params d.body d.scope [] (d.kws K) f fd) (b : KBindA d.name d.qual d.params d.body d.scope ps ks) : KBn K fd ps 1 ks (fun us ws => us ++ ws) (fun vs zs => vs ++ zs) := by
  obtain ⟨oc, od, kV, doc, pm, an, cdv, ct, osl, rfl, lk, hcd⟩ := fun_of F
  refine ⟨fun s us ws X l1 l2 => BindsTo.of_looks fun M => ?_, fun r1 r2 => r1.append r2⟩
  rw [b kV doc pm an cdv ct us ws l1 l2]
  exact .now
/-- an own exception class, made with keywords -/
structure XMak (P : Program) (w : World) (K : PySem.W.Frag) (mg : Str → Option Value) (base : Heap) (k : Nat) (x : Str) (ks : List Str) (sp : Sp) : Prop where
  ex : ∃ (fd : FuncData) (ps : List Str), Oex K x ∧ FnOk P w K mg base (L2.CX P w) k (He.ma K (He.ga K x) "__init__") fd ps sp ∧ KBn K fd ps 1 ks (fun us ws => us ++ ws) (fun vs zs => vs ++ zs)
theorem xmak_of {d : DefA} {C : Str} {N ps ks : List Str} {k : Nat} {sp : Sp} (F : ∃ fd, d.Fn K fd) (hp : d.path = pM C "__init__") (hd : d.dfl = []) (O : Oex K C) (S : FnScope N ps d.scope)
    (b : KBindA d.name d.qual d.params d.body d.scope ps ks) (len : ∀ vs H Q E, sp vs H Q E → vs.length = ps.length) (hb : BodyX P w K mg base N d (He.ma K (He.ga K C) "__init__") k sp) : XMak P w K mg base (k + 1) C ks sp := by
  obtain ⟨fd, F⟩ := fd_at F hp hd
  exact ⟨fd, ps, O, fnx_of F S len hb, kbn_of F b⟩
/-- what such an __init__ of two, of one parameter does -/
def spX2 (K : PySem.W.Frag) (C f1 f2 : Str) : Sp := fun vs H Q _ => ∃ (a : Addr) (v1 v2 : V), vs = [.ref a, v1, v2] ∧ H a = some (exo a (He.ga K C) none) ∧ ∀ d, H d = none → d ≠ a → Q .non (upd (upd (upd H d (exd d [(f1, v1)])) a (exo a (He.ga K C) (some d))) d (exd d [(f2, v2), (f1, v1)]))
def spX1 (K : PySem.W.Frag) (C f1 : Str) : Sp := fun vs H Q _ => ∃ (a : Addr) (v1 : V), vs = [.ref a, v1] ∧ H a = some (exo a (He.ga K C) none) ∧ ∀ d, H d = none → d ≠ a → Q .non (upd (upd H d (exd d [(f1, v1)])) a (exo a (He.ga K C) (some d)))
end
/-! ### raise C(k = v, ..) -/
def tRzK (C : Addr) (m : Nat) (sp : Sp) (tk : TA) (E : XK) : TS := fun _ σ H => tMkK C m sp (fun vs zs => vs ++ zs) tk σ H E
theorem ps_rzk {X : Cx} {x : Str} {k j m : Nat} {ks : List Str} {sp : Sp} {kws : List Keyword} {tk : TA} {p pos pos' : Pos} {E : XK} {E1 : Value → Shared → Prop} (hc : X.calm = true) (hs : X.stack = X.env :: X.outer) (hf : X.env.frame = some X.env.locals) (hex : X.ex = [])
    (hx : X.xe = fun e s' => wpAny (model X.prog X.w) X.A (leaving X.env e) (fun _ s'' => L2.CX X.prog X.w X.outer X.H_0 X.s_0 E e s'') E1 s')
    (c : XMak X.prog X.w X.K X.mg X.base k x ks sp) (hr : Room j X.A) (hk : k + 1 ≤ j) (gC : X.mg x = some (.ref (He.ga X.K x))) (hg : Gl X x) (hkw : PK X kws tk)
    (hall : (backToKw pos (keywordEach kws X.env)).all (·.1.isSome) = true := by rfl) (hks : (backToKw pos (keywordEach kws X.env)).filterMap (·.1) = ks := by rfl) (hm : ks.length = m := by rfl) (hdb : (x == ("__debug__" : Str)) = false := by decide)
    (hpl : ((backTo pos (starEach [] X.env)).any (·.1) || (backToKw pos (keywordEach kws X.env)).any (·.1.isNone)) = false := by rfl) : PS X (.Raise (some (.Call (.Name x p) [] kws pos)) none pos') (tRzK (He.ga X.K x) m sp tk E) := by
  obtain ⟨fd, ps, O, F, hb⟩ := c.ex
  subst hm
  have tk' := takes_of hs hf hex hx
  exact ps_raise hc tk' (pmk_kw O.t O.i O.f F (hr.mono hk) hb (passes_call tk' fun _ _ _ _ h => h.elim) hg gC hkw hall hks hdb hpl)
theorem r_rzk {C : Addr} {m : Nat} {sp : Sp} {tk : TA} {E : XK} {D : Ends} {σ : L2.St} {H : Hp} (q : tk σ H fun zs H1 => zs.length = m ∧ ∀ a, H1 a = none → sp ([.ref a] ++ zs) (upd H1 a (exo a C none))
  (fun v H2 => v = .non ∧ ∃ (d : Addr) (fs : List (Str × V)), H2 a = some (exo a C (some d)) ∧ H2 d = some (exd d fs) ∧ H1 d = none ∧ E (.ref C) (some d) (upd (L2.del H2 a) d (.xd fs))) fun _ _ _ => False) : tRzK C m sp tk E D σ H := q
theorem a_rzk2 {K : PySem.W.Frag} {C f1 f2 : Str} {v1 v2 : V} {H : Hp} {Q : XK} (q : ∀ d, H d = none → Q (.ref (He.ga K C)) (some d) (upd H d (.xd [(f2, v2), (f1, v1)]))) :
    [v1, v2].length = 2 ∧ ∀ a, H a = none → spX2 K C f1 f2 ([V.ref a] ++ [v1, v2]) (upd H a (exo a (He.ga K C) none))
  (fun v H2 => v = .non ∧ ∃ (d : Addr) (fs : List (Str × V)), H2 a = some (exo a (He.ga K C) (some d)) ∧ H2 d = some (exd d fs) ∧ H d = none ∧ Q (.ref (He.ga K C)) (some d) (upd (L2.del H2 a) d (.xd fs))) fun _ _ _ => False := by
  refine ⟨rfl, fun a ha => ⟨a, v1, v2, rfl, upd_same, fun d hd hn => ?_⟩⟩
  have hd' : H d = none := by rw [upd_ne hn] at hd; exact hd
  refine ⟨rfl, d, _, ?_, upd_same, hd', ?_⟩
  · rw [upd_ne (Ne.symm hn), upd_same]
  · have e : upd (L2.del (upd (upd (upd (upd H a (exo a (He.ga K C) none)) d (exd d [(f1, v1)])) a (exo a (He.ga K C) (some d))) d (exd d [(f2, v2), (f1, v1)])) a) d (.xd [(f2, v2), (f1, v1)]) = upd H d (.xd [(f2, v2), (f1, v1)]) := by
      funext b
      by_cases e : b = d
      · rw [e, upd_same, upd_same]
      · rw [upd_ne e, upd_ne e]
        by_cases e2 : b = a
        · rw [e2, del_same, ha]
        · rw [del_ne e2, upd_ne e, upd_ne e2, upd_ne e, upd_ne e2]
    rw [e]
    exact q d hd'
theorem a_rzk1 {K : PySem.W.Frag} {C f1 : Str} {v1 : V} {H : Hp} {Q : XK} (q : ∀ d, H d = none → Q (.ref (He.ga K C)) (some d) (upd H d (.xd [(f1, v1)]))) :
    [v1].length = 1 ∧ ∀ a, H a = none → spX1 K C f1 ([V.ref a] ++ [v1]) (upd H a (exo a (He.ga K C) none))
  (fun v H2 => v = .non ∧ ∃ (d : Addr) (fs : List (Str × V)), H2 a = some (exo a (He.ga K C) (some d)) ∧ H2 d = some (exd d fs) ∧ H d = none ∧ Q (.ref (He.ga K C)) (some d) (upd (L2.del H2 a) d (.xd fs))) fun _ _ _ => False := by
  refine ⟨rfl, fun a ha => ⟨a, v1, rfl, upd_same, fun d hd hn => ?_⟩⟩
  have hd' : H d = none := by rw [upd_ne hn] at hd; exact hd
  refine ⟨rfl, d, _, upd_same, by rw [upd_ne hn, upd_same], hd', ?_⟩
  have e : upd (L2.del (upd (upd (upd H a (exo a (He.ga K C) none)) d (exd d [(f1, v1)])) a (exo a (He.ga K C) (some d))) a) d (.xd [(f1, v1)]) = upd H d (.xd [(f1, v1)]) := by
    funext b
    by_cases e : b = d
    · rw [e, upd_same, upd_same]
    · rw [upd_ne e, upd_ne e]
      by_cases e2 : b = a
      · rw [e2, del_same, ha]
      · rw [del_ne e2, upd_ne e2, upd_ne e, upd_ne e2]
  rw [e]
  exact q d hd'
theorem r_ost {K : PySem.W.Frag} {f : Str} {to te : TE} {D : Ends} {σ : L2.St} {H : Hp} (q : te σ H fun y H1 => to σ H1 fun x H2 => ∃ a C : Addr, x = .ref a ∧ OexC K C ∧ PySem.W.findIn K (.ref C) f = some none ∧
  ((H2 a = some (exo a C none) ∧ ∀ dx, H2 dx = none → dx ≠ a → D.nx σ (upd (upd H2 dx (exd dx [(f, y)])) a (exo a C (some dx)))) ∨
    ∃ (dx : Addr) (fs : List (Str × V)), H2 a = some (exo a C (some dx)) ∧ H2 dx = some (exd dx fs) ∧ fs.length ≤ 900 ∧ D.nx σ (upd H2 dx (exd dx ((f, y) :: fs))))) : tOst K f to te D σ H := q
/-! ### two ways at once -/
def tTwo (t1 t2 : TE) : TE := fun σ H Q => t1 σ H Q ∨ t2 σ H Q
theorem pe_two {X : Cx} {e : Expr} {t1 t2 : TE} (h1 : PE X e t1) (h2 : PE X e t2) : PE X e (tTwo t1 t2) :=
  ⟨fun pins s σ H Q I h => h.elim (h1.run pins s σ H Q I) (h2.run pins s σ H Q I)⟩
theorem r_two1 {t1 t2 : TE} {σ : L2.St} {H : Hp} {Q : VK} (q : t1 σ H Q) : tTwo t1 t2 σ H Q := .inl q
theorem r_two2 {t1 t2 : TE} {σ : L2.St} {H : Hp} {Q : VK} (q : t2 σ H Q) : tTwo t1 t2 σ H Q := .inr q
/-! ### isinstance of an error that has its dict -/
section
open PySem.W PySem.Calls
variable {prog : Program} {w : World} {A : Around} {E : Value → Shared → Prop} {s : Shared} {K : PySem.W.Frag} {x D : Addr} {ox : Obj} {od : Option Obj}
theorem find_clsD (C : ExcC K D) : PySem.W.findObj K D od "__class__" = some (.bind (.builtin "getset_descriptor.__get__") (.builtin "object.__class__")) := by
  obtain ⟨cd, hc, _⟩ := any_some C.hd
  unfold PySem.W.findObj
  rw [hc, Option.bind_some, C.ha, Option.bind_some]
  simp [C.hn, C.ht]
theorem kin_clsD {Q : Option Value → Shared → Prop} (C : ExcC K D) (X : K.In s.heap) (I : PySem.W.InstAt s.heap x ox D od) (h : Q (some (.ref D)) { s with toks := s.toks + 1 }) : wpAny (model prog w) A (getAttr? (.ref x) "__class__") Q E s := by
  obtain ⟨hp, g, d, t, os⟩ := s
  have T0 := I.type (M := model prog w); have T1 := looks_findIn (M := model prog w) X C.hg; have T2 := looks_findIn (M := model prog w) X C.hk; have T3 := looks_find (M := model prog w) X I (find_clsD C)
  have isB : Looks (model prog w) hp (isInstance (.ref x) (.type "BaseException")) true := T0.andThen (looks_subIn X C.hs)
  have q0 : (false && onTheHeap (Value.builtin "BaseException.__getattribute__")) = false := rfl
  have q1 : (onTheHeap (Value.ref D) && Value.builtin "BaseException.__getattribute__" == Value.builtin "object.__getattribute__") = false := by rw [show (Value.builtin "BaseException.__getattribute__" == Value.builtin "object.__getattribute__") = false from by decide +kernel]; exact Bool.and_false _
  unfold getAttr? getAttrBy? getAttrBy
  refine wpAny_bind (wpAny_mkText (wpAny_bind (wpAny_attempt (wpAny_holding (wpAny_bind (T0.at (wpAny_bind (T1.at ?_))))))))
  show wpAny _ _ (if (onTheHeap (Value.ref D) && Value.builtin "BaseException.__getattribute__" == Value.builtin "object.__getattribute__") = true then _ else _) _ _ _
  rw [q1, if_neg Bool.false_ne_true]; unfold getAttrByItsOwn hookBefore
  refine wpAny_bind ?_; rw [if_pos (show onTheHeap (Value.ref D) = true from rfl)]
  refine T2.at ?_; refine wpAny_bind (wpAny_attempt (wpAny_holding ?_)); unfold callGetattribute; rw [q0, if_neg Bool.false_ne_true]; unfold boundAndCalled
  rw [PySem.F.excAttr_ValueError.ga.bind (.ref x)]; refine wpAny_bind (wpAny_pure ?_)
  show wpAny _ _ (call (.builtin "BaseException.__getattribute__") [.ref x, .str "__class__" t]) _ _ _
  refine wpAny_call (codeAny_call_builtin PySem.F.excAttr_ValueError.ga.plain PySem.F.entry_bexc_ga (@check_slot (model prog w) _ _ ⟨hp, g, d, t + 1, os⟩ "BaseException.__getattribute__" "BaseException" "__getattribute__" (.ref x) [.str "__class__" t] [] _ (by decide +kernel) (by decide +kernel) isB (PySem.F.args_bexc_ga (.ref x) (.str "__class__" t)) ?_))
  unfold Builtin.«object.__getattribute__»
  refine wpAny_bind (wpAny_of_eq (a := ((Value.ref x : Value), [Value.str "__class__" t])) (by first | rfl | (simp only [slotArgs]; rfl)) (wpAny_bind (wpAny_pure (wpAny_bind (T0.at (wpAny_bind (T3.at ?_)))))))
  show wpAny _ _ (holding [Value.builtin "object.__class__"] (call (.builtin "getset_descriptor.__get__") [.builtin "object.__class__", .ref x, .ref D]) >>= ret) _ _ _
  refine wpAny_bind (wpAny_holding (wpAny_call (class_get (s := ⟨hp, g, d, t + 1, os⟩) (ox := ox) (od := od) X I C.hm (wpAny_pure ?_))))
  show wpAny _ _ (handedOut (.ref D)) _ _ _
  rw [handedOut_of (v := .ref D) rfl]
  first | exact wpAny_pure (wpAny_pure h) | exact wpAny_pure h | exact wpAny_pure (wpAny_bind (wpAny_pure (wpAny_pure h)))
theorem kitx_excD (C : ExcC K D) : KitX K (.ref x) (.ref D) (fun h => PySem.W.InstAt h x ox D od) where
  ty := fun _ _ _ J => J.type
  it := fun _ _ X _ => by
    obtain ⟨cd, hc, _⟩ := any_some C.hd; unfold PySem.W.clsIn at hc; split at hc
    · rename_i ho; intro _ _ _ _ k q; unfold isType loadHead; exact wpAny_bind (wpAny_loadPart (k _ _ (X _ _ ho)) (wpAny_pure q))
    · cases hc
  ne := (handS_kitx_exc (x := x) (ox := ox) C.hg C.hk C.hs C.hd C.ha C.hn C.ht C.hm).ne
  ca := fun X J k => kin_clsD C X J k
end
theorem bb_ValueError : bootBuiltins "ValueError" = some (.type "ValueError") := by decide +kernel
/-! ### in the suite -/
/-- err.f: the class's facts are asked in the reading -/
def tXfG (K : PySem.W.Frag) (a : Addr) (cls : Value) (d : Option Addr) (f : Str) (te : TE) : TE := fun σ H Q => te σ H fun x H1 => x = .ref a ∧ ∃ (C dd : Addr) (fs : List (Str × V)) (v : V), cls = .ref C ∧ XfC K C ∧ PySem.W.findIn K (.ref C) f = some none ∧ d = some dd ∧ H1 dd = some (.xd fs) ∧ fs.lookup f = some v ∧ Q v H1
theorem pe_xfG {X : Cx} {a : Addr} {oe : Obj} {cls : Value} {d : Option Addr} {pn : List (Addr × Obj)} {e : Expr} {te : TE} {pos : Pos} {n : Str}
    (hz : Zc cls d oe) (hf : ∃ vs, oe.data = .fields vs) (he : PE (X.suite a ((a, oe) :: pn)) e te) (hb : attributeBase e n X.env (eval e X.env) = eval e X.env := by rfl) :
    PE (X.suite a ((a, oe) :: pn)) (.Attribute e n pos) (tXfG X.K a cls d n te) := by
  refine ⟨fun pins s σ H Q I h => ?_⟩
  refine attr_of hb (thn (he.run pins s σ H _ I h) fun u s1 hh => ?_)
  obtain ⟨x, H1, I1, rx, ex, C, dd, fs, v, ec, T, hno, ed, ea, l, q⟩ := hh
  subst ex
  obtain rfl : u = Value.ref a := rx
  subst ec
  subst ed
  obtain ⟨ha, _⟩ := I1.pin (a, oe) (List.mem_append_left _ List.mem_cons_self)
  obtain ⟨vs, hd⟩ := hf
  have hx : ObjOk X.prog X.w H1 s1.heap dd (.xd fs) := I1.hok dd _ ea
  obtain ⟨mA, hns, hr⟩ := hx
  obtain ⟨od, ho, hl⟩ := lookIn_ns hns
  obtain ⟨u, hu, ru⟩ := RelO.some_of (v := v) (o := mA n) (by rw [← l]; exact hr n)
  have J : PySem.W.InstAt s1.heap a oe C (some od) := ⟨ha, hz.1, by unfold PySem.W.notCls; rw [hd] <;> rfl, by rw [hz.2]; exact ho⟩
  exact HandSPX.exc_get I1.kIn J T.ga T.gg T.exC (PySem.W.findObj_own T.hdC hno rfl (by rw [hl, hu])) (handed_of ru) ⟨v, H1, I1.tok _, ru, q⟩
theorem r_xf {K : PySem.W.Frag} {a : Addr} {cls : Value} {d : Option Addr} {f : Str} {te : TE} {σ : L2.St} {H : Hp} {Q : VK} (q : te σ H fun x H1 => x = .ref a ∧ ∃ (C dd : Addr) (fs : List (Str × V)) (v : V), cls = .ref C ∧ XfC K C ∧ PySem.W.findIn K (.ref C) f = some none ∧ d = some dd ∧ H1 dd = some (.xd fs) ∧ fs.lookup f = some v ∧ Q v H1) : tXfG K a cls d f te σ H Q := q
/-- isinstance(err, c) -/
def rIsG (K : PySem.W.Frag) (a : Addr) (cls : Value) (d : Option Addr) : List V → Hp → VK → Prop := fun xs H Q => ∃ (D : Addr) (c : V) (cv : Value) (b : Bool), xs = [.ref a, c] ∧ cls = .ref D ∧ ExcC K D ∧ (d = none ∨ ∃ dd fs, d = some dd ∧ H dd = some (.xd fs)) ∧ (∀ u, RelV c u → u = cv) ∧ PySem.W.kitOne K (.ref D) cv = some b ∧ Q (.bl b) H
section
variable {K : PySem.W.Frag} {a D c : Addr} {d : Option Addr} {b : Bool} {H : Hp} {Q : VK}
theorem r_isG (C : ExcC K D) (hd : d = none ∨ ∃ dd fs, d = some dd ∧ H dd = some (.xd fs)) (e : PySem.W.kitOne K (.ref D) (.ref c) = some b) (q : Q (.bl b) H) : rIsG K a (.ref D) d [.ref a, .ref c] H Q := ⟨D, .ref c, .ref c, b, rfl, rfl, C, hd, fun _ r => r, e, q⟩
theorem r_isGT {T : String} (C : ExcC K D) (hd : d = none ∨ ∃ dd fs, d = some dd ∧ H dd = some (.xd fs)) (e : PySem.W.kitOne K (.ref D) (.type T) = some b) (q : Q (.bl b) H) : rIsG K a (.ref D) d [.ref a, .ty T] H Q := ⟨D, .ty T, .type T, b, rfl, rfl, C, hd, fun _ r => r, e, q⟩
end
theorem call_isG {X : Cx} {a : Addr} {oe : Obj} {cls : Value} {d : Option Addr} {pn : List (Addr × Obj)} (hz : Zc cls d oe) (hf : ∃ vs, oe.data = .fields vs) : CallR (X.suite a ((a, oe) :: pn)) (.builtin "isinstance") (rIsG X.K a cls d) := by
  intro pins s σ H xs us Q I r h
  obtain ⟨D, c, cv, b, rfl, rfl, C, hd, hcv, e, q⟩ := h
  cases r with
  | cons rx rr =>
    cases rr with
    | cons rt rr =>
      cases rr
      cases rx
      have ec := hcv _ rt
      subst ec
      obtain ⟨hget, _⟩ := I.pin (a, oe) (List.mem_append.mpr (.inl List.mem_cons_self))
      obtain ⟨vs, hv⟩ := hf
      have J : ∃ o, PySem.W.InstAt s.heap a oe D o := by
        rcases hd with rfl | ⟨dd, fs, rfl, ed⟩
        · exact ⟨none, hget, hz.1, by unfold PySem.W.notCls; rw [hv] <;> rfl, by rw [hz.2]; trivial⟩
        · have hx : ObjOk X.prog X.w H s.heap dd (.xd fs) := I.hok dd _ ed
          obtain ⟨mA, hns, hr⟩ := hx
          obtain ⟨od, ho, hl⟩ := lookIn_ns hns
          exact ⟨some od, hget, hz.1, by unfold PySem.W.notCls; rw [hv] <;> rfl, by rw [hz.2]; exact ho⟩
      obtain ⟨o, J⟩ := J
      exact PySem.W.kia_one (kitx_excD C) I.kIn J e (fun z => nomatch z) fun tk => ⟨.bl b, H, I.kept (t' := tk) fun _ _ z => z, rfl, q⟩
/-! ### xs.count(y), flat items -/
section
variable {X : Cx}
def rCnt (K : PySem.W.Frag) : V → List V → Hp → VK → Prop := fun x xs H Q => ∃ (a : Addr) (ys : List V) (y : V), x = V.ref a ∧ xs = [y] ∧ SqL K H a ys ∧ flatV y = true ∧ ys.all flatV = true ∧ Q (.int ((ys.countP fun z => eqV z y : Nat) : Int)) H
theorem r_cntL {K : PySem.W.Frag} {a : Addr} {H : Hp} {Q : VK} {xs : List V} {y : V} {n : Nat} (h : SqL K H a xs) (fy : flatV y = true) (fx : xs.all flatV = true) (e : (xs.countP fun z => eqV z y) = n) (q : Q (.int (n : Nat)) H) : rCnt K (.ref a) [y] H Q := ⟨a, xs, y, rfl, rfl, h, fy, fx, by rw [e]; exact q⟩
theorem count_eqU {x : V} : ∀ {xs : List V} {us : List Value}, Vals xs us → xs.all flatV = true → us.countP (eqU x) = xs.countP fun y => eqV y x := by
  intro xs us r
  induction r with
  | nil => intro _; rfl
  | @cons v u vs us rv rr ih =>
    intro f
    obtain ⟨f1, f2⟩ := Bool.and_eq_true_iff.mp (show (flatV v && vs.all flatV) = true from f)
    rw [List.countP_cons, List.countP_cons, ih f2, eqU_of rv f1]
theorem mt_cntL : MtR X "list.count" (rCnt X.K) := by
  intro pins s σ H x xs v us Q I rx rxs h
  obtain ⟨a, ys, y, rfl, rfl, hs, fy, fys, q⟩ := h
  cases rx
  cases rxs with
  | cons ry rt =>
    rename_i uy ut
    cases rt
    obtain ⟨its, rv, ⟨⟨cls, dd, data, sl⟩, n, ho, hc, hdn, hd⟩, hlen⟩ := I.list hs
    simp only at hc hd
    subst hc hd
    refine call_meets PySem.F.slot_list_count ⟨_, ho, rfl⟩ PySem.F.entry_list_count (PySem.F.args_list_count_2 _ _)
      (SeqAt.list_countAt a its.toArray n dd sl uy (eqU y)) ⟨ho, fun u' hu' => mem_eqAt ry fy rv fys u' (by simpa using hu'), ?_⟩
    rw [← count_eqU rv fys] at q
    exact ⟨.int _, H, I.tok _, ⟨_, rfl⟩, q⟩
end
section
variable {X : Cx} {K : PySem.W.Frag} {o e : Expr} {es : List Expr} {to : TE} {t : TA} {name : Str} {apos cpos : Pos} {T id : String} {r : V → List V → Hp → VK → Prop}
theorem mtK {r : PySem.W.Frag → V → List V → Hp → VK → Prop} (h : X.K = K) (c : MtR X id (r X.K)) : MtR X id (r K) := h ▸ c
theorem pe_bmK (hK : X.K = K) (pa : PlainAttrs T) (slot : Slot T name id) (hty : typeOf (.builtin id) = pure (.type "method_descriptor")) (hm : MtR X id r) (ho : PE X o to) (ha : PA X (e :: es) t) (hbase : attributeBase o name X.env (eval o X.env) = eval o X.env := by rfl)
    (hfew : ((backTo cpos (starEach (e :: es) X.env)).all (fun x => !x.1) && (backToKw cpos (keywordEach [] X.env)).all (fun x => x.1.isSome) && decide ((e :: es).length + ([] : List Keyword).length + (if ([] : List Keyword).isEmpty then 0 else 1) < 30)) = true := by rfl)
    (hline : (apos.endLine == cpos.line) = true := by rfl) (hs : starEach (e :: es) X.env = (false, eval e X.env) :: starEach es X.env := by rfl) (hplain : (backTo cpos (starEach es X.env)).any (·.1) = false := by rfl) : PE X (.Call (.Attribute o name apos) (e :: es) [] cpos) (tBM K T r to t) := hK ▸ pe_bm pa slot hty hm ho ha hbase hfew hline hs hplain
end
end G57
end
section
set_option maxRecDepth 100000
set_option maxHeartbeats 4000000
namespace G57
open PySem PySem.Spec PyProof.Rows L2
def topS (i : Nat) : Stmt := PySem.Challenge.pw_staleloaves_k10_numbers_out_of_range.main.body.getD i (.Pass ⟨0, 0, 0, 0⟩)
abbrev s_wall : Stmt := topS 0
abbrev s_Effect_init : Stmt := inClass (topS 2) 0
abbrev s_Effect_end : Stmt := inClass (topS 2) 1
abbrev s_Effect_missed : Stmt := inClass (topS 2) 2
abbrev s_Effect_thrown : Stmt := inClass (topS 2) 3
abbrev s_Effect_followed : Stmt := inClass (topS 2) 4
abbrev s_day_effect : Stmt := topS 3
abbrev s_power : Stmt := topS 4
abbrev s_InvalidBakery_init : Stmt := inClass (topS 7) 0
abbrev s_InvalidDays_init : Stmt := inClass (topS 9) 0
abbrev s_validate_number : Stmt := topS 14
abbrev s_validate_amounts : Stmt := topS 15
abbrev s_Bakery_init : Stmt := inClass (topS 16) 2
abbrev s_Bakery_bakes : Stmt := inClass (topS 16) 3
abbrev s_Bakery_demands : Stmt := inClass (topS 16) 4
abbrev s_Bakery_life : Stmt := inClass (topS 16) 5
abbrev s_Bakery_settled_day : Stmt := inClass (topS 16) 6
abbrev s_Bakery_long_run : Stmt := inClass (topS 16) 7
abbrev s_Bakery_with_life : Stmt := inClass (topS 16) 8
abbrev s_Bakery_baking_more : Stmt := inClass (topS 16) 9
abbrev s_Bakery_baked_on : Stmt := inClass (topS 16) 10
abbrev s_Bakery_effect_of : Stmt := inClass (topS 16) 11
abbrev s_Bakery_start_of : Stmt := inClass (topS 16) 12
abbrev s_Bakery_stock : Stmt := inClass (topS 16) 13
abbrev s_Bakery_missed : Stmt := inClass (topS 16) 14
abbrev s_Bakery_thrown : Stmt := inClass (topS 16) 15
abbrev s_Bakery_sold : Stmt := inClass (topS 16) 16
abbrev s_Bakery_wished_before : Stmt := inClass (topS 16) 17
abbrev s_Bakery_totals : Stmt := inClass (topS 16) 18
abbrev s_Bakery_shelf : Stmt := inClass (topS 16) 19
abbrev s_rounds_to_settle : Stmt := topS 17
abbrev s_after : Stmt := topS 18
abbrev s_settled_of : Stmt := topS 19
abbrev s_played : Stmt := topS 22
abbrev s_newest_first : Stmt := topS 23
abbrev s_first_with : Stmt := topS 26
abbrev s_next_missed : Stmt := topS 27
abbrev s_next_thrown : Stmt := topS 28
abbrev s_least_life : Stmt := topS 29
abbrev s_least_baking : Stmt := topS 30
abbrev s_LifeObserver_init : Stmt := inClass (topS 32) 0
abbrev s_LifeObserver_possible_lives : Stmt := inClass (topS 32) 1
abbrev s_LifeObserver_records : Stmt := inClass (topS 32) 2
abbrev s_LifeObserver_keep : Stmt := inClass (topS 32) 3
abbrev s_LifeObserver_see_sold : Stmt := inClass (topS 32) 4
abbrev s_LifeObserver_see_thrown : Stmt := inClass (topS 32) 5
abbrev s_LifeObserver_see_stock : Stmt := inClass (topS 32) 6
abbrev s_LifeObserver_telling_day : Stmt := inClass (topS 32) 7
abbrev s_law_mix : Stmt := topS 34
abbrev s_law_next : Stmt := topS 35
abbrev s_law_error : Stmt := topS 36
abbrev s_law_amounts : Stmt := topS 37
abbrev s_law_parts : Stmt := topS 38
abbrev s_law : Stmt := topS 39
def d_Effect_init : DefA := ⟨pM "Effect" "__init__", "__init__", "Effect.__init__", defArgs s_Effect_init, defBody s_Effect_init, defScope s_Effect_init, [], []⟩
def d_Effect_end : DefA := ⟨pM "Effect" "end", "end", "Effect.end", defArgs s_Effect_end, defBody s_Effect_end, defScope s_Effect_end, [], []⟩
def d_Effect_missed : DefA := ⟨pM "Effect" "missed", "missed", "Effect.missed", defArgs s_Effect_missed, defBody s_Effect_missed, defScope s_Effect_missed, [], []⟩
def d_Effect_thrown : DefA := ⟨pM "Effect" "thrown", "thrown", "Effect.thrown", defArgs s_Effect_thrown, defBody s_Effect_thrown, defScope s_Effect_thrown, [], []⟩
def d_Effect_followed : DefA := ⟨pM "Effect" "followed", "followed", "Effect.followed", defArgs s_Effect_followed, defBody s_Effect_followed, defScope s_Effect_followed, [], []⟩
def d_day_effect : DefA := ⟨pG "day_effect", "day_effect", "day_effect", defArgs s_day_effect, defBody s_day_effect, defScope s_day_effect, [], []⟩
def d_power : DefA := ⟨pG "power", "power", "power", defArgs s_power, defBody s_power, defScope s_power, [], []⟩
def d_InvalidBakery_init : DefA := ⟨pM "InvalidBakery" "__init__", "__init__", "InvalidBakery.__init__", defArgs s_InvalidBakery_init, defBody s_InvalidBakery_init, defScope s_InvalidBakery_init, [], []⟩
def d_InvalidDays_init : DefA := ⟨pM "InvalidDays" "__init__", "__init__", "InvalidDays.__init__", defArgs s_InvalidDays_init, defBody s_InvalidDays_init, defScope s_InvalidDays_init, [], []⟩
def d_validate_number : DefA := ⟨pG "validate_number", "validate_number", "validate_number", defArgs s_validate_number, defBody s_validate_number, defScope s_validate_number, [], []⟩
def d_validate_amounts : DefA := ⟨pG "validate_amounts", "validate_amounts", "validate_amounts", defArgs s_validate_amounts, defBody s_validate_amounts, defScope s_validate_amounts, [], []⟩
def d_Bakery_init : DefA := ⟨pM "Bakery" "__init__", "__init__", "Bakery.__init__", defArgs s_Bakery_init, defBody s_Bakery_init, defScope s_Bakery_init, [], []⟩
def d_Bakery_bakes : DefA := ⟨pP "Bakery" "bakes", "bakes", "Bakery.bakes", defArgs s_Bakery_bakes, defBody s_Bakery_bakes, defScope s_Bakery_bakes, [], []⟩
def d_Bakery_demands : DefA := ⟨pP "Bakery" "demands", "demands", "Bakery.demands", defArgs s_Bakery_demands, defBody s_Bakery_demands, defScope s_Bakery_demands, [], []⟩
def d_Bakery_life : DefA := ⟨pP "Bakery" "life", "life", "Bakery.life", defArgs s_Bakery_life, defBody s_Bakery_life, defScope s_Bakery_life, [], []⟩
def d_Bakery_settled_day : DefA := ⟨pP "Bakery" "settled_day", "settled_day", "Bakery.settled_day", defArgs s_Bakery_settled_day, defBody s_Bakery_settled_day, defScope s_Bakery_settled_day, [], []⟩
def d_Bakery_long_run : DefA := ⟨pP "Bakery" "long_run", "long_run", "Bakery.long_run", defArgs s_Bakery_long_run, defBody s_Bakery_long_run, defScope s_Bakery_long_run, [], []⟩
def d_Bakery_with_life : DefA := ⟨pM "Bakery" "with_life", "with_life", "Bakery.with_life", defArgs s_Bakery_with_life, defBody s_Bakery_with_life, defScope s_Bakery_with_life, [], []⟩
def d_Bakery_baking_more : DefA := ⟨pM "Bakery" "baking_more", "baking_more", "Bakery.baking_more", defArgs s_Bakery_baking_more, defBody s_Bakery_baking_more, defScope s_Bakery_baking_more, [], []⟩
def d_Bakery_baked_on : DefA := ⟨pM "Bakery" "baked_on", "baked_on", "Bakery.baked_on", defArgs s_Bakery_baked_on, defBody s_Bakery_baked_on, defScope s_Bakery_baked_on, [], []⟩
def d_Bakery_effect_of : DefA := ⟨pM "Bakery" "effect_of", "effect_of", "Bakery.effect_of", defArgs s_Bakery_effect_of, defBody s_Bakery_effect_of, defScope s_Bakery_effect_of, [], []⟩
def d_Bakery_start_of : DefA := ⟨pM "Bakery" "start_of", "start_of", "Bakery.start_of", defArgs s_Bakery_start_of, defBody s_Bakery_start_of, defScope s_Bakery_start_of, [], []⟩
def d_Bakery_stock : DefA := ⟨pM "Bakery" "stock", "stock", "Bakery.stock", defArgs s_Bakery_stock, defBody s_Bakery_stock, defScope s_Bakery_stock, [], []⟩
def d_Bakery_missed : DefA := ⟨pM "Bakery" "missed", "missed", "Bakery.missed", defArgs s_Bakery_missed, defBody s_Bakery_missed, defScope s_Bakery_missed, [], []⟩
def d_Bakery_thrown : DefA := ⟨pM "Bakery" "thrown", "thrown", "Bakery.thrown", defArgs s_Bakery_thrown, defBody s_Bakery_thrown, defScope s_Bakery_thrown, [], []⟩
def d_Bakery_sold : DefA := ⟨pM "Bakery" "sold", "sold", "Bakery.sold", defArgs s_Bakery_sold, defBody s_Bakery_sold, defScope s_Bakery_sold, [], []⟩
def d_Bakery_wished_before : DefA := ⟨pM "Bakery" "wished_before", "wished_before", "Bakery.wished_before", defArgs s_Bakery_wished_before, defBody s_Bakery_wished_before, defScope s_Bakery_wished_before, [], []⟩
def d_Bakery_totals : DefA := ⟨pM "Bakery" "totals", "totals", "Bakery.totals", defArgs s_Bakery_totals, defBody s_Bakery_totals, defScope s_Bakery_totals, [], []⟩
def d_Bakery_shelf : DefA := ⟨pM "Bakery" "shelf", "shelf", "Bakery.shelf", defArgs s_Bakery_shelf, defBody s_Bakery_shelf, defScope s_Bakery_shelf, [], []⟩
def d_rounds_to_settle : DefA := ⟨pG "rounds_to_settle", "rounds_to_settle", "rounds_to_settle", defArgs s_rounds_to_settle, defBody s_rounds_to_settle, defScope s_rounds_to_settle, [], []⟩
def d_after : DefA := ⟨pG "after", "after", "after", defArgs s_after, defBody s_after, defScope s_after, [], []⟩
def d_settled_of : DefA := ⟨pG "settled_of", "settled_of", "settled_of", defArgs s_settled_of, defBody s_settled_of, defScope s_settled_of, [], []⟩
def d_played : DefA := ⟨pG "played", "played", "played", defArgs s_played, defBody s_played, defScope s_played, [], []⟩
def d_newest_first : DefA := ⟨pG "newest_first", "newest_first", "newest_first", defArgs s_newest_first, defBody s_newest_first, defScope s_newest_first, [], []⟩
def d_first_with : DefA := ⟨pG "first_with", "first_with", "first_with", defArgs s_first_with, defBody s_first_with, defScope s_first_with, [], []⟩
def d_next_missed : DefA := ⟨pG "next_missed", "next_missed", "next_missed", defArgs s_next_missed, defBody s_next_missed, defScope s_next_missed, [], []⟩
def d_next_thrown : DefA := ⟨pG "next_thrown", "next_thrown", "next_thrown", defArgs s_next_thrown, defBody s_next_thrown, defScope s_next_thrown, [], []⟩
def d_least_life : DefA := ⟨pG "least_life", "least_life", "least_life", defArgs s_least_life, defBody s_least_life, defScope s_least_life, [], []⟩
def d_least_baking : DefA := ⟨pG "least_baking", "least_baking", "least_baking", defArgs s_least_baking, defBody s_least_baking, defScope s_least_baking, [], []⟩
def d_LifeObserver_init : DefA := ⟨pM "LifeObserver" "__init__", "__init__", "LifeObserver.__init__", defArgs s_LifeObserver_init, defBody s_LifeObserver_init, defScope s_LifeObserver_init, [], []⟩
def d_LifeObserver_possible_lives : DefA := ⟨pP "LifeObserver" "possible_lives", "possible_lives", "LifeObserver.possible_lives", defArgs s_LifeObserver_possible_lives, defBody s_LifeObserver_possible_lives, defScope s_LifeObserver_possible_lives, [], []⟩
def d_LifeObserver_records : DefA := ⟨pP "LifeObserver" "records", "records", "LifeObserver.records", defArgs s_LifeObserver_records, defBody s_LifeObserver_records, defScope s_LifeObserver_records, [], []⟩
def d_LifeObserver_keep : DefA := ⟨pM "LifeObserver" "keep", "keep", "LifeObserver.keep", defArgs s_LifeObserver_keep, defBody s_LifeObserver_keep, defScope s_LifeObserver_keep, [], []⟩
def d_LifeObserver_see_sold : DefA := ⟨pM "LifeObserver" "see_sold", "see_sold", "LifeObserver.see_sold", defArgs s_LifeObserver_see_sold, defBody s_LifeObserver_see_sold, defScope s_LifeObserver_see_sold, [], []⟩
def d_LifeObserver_see_thrown : DefA := ⟨pM "LifeObserver" "see_thrown", "see_thrown", "LifeObserver.see_thrown", defArgs s_LifeObserver_see_thrown, defBody s_LifeObserver_see_thrown, defScope s_LifeObserver_see_thrown, [], []⟩
def d_LifeObserver_see_stock : DefA := ⟨pM "LifeObserver" "see_stock", "see_stock", "LifeObserver.see_stock", defArgs s_LifeObserver_see_stock, defBody s_LifeObserver_see_stock, defScope s_LifeObserver_see_stock, [], []⟩
def d_LifeObserver_telling_day : DefA := ⟨pM "LifeObserver" "telling_day", "telling_day", "LifeObserver.telling_day", defArgs s_LifeObserver_telling_day, defBody s_LifeObserver_telling_day, defScope s_LifeObserver_telling_day, [], []⟩
def d_law_mix : DefA := ⟨pG "_law_mix", "_law_mix", "_law_mix", defArgs s_law_mix, defBody s_law_mix, defScope s_law_mix, [], []⟩
def d_law_next : DefA := ⟨pG "_law_next", "_law_next", "_law_next", defArgs s_law_next, defBody s_law_next, defScope s_law_next, [], []⟩
def d_law_error : DefA := ⟨pG "_law_error", "_law_error", "_law_error", defArgs s_law_error, defBody s_law_error, defScope s_law_error, [], []⟩
def d_law_amounts : DefA := ⟨pG "_law_amounts", "_law_amounts", "_law_amounts", defArgs s_law_amounts, defBody s_law_amounts, defScope s_law_amounts, [], []⟩
def d_law_parts : DefA := ⟨pG "_law_parts", "_law_parts", "_law_parts", defArgs s_law_parts, defBody s_law_parts, defScope s_law_parts, [], []⟩
def d_law : DefA := ⟨pG "law", "law", "law", defArgs s_law, defBody s_law, defScope s_law, [], []⟩
def fnL : List DefA := [d_Effect_init, d_Effect_end, d_Effect_missed, d_Effect_thrown, d_Effect_followed, d_day_effect, d_power, d_InvalidBakery_init, d_InvalidDays_init, d_validate_number, d_validate_amounts, d_Bakery_init, d_Bakery_bakes, d_Bakery_demands, d_Bakery_life, d_Bakery_settled_day, d_Bakery_long_run, d_Bakery_with_life, d_Bakery_baking_more, d_Bakery_baked_on, d_Bakery_effect_of, d_Bakery_start_of, d_Bakery_stock, d_Bakery_missed, d_Bakery_thrown, d_Bakery_sold, d_Bakery_wished_before, d_Bakery_totals, d_Bakery_shelf, d_rounds_to_settle, d_after, d_settled_of, d_played, d_newest_first, d_first_with, d_next_missed, d_next_thrown, d_least_life, d_least_baking, d_LifeObserver_init, d_LifeObserver_possible_lives, d_LifeObserver_records, d_LifeObserver_keep, d_LifeObserver_see_sold, d_LifeObserver_see_thrown, d_LifeObserver_see_stock, d_LifeObserver_telling_day, d_law_mix, d_law_next, d_law_error, d_law_amounts, d_law_parts, d_law]
def tfL : List He.Defn := [("next_missed", none), ("next_thrown", none), ("law", none)]
def exL : List Ex := [
  fun K => (He.Fa.glo "Effect").ok K,
  fun K => (He.Fa.glo "day_effect").ok K,
  fun K => (He.Fa.glo "power").ok K,
  fun K => (He.Fa.glo "LoafError").ok K,
  fun K => (He.Fa.glo "InvalidBakery").ok K,
  fun K => (He.Fa.glo "InvalidNumber").ok K,
  fun K => (He.Fa.glo "InvalidDays").ok K,
  fun K => (He.Fa.glo "Contradiction").ok K,
  fun K => (He.Fa.glo "validate_number").ok K,
  fun K => (He.Fa.glo "validate_amounts").ok K,
  fun K => (He.Fa.glo "Bakery").ok K,
  fun K => (He.Fa.glo "rounds_to_settle").ok K,
  fun K => (He.Fa.glo "after").ok K,
  fun K => (He.Fa.glo "settled_of").ok K,
  fun K => (He.Fa.glo "played").ok K,
  fun K => (He.Fa.glo "newest_first").ok K,
  fun K => (He.Fa.glo "first_with").ok K,
  fun K => (He.Fa.glo "next_missed").ok K,
  fun K => (He.Fa.glo "next_thrown").ok K,
  fun K => (He.Fa.glo "least_life").ok K,
  fun K => (He.Fa.glo "least_baking").ok K,
  fun K => (He.Fa.glo "LifeObserver").ok K,
  fun K => (He.Fa.glo "_law_mix").ok K,
  fun K => (He.Fa.glo "_law_next").ok K,
  fun K => (He.Fa.glo "_law_error").ok K,
  fun K => (He.Fa.glo "_law_amounts").ok K,
  fun K => (He.Fa.glo "_law_parts").ok K,
  fun K => (He.Fa.glo "law").ok K,
  fun K => (He.Fa.free "ValueError").ok K,
  fun K => (He.Fa.free "enumerate").ok K,
  fun K => (He.Fa.free "int").ok K,
  fun K => (He.Fa.free "isinstance").ok K,
  fun K => (He.Fa.free "len").ok K,
  fun K => (He.Fa.free "list").ok K,
  fun K => (He.Fa.free "max").ok K,
  fun K => (He.Fa.free "min").ok K,
  fun K => (He.Fa.free "property").ok K,
  fun K => (He.Fa.free "range").ok K,
  fun K => (He.Fa.free "sum").ok K,
  fun K => (He.Fa.free "tuple").ok K,
  fun K => (He.Fa.int "MAX_AMOUNT" (1000000000)).ok K,
  fun K => (He.Fa.int "MAX_DAY" (1000000000000000000)).ok K,
  fun K => (He.Fa.int "MAX_PLAYED" (1000)).ok K,
  fun K => (He.Fa.int "MAX_MISSED" (1000000000000)).ok K,
  fun K => (He.Fa.cls "Effect").ok K,
  fun K => (He.Fa.mkr "Effect").ok K,
  fun K => (He.Fa.noat "Effect" "shift").ok K,
  fun K => (He.Fa.noat "Effect" "low").ok K,
  fun K => (He.Fa.noat "Effect" "high").ok K,
  fun K => (He.Fa.noat "Effect" "need").ok K,
  fun K => (He.Fa.noat "Effect" "room").ok K,
  fun K => (He.Fa.noat "Effect" "misses").ok K,
  fun K => (He.Fa.noat "Effect" "waste").ok K,
  fun K => (He.Fa.meth "Effect" "end").ok K,
  fun K => (He.Fa.meth "Effect" "missed").ok K,
  fun K => (He.Fa.meth "Effect" "thrown").ok K,
  fun K => (He.Fa.meth "Effect" "followed").ok K,
  fun K => (He.Fa.cls "Bakery").ok K,
  fun K => (He.Fa.mkr "Bakery").ok K,
  fun K => (He.Fa.noat "Bakery" "baking").ok K,
  fun K => (He.Fa.noat "Bakery" "wishes").ok K,
  fun K => (He.Fa.noat "Bakery" "days_kept").ok K,
  fun K => (He.Fa.noat "Bakery" "size").ok K,
  fun K => (He.Fa.noat "Bakery" "early").ok K,
  fun K => (He.Fa.noat "Bakery" "round").ok K,
  fun K => (He.Fa.noat "Bakery" "prefixes").ok K,
  fun K => (He.Fa.noat "Bakery" "settled").ok K,
  fun K => (He.Fa.meth "Bakery" "with_life").ok K,
  fun K => (He.Fa.meth "Bakery" "baking_more").ok K,
  fun K => (He.Fa.meth "Bakery" "baked_on").ok K,
  fun K => (He.Fa.meth "Bakery" "effect_of").ok K,
  fun K => (He.Fa.meth "Bakery" "start_of").ok K,
  fun K => (He.Fa.meth "Bakery" "stock").ok K,
  fun K => (He.Fa.meth "Bakery" "missed").ok K,
  fun K => (He.Fa.meth "Bakery" "thrown").ok K,
  fun K => (He.Fa.meth "Bakery" "sold").ok K,
  fun K => (He.Fa.meth "Bakery" "wished_before").ok K,
  fun K => (He.Fa.meth "Bakery" "totals").ok K,
  fun K => (He.Fa.meth "Bakery" "shelf").ok K,
  propB "Bakery" "bakes",
  propB "Bakery" "demands",
  propB "Bakery" "life",
  propB "Bakery" "settled_day",
  propB "Bakery" "long_run",
  cvalB "Bakery" "MAX_DAYS" (24),
  cvalB "Bakery" "MAX_LIFE" (30),
  fun K => (He.Fa.cls "LifeObserver").ok K,
  fun K => (He.Fa.mkr "LifeObserver").ok K,
  fun K => (He.Fa.noat "LifeObserver" "left").ok K,
  fun K => (He.Fa.noat "LifeObserver" "lives").ok K,
  fun K => (He.Fa.noat "LifeObserver" "noted").ok K,
  fun K => (He.Fa.meth "LifeObserver" "keep").ok K,
  fun K => (He.Fa.meth "LifeObserver" "see_sold").ok K,
  fun K => (He.Fa.meth "LifeObserver" "see_thrown").ok K,
  fun K => (He.Fa.meth "LifeObserver" "see_stock").ok K,
  fun K => (He.Fa.meth "LifeObserver" "telling_day").ok K,
  propB "LifeObserver" "possible_lives",
  propB "LifeObserver" "records",
  fun K => (He.Fa.exc "LoafError").ok K,
  linB "LoafError",
  fun K => (He.Fa.exm "LoafError" "LoafError" true).ok K,
  oexB "InvalidBakery",
  xnaB "InvalidBakery" "part",
  xnaB "InvalidBakery" "index",
  eisB "InvalidBakery",
  kisB "InvalidBakery" "Contradiction" false,
  kisB "InvalidBakery" "InvalidBakery" true,
  kisB "InvalidBakery" "InvalidDays" false,
  kisB "InvalidBakery" "InvalidNumber" false,
  kisTB "InvalidBakery" "ValueError" true,
  fun K => (He.Fa.exm "InvalidBakery" "LoafError" true).ok K,
  fun K => (He.Fa.exc "InvalidNumber").ok K,
  eisB "InvalidNumber",
  kisB "InvalidNumber" "Contradiction" false,
  kisB "InvalidNumber" "InvalidBakery" false,
  kisB "InvalidNumber" "InvalidDays" false,
  kisB "InvalidNumber" "InvalidNumber" true,
  kisTB "InvalidNumber" "ValueError" true,
  fun K => (He.Fa.exm "InvalidNumber" "LoafError" true).ok K,
  oexB "InvalidDays",
  xnaB "InvalidDays" "index",
  eisB "InvalidDays",
  kisB "InvalidDays" "Contradiction" false,
  kisB "InvalidDays" "InvalidBakery" false,
  kisB "InvalidDays" "InvalidDays" true,
  kisB "InvalidDays" "InvalidNumber" false,
  kisTB "InvalidDays" "ValueError" true,
  fun K => (He.Fa.exm "InvalidDays" "LoafError" true).ok K,
  fun K => (He.Fa.exc "Contradiction").ok K,
  eisB "Contradiction",
  kisB "Contradiction" "Contradiction" true,
  kisB "Contradiction" "InvalidBakery" false,
  kisB "Contradiction" "InvalidDays" false,
  kisB "Contradiction" "InvalidNumber" false,
  kisTB "Contradiction" "ValueError" true,
  fun K => (He.Fa.exm "Contradiction" "LoafError" true).ok K,
  fun K => decide ((tfL.map fun p => (He.cT K p).2).Nodup)]
structure Tx (K : PySem.W.Frag) (mg : Str → Option Value) : Prop where
  c : SaysA exL fnL K
  h : ∃ h : Heap, K.In h ∧ h.Ns mainGlobals mg
section
variable {K : PySem.W.Frag} {mg : Str → Option Value} (T : Tx K mg)
include T
theorem fg_Effect : mg "Effect" = some (.ref (He.ga K "Effect")) := by
  obtain ⟨h, hX, hG⟩ := T.h
  exact He.glo_ok hX hG (T.c.fact 0)
theorem fg_day_effect : mg "day_effect" = some (.ref (He.ga K "day_effect")) := by
  obtain ⟨h, hX, hG⟩ := T.h
  exact He.glo_ok hX hG (T.c.fact 1)
theorem fg_power : mg "power" = some (.ref (He.ga K "power")) := by
  obtain ⟨h, hX, hG⟩ := T.h
  exact He.glo_ok hX hG (T.c.fact 2)
theorem fg_LoafError : mg "LoafError" = some (.ref (He.ga K "LoafError")) := by
  obtain ⟨h, hX, hG⟩ := T.h
  exact He.glo_ok hX hG (T.c.fact 3)
theorem fg_InvalidBakery : mg "InvalidBakery" = some (.ref (He.ga K "InvalidBakery")) := by
  obtain ⟨h, hX, hG⟩ := T.h
  exact He.glo_ok hX hG (T.c.fact 4)
theorem fg_InvalidNumber : mg "InvalidNumber" = some (.ref (He.ga K "InvalidNumber")) := by
  obtain ⟨h, hX, hG⟩ := T.h
  exact He.glo_ok hX hG (T.c.fact 5)
theorem fg_InvalidDays : mg "InvalidDays" = some (.ref (He.ga K "InvalidDays")) := by
  obtain ⟨h, hX, hG⟩ := T.h
  exact He.glo_ok hX hG (T.c.fact 6)
theorem fg_Contradiction : mg "Contradiction" = some (.ref (He.ga K "Contradiction")) := by
  obtain ⟨h, hX, hG⟩ := T.h
  exact He.glo_ok hX hG (T.c.fact 7)
theorem fg_validate_number : mg "validate_number" = some (.ref (He.ga K "validate_number")) := by
  obtain ⟨h, hX, hG⟩ := T.h
  exact He.glo_ok hX hG (T.c.fact 8)
theorem fg_validate_amounts : mg "validate_amounts" = some (.ref (He.ga K "validate_amounts")) := by
  obtain ⟨h, hX, hG⟩ := T.h
  exact He.glo_ok hX hG (T.c.fact 9)
theorem fg_Bakery : mg "Bakery" = some (.ref (He.ga K "Bakery")) := by
  obtain ⟨h, hX, hG⟩ := T.h
  exact He.glo_ok hX hG (T.c.fact 10)
theorem fg_rounds_to_settle : mg "rounds_to_settle" = some (.ref (He.ga K "rounds_to_settle")) := by
  obtain ⟨h, hX, hG⟩ := T.h
  exact He.glo_ok hX hG (T.c.fact 11)
theorem fg_after : mg "after" = some (.ref (He.ga K "after")) := by
  obtain ⟨h, hX, hG⟩ := T.h
  exact He.glo_ok hX hG (T.c.fact 12)
theorem fg_settled_of : mg "settled_of" = some (.ref (He.ga K "settled_of")) := by
  obtain ⟨h, hX, hG⟩ := T.h
  exact He.glo_ok hX hG (T.c.fact 13)
theorem fg_played : mg "played" = some (.ref (He.ga K "played")) := by
  obtain ⟨h, hX, hG⟩ := T.h
  exact He.glo_ok hX hG (T.c.fact 14)
theorem fg_newest_first : mg "newest_first" = some (.ref (He.ga K "newest_first")) := by
  obtain ⟨h, hX, hG⟩ := T.h
  exact He.glo_ok hX hG (T.c.fact 15)
theorem fg_first_with : mg "first_with" = some (.ref (He.ga K "first_with")) := by
  obtain ⟨h, hX, hG⟩ := T.h
  exact He.glo_ok hX hG (T.c.fact 16)
theorem fg_next_missed : mg "next_missed" = some (.ref (He.ga K "next_missed")) := by
  obtain ⟨h, hX, hG⟩ := T.h
  exact He.glo_ok hX hG (T.c.fact 17)
theorem fg_next_thrown : mg "next_thrown" = some (.ref (He.ga K "next_thrown")) := by
  obtain ⟨h, hX, hG⟩ := T.h
  exact He.glo_ok hX hG (T.c.fact 18)
theorem fg_least_life : mg "least_life" = some (.ref (He.ga K "least_life")) := by
  obtain ⟨h, hX, hG⟩ := T.h
  exact He.glo_ok hX hG (T.c.fact 19)
theorem fg_least_baking : mg "least_baking" = some (.ref (He.ga K "least_baking")) := by
  obtain ⟨h, hX, hG⟩ := T.h
  exact He.glo_ok hX hG (T.c.fact 20)
theorem fg_LifeObserver : mg "LifeObserver" = some (.ref (He.ga K "LifeObserver")) := by
  obtain ⟨h, hX, hG⟩ := T.h
  exact He.glo_ok hX hG (T.c.fact 21)
theorem fg_law_mix : mg "_law_mix" = some (.ref (He.ga K "_law_mix")) := by
  obtain ⟨h, hX, hG⟩ := T.h
  exact He.glo_ok hX hG (T.c.fact 22)
theorem fg_law_next : mg "_law_next" = some (.ref (He.ga K "_law_next")) := by
  obtain ⟨h, hX, hG⟩ := T.h
  exact He.glo_ok hX hG (T.c.fact 23)
theorem fg_law_error : mg "_law_error" = some (.ref (He.ga K "_law_error")) := by
  obtain ⟨h, hX, hG⟩ := T.h
  exact He.glo_ok hX hG (T.c.fact 24)
theorem fg_law_amounts : mg "_law_amounts" = some (.ref (He.ga K "_law_amounts")) := by
  obtain ⟨h, hX, hG⟩ := T.h
  exact He.glo_ok hX hG (T.c.fact 25)
theorem fg_law_parts : mg "_law_parts" = some (.ref (He.ga K "_law_parts")) := by
  obtain ⟨h, hX, hG⟩ := T.h
  exact He.glo_ok hX hG (T.c.fact 26)
theorem fg_law : mg "law" = some (.ref (He.ga K "law")) := by
  obtain ⟨h, hX, hG⟩ := T.h
  exact He.glo_ok hX hG (T.c.fact 27)
theorem fn_ValueError : mg "ValueError" = none := by
  obtain ⟨h, hX, hG⟩ := T.h
  exact He.free_ok hX hG (T.c.fact 28)
theorem fn_enumerate : mg "enumerate" = none := by
  obtain ⟨h, hX, hG⟩ := T.h
  exact He.free_ok hX hG (T.c.fact 29)
theorem fn_int : mg "int" = none := by
  obtain ⟨h, hX, hG⟩ := T.h
  exact He.free_ok hX hG (T.c.fact 30)
theorem fn_isinstance : mg "isinstance" = none := by
  obtain ⟨h, hX, hG⟩ := T.h
  exact He.free_ok hX hG (T.c.fact 31)
theorem fn_len : mg "len" = none := by
  obtain ⟨h, hX, hG⟩ := T.h
  exact He.free_ok hX hG (T.c.fact 32)
theorem fn_list : mg "list" = none := by
  obtain ⟨h, hX, hG⟩ := T.h
  exact He.free_ok hX hG (T.c.fact 33)
theorem fn_max : mg "max" = none := by
  obtain ⟨h, hX, hG⟩ := T.h
  exact He.free_ok hX hG (T.c.fact 34)
theorem fn_min : mg "min" = none := by
  obtain ⟨h, hX, hG⟩ := T.h
  exact He.free_ok hX hG (T.c.fact 35)
theorem fn_property : mg "property" = none := by
  obtain ⟨h, hX, hG⟩ := T.h
  exact He.free_ok hX hG (T.c.fact 36)
theorem fn_range : mg "range" = none := by
  obtain ⟨h, hX, hG⟩ := T.h
  exact He.free_ok hX hG (T.c.fact 37)
theorem fn_sum : mg "sum" = none := by
  obtain ⟨h, hX, hG⟩ := T.h
  exact He.free_ok hX hG (T.c.fact 38)
theorem fn_tuple : mg "tuple" = none := by
  obtain ⟨h, hX, hG⟩ := T.h
  exact He.free_ok hX hG (T.c.fact 39)
theorem fi_MAX_AMOUNT : ∃ t, mg "MAX_AMOUNT" = some (.int (1000000000) t) := by
  obtain ⟨h, hX, hG⟩ := T.h
  exact He.int_ok hX hG (T.c.fact 40)
theorem fi_MAX_DAY : ∃ t, mg "MAX_DAY" = some (.int (1000000000000000000) t) := by
  obtain ⟨h, hX, hG⟩ := T.h
  exact He.int_ok hX hG (T.c.fact 41)
theorem fi_MAX_PLAYED : ∃ t, mg "MAX_PLAYED" = some (.int (1000) t) := by
  obtain ⟨h, hX, hG⟩ := T.h
  exact He.int_ok hX hG (T.c.fact 42)
theorem fi_MAX_MISSED : ∃ t, mg "MAX_MISSED" = some (.int (1000000000000) t) := by
  obtain ⟨h, hX, hG⟩ := T.h
  exact He.int_ok hX hG (T.c.fact 43)
theorem fc_Effect : Cls K (He.ga K "Effect") := He.cls_ok (T.c.fact 44)
theorem fmk_Effect : Mk K (He.ga K "Effect") (He.ma K (He.ga K "Effect") "__init__") := He.mkr_ok (T.c.fact 45)
theorem fna_Effect_shift : NoAttr K (He.ga K "Effect") "shift" := He.noat_ok (T.c.fact 46)
theorem fna_Effect_low : NoAttr K (He.ga K "Effect") "low" := He.noat_ok (T.c.fact 47)
theorem fna_Effect_high : NoAttr K (He.ga K "Effect") "high" := He.noat_ok (T.c.fact 48)
theorem fna_Effect_need : NoAttr K (He.ga K "Effect") "need" := He.noat_ok (T.c.fact 49)
theorem fna_Effect_room : NoAttr K (He.ga K "Effect") "room" := He.noat_ok (T.c.fact 50)
theorem fna_Effect_misses : NoAttr K (He.ga K "Effect") "misses" := He.noat_ok (T.c.fact 51)
theorem fna_Effect_waste : NoAttr K (He.ga K "Effect") "waste" := He.noat_ok (T.c.fact 52)
theorem fme_Effect_end : Meth K (He.ga K "Effect") "end" (He.ma K (He.ga K "Effect") "end") := He.meth_ok (T.c.fact 53)
theorem fme_Effect_missed : Meth K (He.ga K "Effect") "missed" (He.ma K (He.ga K "Effect") "missed") := He.meth_ok (T.c.fact 54)
theorem fme_Effect_thrown : Meth K (He.ga K "Effect") "thrown" (He.ma K (He.ga K "Effect") "thrown") := He.meth_ok (T.c.fact 55)
theorem fme_Effect_followed : Meth K (He.ga K "Effect") "followed" (He.ma K (He.ga K "Effect") "followed") := He.meth_ok (T.c.fact 56)
theorem fc_Bakery : Cls K (He.ga K "Bakery") := He.cls_ok (T.c.fact 57)
theorem fmk_Bakery : Mk K (He.ga K "Bakery") (He.ma K (He.ga K "Bakery") "__init__") := He.mkr_ok (T.c.fact 58)
theorem fna_Bakery_baking : NoAttr K (He.ga K "Bakery") "baking" := He.noat_ok (T.c.fact 59)
theorem fna_Bakery_wishes : NoAttr K (He.ga K "Bakery") "wishes" := He.noat_ok (T.c.fact 60)
theorem fna_Bakery_days_kept : NoAttr K (He.ga K "Bakery") "days_kept" := He.noat_ok (T.c.fact 61)
theorem fna_Bakery_size : NoAttr K (He.ga K "Bakery") "size" := He.noat_ok (T.c.fact 62)
theorem fna_Bakery_early : NoAttr K (He.ga K "Bakery") "early" := He.noat_ok (T.c.fact 63)
theorem fna_Bakery_round : NoAttr K (He.ga K "Bakery") "round" := He.noat_ok (T.c.fact 64)
theorem fna_Bakery_prefixes : NoAttr K (He.ga K "Bakery") "prefixes" := He.noat_ok (T.c.fact 65)
theorem fna_Bakery_settled : NoAttr K (He.ga K "Bakery") "settled" := He.noat_ok (T.c.fact 66)
theorem fme_Bakery_with_life : Meth K (He.ga K "Bakery") "with_life" (He.ma K (He.ga K "Bakery") "with_life") := He.meth_ok (T.c.fact 67)
theorem fme_Bakery_baking_more : Meth K (He.ga K "Bakery") "baking_more" (He.ma K (He.ga K "Bakery") "baking_more") := He.meth_ok (T.c.fact 68)
theorem fme_Bakery_baked_on : Meth K (He.ga K "Bakery") "baked_on" (He.ma K (He.ga K "Bakery") "baked_on") := He.meth_ok (T.c.fact 69)
theorem fme_Bakery_effect_of : Meth K (He.ga K "Bakery") "effect_of" (He.ma K (He.ga K "Bakery") "effect_of") := He.meth_ok (T.c.fact 70)
theorem fme_Bakery_start_of : Meth K (He.ga K "Bakery") "start_of" (He.ma K (He.ga K "Bakery") "start_of") := He.meth_ok (T.c.fact 71)
theorem fme_Bakery_stock : Meth K (He.ga K "Bakery") "stock" (He.ma K (He.ga K "Bakery") "stock") := He.meth_ok (T.c.fact 72)
theorem fme_Bakery_missed : Meth K (He.ga K "Bakery") "missed" (He.ma K (He.ga K "Bakery") "missed") := He.meth_ok (T.c.fact 73)
theorem fme_Bakery_thrown : Meth K (He.ga K "Bakery") "thrown" (He.ma K (He.ga K "Bakery") "thrown") := He.meth_ok (T.c.fact 74)
theorem fme_Bakery_sold : Meth K (He.ga K "Bakery") "sold" (He.ma K (He.ga K "Bakery") "sold") := He.meth_ok (T.c.fact 75)
theorem fme_Bakery_wished_before : Meth K (He.ga K "Bakery") "wished_before" (He.ma K (He.ga K "Bakery") "wished_before") := He.meth_ok (T.c.fact 76)
theorem fme_Bakery_totals : Meth K (He.ga K "Bakery") "totals" (He.ma K (He.ga K "Bakery") "totals") := He.meth_ok (T.c.fact 77)
theorem fme_Bakery_shelf : Meth K (He.ga K "Bakery") "shelf" (He.ma K (He.ga K "Bakery") "shelf") := He.meth_ok (T.c.fact 78)
theorem fpr_Bakery_bakes : (propB "Bakery" "bakes") K = true := T.c.fact 79
theorem fpr_Bakery_demands : (propB "Bakery" "demands") K = true := T.c.fact 80
theorem fpr_Bakery_life : (propB "Bakery" "life") K = true := T.c.fact 81
theorem fpr_Bakery_settled_day : (propB "Bakery" "settled_day") K = true := T.c.fact 82
theorem fpr_Bakery_long_run : (propB "Bakery" "long_run") K = true := T.c.fact 83
theorem fcv_Bakery_MAX_DAYS : ClX.CRead K (He.ga K "Bakery") (.type "type") ∧ ∃ u, ClX.CVal K (He.ga K "Bakery") (.type "type") "MAX_DAYS" (.int (24)) u := cval_ok (T.c.fact 84)
theorem fcv_Bakery_MAX_LIFE : ClX.CRead K (He.ga K "Bakery") (.type "type") ∧ ∃ u, ClX.CVal K (He.ga K "Bakery") (.type "type") "MAX_LIFE" (.int (30)) u := cval_ok (T.c.fact 85)
theorem fc_LifeObserver : Cls K (He.ga K "LifeObserver") := He.cls_ok (T.c.fact 86)
theorem fmk_LifeObserver : Mk K (He.ga K "LifeObserver") (He.ma K (He.ga K "LifeObserver") "__init__") := He.mkr_ok (T.c.fact 87)
theorem fna_LifeObserver_left : NoAttr K (He.ga K "LifeObserver") "left" := He.noat_ok (T.c.fact 88)
theorem fna_LifeObserver_lives : NoAttr K (He.ga K "LifeObserver") "lives" := He.noat_ok (T.c.fact 89)
theorem fna_LifeObserver_noted : NoAttr K (He.ga K "LifeObserver") "noted" := He.noat_ok (T.c.fact 90)
theorem fme_LifeObserver_keep : Meth K (He.ga K "LifeObserver") "keep" (He.ma K (He.ga K "LifeObserver") "keep") := He.meth_ok (T.c.fact 91)
theorem fme_LifeObserver_see_sold : Meth K (He.ga K "LifeObserver") "see_sold" (He.ma K (He.ga K "LifeObserver") "see_sold") := He.meth_ok (T.c.fact 92)
theorem fme_LifeObserver_see_thrown : Meth K (He.ga K "LifeObserver") "see_thrown" (He.ma K (He.ga K "LifeObserver") "see_thrown") := He.meth_ok (T.c.fact 93)
theorem fme_LifeObserver_see_stock : Meth K (He.ga K "LifeObserver") "see_stock" (He.ma K (He.ga K "LifeObserver") "see_stock") := He.meth_ok (T.c.fact 94)
theorem fme_LifeObserver_telling_day : Meth K (He.ga K "LifeObserver") "telling_day" (He.ma K (He.ga K "LifeObserver") "telling_day") := He.meth_ok (T.c.fact 95)
theorem fpr_LifeObserver_possible_lives : (propB "LifeObserver" "possible_lives") K = true := T.c.fact 96
theorem fpr_LifeObserver_records : (propB "LifeObserver" "records") K = true := T.c.fact 97
theorem fex_LoafError : PySem.W.excIn K (He.ga K "LoafError") He.veBase "ValueError.__new__" = true ∧ PySem.W.keepIn K (.ref (He.ga K "LoafError")) = true ∧ PySem.W.subIn K (.ref (He.ga K "LoafError")) (.type "BaseException") = some true ∧ PySem.W.typeIn K (.ref (He.ga K "LoafError")) = some (.type "type") := He.exc_ok (T.c.fact 98)
theorem fli_LoafError : ClX.CRead K (He.ga K "LoafError") (.type "type") ∧ PySem.W.findCls K (.ref (He.ga K "LoafError")) (.type "type") "__init__" = some (.val (.builtin "ValueError.__init__")) := lin_ok (T.c.fact 99)
theorem fxm_LoafError_LoafError : PySem.W.exmOne K (.ref (He.ga K "LoafError")) (.ref (He.ga K "LoafError")) = some true := He.exm_ok (T.c.fact 100)
theorem fox_InvalidBakery : Oex K "InvalidBakery" := oex_ok (T.c.fact 101)
theorem fxn_InvalidBakery_part : PySem.W.findIn K (.ref (He.ga K "InvalidBakery")) "part" = some none := xna_ok (T.c.fact 102)
theorem fxn_InvalidBakery_index : PySem.W.findIn K (.ref (He.ga K "InvalidBakery")) "index" = some none := xna_ok (T.c.fact 103)
theorem fei_InvalidBakery : ExcC K (He.ga K "InvalidBakery") := eis_ok (T.c.fact 104)
theorem fki_InvalidBakery_Contradiction : PySem.W.kitOne K (.ref (He.ga K "InvalidBakery")) (.ref (He.ga K "Contradiction")) = some false := of_decide_eq_true (T.c.fact 105)
theorem fki_InvalidBakery_InvalidBakery : PySem.W.kitOne K (.ref (He.ga K "InvalidBakery")) (.ref (He.ga K "InvalidBakery")) = some true := of_decide_eq_true (T.c.fact 106)
theorem fki_InvalidBakery_InvalidDays : PySem.W.kitOne K (.ref (He.ga K "InvalidBakery")) (.ref (He.ga K "InvalidDays")) = some false := of_decide_eq_true (T.c.fact 107)
theorem fki_InvalidBakery_InvalidNumber : PySem.W.kitOne K (.ref (He.ga K "InvalidBakery")) (.ref (He.ga K "InvalidNumber")) = some false := of_decide_eq_true (T.c.fact 108)
theorem fki_InvalidBakery_ValueError : PySem.W.kitOne K (.ref (He.ga K "InvalidBakery")) (.type "ValueError") = some true := of_decide_eq_true (T.c.fact 109)
theorem fxm_InvalidBakery_LoafError : PySem.W.exmOne K (.ref (He.ga K "InvalidBakery")) (.ref (He.ga K "LoafError")) = some true := He.exm_ok (T.c.fact 110)
theorem fex_InvalidNumber : PySem.W.excIn K (He.ga K "InvalidNumber") He.veBase "ValueError.__new__" = true ∧ PySem.W.keepIn K (.ref (He.ga K "InvalidNumber")) = true ∧ PySem.W.subIn K (.ref (He.ga K "InvalidNumber")) (.type "BaseException") = some true ∧ PySem.W.typeIn K (.ref (He.ga K "InvalidNumber")) = some (.type "type") := He.exc_ok (T.c.fact 111)
theorem fei_InvalidNumber : ExcC K (He.ga K "InvalidNumber") := eis_ok (T.c.fact 112)
theorem fki_InvalidNumber_Contradiction : PySem.W.kitOne K (.ref (He.ga K "InvalidNumber")) (.ref (He.ga K "Contradiction")) = some false := of_decide_eq_true (T.c.fact 113)
theorem fki_InvalidNumber_InvalidBakery : PySem.W.kitOne K (.ref (He.ga K "InvalidNumber")) (.ref (He.ga K "InvalidBakery")) = some false := of_decide_eq_true (T.c.fact 114)
theorem fki_InvalidNumber_InvalidDays : PySem.W.kitOne K (.ref (He.ga K "InvalidNumber")) (.ref (He.ga K "InvalidDays")) = some false := of_decide_eq_true (T.c.fact 115)
theorem fki_InvalidNumber_InvalidNumber : PySem.W.kitOne K (.ref (He.ga K "InvalidNumber")) (.ref (He.ga K "InvalidNumber")) = some true := of_decide_eq_true (T.c.fact 116)
theorem fki_InvalidNumber_ValueError : PySem.W.kitOne K (.ref (He.ga K "InvalidNumber")) (.type "ValueError") = some true := of_decide_eq_true (T.c.fact 117)
theorem fxm_InvalidNumber_LoafError : PySem.W.exmOne K (.ref (He.ga K "InvalidNumber")) (.ref (He.ga K "LoafError")) = some true := He.exm_ok (T.c.fact 118)
theorem fox_InvalidDays : Oex K "InvalidDays" := oex_ok (T.c.fact 119)
theorem fxn_InvalidDays_index : PySem.W.findIn K (.ref (He.ga K "InvalidDays")) "index" = some none := xna_ok (T.c.fact 120)
theorem fei_InvalidDays : ExcC K (He.ga K "InvalidDays") := eis_ok (T.c.fact 121)
theorem fki_InvalidDays_Contradiction : PySem.W.kitOne K (.ref (He.ga K "InvalidDays")) (.ref (He.ga K "Contradiction")) = some false := of_decide_eq_true (T.c.fact 122)
theorem fki_InvalidDays_InvalidBakery : PySem.W.kitOne K (.ref (He.ga K "InvalidDays")) (.ref (He.ga K "InvalidBakery")) = some false := of_decide_eq_true (T.c.fact 123)
theorem fki_InvalidDays_InvalidDays : PySem.W.kitOne K (.ref (He.ga K "InvalidDays")) (.ref (He.ga K "InvalidDays")) = some true := of_decide_eq_true (T.c.fact 124)
theorem fki_InvalidDays_InvalidNumber : PySem.W.kitOne K (.ref (He.ga K "InvalidDays")) (.ref (He.ga K "InvalidNumber")) = some false := of_decide_eq_true (T.c.fact 125)
theorem fki_InvalidDays_ValueError : PySem.W.kitOne K (.ref (He.ga K "InvalidDays")) (.type "ValueError") = some true := of_decide_eq_true (T.c.fact 126)
theorem fxm_InvalidDays_LoafError : PySem.W.exmOne K (.ref (He.ga K "InvalidDays")) (.ref (He.ga K "LoafError")) = some true := He.exm_ok (T.c.fact 127)
theorem fex_Contradiction : PySem.W.excIn K (He.ga K "Contradiction") He.veBase "ValueError.__new__" = true ∧ PySem.W.keepIn K (.ref (He.ga K "Contradiction")) = true ∧ PySem.W.subIn K (.ref (He.ga K "Contradiction")) (.type "BaseException") = some true ∧ PySem.W.typeIn K (.ref (He.ga K "Contradiction")) = some (.type "type") := He.exc_ok (T.c.fact 128)
theorem fei_Contradiction : ExcC K (He.ga K "Contradiction") := eis_ok (T.c.fact 129)
theorem fki_Contradiction_Contradiction : PySem.W.kitOne K (.ref (He.ga K "Contradiction")) (.ref (He.ga K "Contradiction")) = some true := of_decide_eq_true (T.c.fact 130)
theorem fki_Contradiction_InvalidBakery : PySem.W.kitOne K (.ref (He.ga K "Contradiction")) (.ref (He.ga K "InvalidBakery")) = some false := of_decide_eq_true (T.c.fact 131)
theorem fki_Contradiction_InvalidDays : PySem.W.kitOne K (.ref (He.ga K "Contradiction")) (.ref (He.ga K "InvalidDays")) = some false := of_decide_eq_true (T.c.fact 132)
theorem fki_Contradiction_InvalidNumber : PySem.W.kitOne K (.ref (He.ga K "Contradiction")) (.ref (He.ga K "InvalidNumber")) = some false := of_decide_eq_true (T.c.fact 133)
theorem fki_Contradiction_ValueError : PySem.W.kitOne K (.ref (He.ga K "Contradiction")) (.type "ValueError") = some true := of_decide_eq_true (T.c.fact 134)
theorem fxm_Contradiction_LoafError : PySem.W.exmOne K (.ref (He.ga K "Contradiction")) (.ref (He.ga K "LoafError")) = some true := He.exm_ok (T.c.fact 135)
theorem ftabs : (fun K => decide ((tfL.map fun p => (He.cT K p).2).Nodup)) K = true := T.c.fact 136
theorem fn_Effect_init : ∃ fd, (d_Effect_init).Fn K fd := T.c.fn_ 0
theorem fn_Effect_end : ∃ fd, (d_Effect_end).Fn K fd := T.c.fn_ 1
theorem fn_Effect_missed : ∃ fd, (d_Effect_missed).Fn K fd := T.c.fn_ 2
theorem fn_Effect_thrown : ∃ fd, (d_Effect_thrown).Fn K fd := T.c.fn_ 3
theorem fn_Effect_followed : ∃ fd, (d_Effect_followed).Fn K fd := T.c.fn_ 4
theorem fn_day_effect : ∃ fd, (d_day_effect).Fn K fd := T.c.fn_ 5
theorem fn_power : ∃ fd, (d_power).Fn K fd := T.c.fn_ 6
theorem fn_InvalidBakery_init : ∃ fd, (d_InvalidBakery_init).Fn K fd := T.c.fn_ 7
theorem fn_InvalidDays_init : ∃ fd, (d_InvalidDays_init).Fn K fd := T.c.fn_ 8
theorem fn_validate_number : ∃ fd, (d_validate_number).Fn K fd := T.c.fn_ 9
theorem fn_validate_amounts : ∃ fd, (d_validate_amounts).Fn K fd := T.c.fn_ 10
theorem fn_Bakery_init : ∃ fd, (d_Bakery_init).Fn K fd := T.c.fn_ 11
theorem fn_Bakery_bakes : ∃ fd, (d_Bakery_bakes).Fn K fd := T.c.fn_ 12
theorem fn_Bakery_demands : ∃ fd, (d_Bakery_demands).Fn K fd := T.c.fn_ 13
theorem fn_Bakery_life : ∃ fd, (d_Bakery_life).Fn K fd := T.c.fn_ 14
theorem fn_Bakery_settled_day : ∃ fd, (d_Bakery_settled_day).Fn K fd := T.c.fn_ 15
theorem fn_Bakery_long_run : ∃ fd, (d_Bakery_long_run).Fn K fd := T.c.fn_ 16
theorem fn_Bakery_with_life : ∃ fd, (d_Bakery_with_life).Fn K fd := T.c.fn_ 17
theorem fn_Bakery_baking_more : ∃ fd, (d_Bakery_baking_more).Fn K fd := T.c.fn_ 18
theorem fn_Bakery_baked_on : ∃ fd, (d_Bakery_baked_on).Fn K fd := T.c.fn_ 19
theorem fn_Bakery_effect_of : ∃ fd, (d_Bakery_effect_of).Fn K fd := T.c.fn_ 20
theorem fn_Bakery_start_of : ∃ fd, (d_Bakery_start_of).Fn K fd := T.c.fn_ 21
theorem fn_Bakery_stock : ∃ fd, (d_Bakery_stock).Fn K fd := T.c.fn_ 22
theorem fn_Bakery_missed : ∃ fd, (d_Bakery_missed).Fn K fd := T.c.fn_ 23
theorem fn_Bakery_thrown : ∃ fd, (d_Bakery_thrown).Fn K fd := T.c.fn_ 24
theorem fn_Bakery_sold : ∃ fd, (d_Bakery_sold).Fn K fd := T.c.fn_ 25
theorem fn_Bakery_wished_before : ∃ fd, (d_Bakery_wished_before).Fn K fd := T.c.fn_ 26
theorem fn_Bakery_totals : ∃ fd, (d_Bakery_totals).Fn K fd := T.c.fn_ 27
theorem fn_Bakery_shelf : ∃ fd, (d_Bakery_shelf).Fn K fd := T.c.fn_ 28
theorem fn_rounds_to_settle : ∃ fd, (d_rounds_to_settle).Fn K fd := T.c.fn_ 29
theorem fn_after : ∃ fd, (d_after).Fn K fd := T.c.fn_ 30
theorem fn_settled_of : ∃ fd, (d_settled_of).Fn K fd := T.c.fn_ 31
theorem fn_played : ∃ fd, (d_played).Fn K fd := T.c.fn_ 32
theorem fn_newest_first : ∃ fd, (d_newest_first).Fn K fd := T.c.fn_ 33
theorem fn_first_with : ∃ fd, (d_first_with).Fn K fd := T.c.fn_ 34
theorem fn_next_missed : ∃ fd, (d_next_missed).Fn K fd := T.c.fn_ 35
theorem fn_next_thrown : ∃ fd, (d_next_thrown).Fn K fd := T.c.fn_ 36
theorem fn_least_life : ∃ fd, (d_least_life).Fn K fd := T.c.fn_ 37
theorem fn_least_baking : ∃ fd, (d_least_baking).Fn K fd := T.c.fn_ 38
theorem fn_LifeObserver_init : ∃ fd, (d_LifeObserver_init).Fn K fd := T.c.fn_ 39
theorem fn_LifeObserver_possible_lives : ∃ fd, (d_LifeObserver_possible_lives).Fn K fd := T.c.fn_ 40
theorem fn_LifeObserver_records : ∃ fd, (d_LifeObserver_records).Fn K fd := T.c.fn_ 41
theorem fn_LifeObserver_keep : ∃ fd, (d_LifeObserver_keep).Fn K fd := T.c.fn_ 42
theorem fn_LifeObserver_see_sold : ∃ fd, (d_LifeObserver_see_sold).Fn K fd := T.c.fn_ 43
theorem fn_LifeObserver_see_thrown : ∃ fd, (d_LifeObserver_see_thrown).Fn K fd := T.c.fn_ 44
theorem fn_LifeObserver_see_stock : ∃ fd, (d_LifeObserver_see_stock).Fn K fd := T.c.fn_ 45
theorem fn_LifeObserver_telling_day : ∃ fd, (d_LifeObserver_telling_day).Fn K fd := T.c.fn_ 46
theorem fn_law_mix : ∃ fd, (d_law_mix).Fn K fd := T.c.fn_ 47
theorem fn_law_next : ∃ fd, (d_law_next).Fn K fd := T.c.fn_ 48
theorem fn_law_error : ∃ fd, (d_law_error).Fn K fd := T.c.fn_ 49
theorem fn_law_amounts : ∃ fd, (d_law_amounts).Fn K fd := T.c.fn_ 50
theorem fn_law_parts : ∃ fd, (d_law_parts).Fn K fd := T.c.fn_ 51
theorem fn_law : ∃ fd, (d_law).Fn K fd := T.c.fn_ 52
end
structure TxB (K : PySem.W.Frag) (mg : Str → Option Value) (base : Heap) : Prop where
  t : Tx K mg
  tb : ∀ p ∈ tfL, LamX.TabB base mg (He.cT K p).1 (He.cT K p).2
abbrev TL (K : PySem.W.Frag) : List (Addr × Str) := [((He.cT K ("next_missed", none)).2, (("next_missed" : Str) ++ ".<locals>.") ++ "<lambda>"), ((He.cT K ("next_thrown", none)).2, (("next_thrown" : Str) ++ ".<locals>.") ++ "<lambda>"), ((He.cT K ("law", none)).2, (("law" : Str) ++ ".<locals>.") ++ "<lambda>")]
theorem tb_next_missed {K : PySem.W.Frag} {mg : Str → Option Value} {base : Heap} (B : TxB K mg base) : LamX.TabB base mg (He.cT K ("next_missed", none)).1 (He.cT K ("next_missed", none)).2 := B.tb _ List.mem_cons_self
theorem tm_next_missed {K : PySem.W.Frag} : ((He.cT K ("next_missed", none)).2, (("next_missed" : Str) ++ ".<locals>.") ++ "<lambda>") ∈ TL K := List.mem_cons_self
theorem tu_next_missed {K : PySem.W.Frag} {mg : Str → Option Value} {base : Heap} (B : TxB K mg base) : ∀ p ∈ TL K, p.1 = (He.cT K ("next_missed", none)).2 → p.2 = (("next_missed" : Str) ++ ".<locals>.") ++ "<lambda>" := fun p hp e => congrArg Prod.snd (tl_uniq (l := TL K) (of_decide_eq_true (show decide (((TL K).map fun z => z.1).Nodup) = true from ftabs B.t)) hp tm_next_missed e)
theorem tb_next_thrown {K : PySem.W.Frag} {mg : Str → Option Value} {base : Heap} (B : TxB K mg base) : LamX.TabB base mg (He.cT K ("next_thrown", none)).1 (He.cT K ("next_thrown", none)).2 := B.tb _ (List.mem_cons_of_mem _ List.mem_cons_self)
theorem tm_next_thrown {K : PySem.W.Frag} : ((He.cT K ("next_thrown", none)).2, (("next_thrown" : Str) ++ ".<locals>.") ++ "<lambda>") ∈ TL K := (List.mem_cons_of_mem _ List.mem_cons_self)
theorem tu_next_thrown {K : PySem.W.Frag} {mg : Str → Option Value} {base : Heap} (B : TxB K mg base) : ∀ p ∈ TL K, p.1 = (He.cT K ("next_thrown", none)).2 → p.2 = (("next_thrown" : Str) ++ ".<locals>.") ++ "<lambda>" := fun p hp e => congrArg Prod.snd (tl_uniq (l := TL K) (of_decide_eq_true (show decide (((TL K).map fun z => z.1).Nodup) = true from ftabs B.t)) hp tm_next_thrown e)
theorem tb_law {K : PySem.W.Frag} {mg : Str → Option Value} {base : Heap} (B : TxB K mg base) : LamX.TabB base mg (He.cT K ("law", none)).1 (He.cT K ("law", none)).2 := B.tb _ (List.mem_cons_of_mem _ (List.mem_cons_of_mem _ List.mem_cons_self))
theorem tm_law {K : PySem.W.Frag} : ((He.cT K ("law", none)).2, (("law" : Str) ++ ".<locals>.") ++ "<lambda>") ∈ TL K := (List.mem_cons_of_mem _ (List.mem_cons_of_mem _ List.mem_cons_self))
theorem tu_law {K : PySem.W.Frag} {mg : Str → Option Value} {base : Heap} (B : TxB K mg base) : ∀ p ∈ TL K, p.1 = (He.cT K ("law", none)).2 → p.2 = (("law" : Str) ++ ".<locals>.") ++ "<lambda>" := fun p hp e => congrArg Prod.snd (tl_uniq (l := TL K) (of_decide_eq_true (show decide (((TL K).map fun z => z.1).Nodup) = true from ftabs B.t)) hp tm_law e)
abbrev N_next_missed : List Str := ["bakery", "day"]
def lm_next_missed_0 : LamD := lamAt (defBody s_next_missed) [1] [3]
theorem ns_next_missed_0 : NdefX.NScope ["one", "bakery"] (["one"] : List Str) (["bakery"] : List Str) lm_next_missed_0.scope := NdefX.nscope_by (by decide +kernel)
theorem cap_next_missed_0 : capB N_next_missed (defScope s_next_missed) lm_next_missed_0.scope ["bakery"] [0] = true := by decide +kernel
theorem lb_next_missed_0 : LBind lm_next_missed_0 ["one"] [] := lbind0 fun F doc pm ctv us hd he hl => by
  obtain ⟨_, _, _, _, _⟩ := F
  cases hd
  cases he
  match us, hl with
  | [_], _ => rfl
abbrev N_next_thrown : List Str := ["bakery", "day"]
def lm_next_thrown_0 : LamD := lamAt (defBody s_next_thrown) [1] [3]
theorem ns_next_thrown_0 : NdefX.NScope ["one", "bakery"] (["one"] : List Str) (["bakery"] : List Str) lm_next_thrown_0.scope := NdefX.nscope_by (by decide +kernel)
theorem cap_next_thrown_0 : capB N_next_thrown (defScope s_next_thrown) lm_next_thrown_0.scope ["bakery"] [0] = true := by decide +kernel
theorem lb_next_thrown_0 : LBind lm_next_thrown_0 ["one"] [] := lbind0 fun F doc pm ctv us hd he hl => by
  obtain ⟨_, _, _, _, _⟩ := F
  cases hd
  cases he
  match us, hl with
  | [_], _ => rfl
abbrev N_law : List Str := ["_law_script", "_law_h", "_law_turn", "_law_bakes", "_law_demands", "_law_life", "_law_bakery", "_law_some", "_law_number", "_law_due", "_law_works", "_law_call", "_law_observer", "_law_far"]
def lm_law_0 : LamD := lamAt (defBody s_law) [1, 5] [0]
theorem ns_law_0 : NdefX.NScope ["_law_number", "_law_bakery"] ([] : List Str) (["_law_number", "_law_bakery"] : List Str) lm_law_0.scope := NdefX.nscope_by (by decide +kernel)
theorem cap_law_0 : capB N_law (defScope s_law) lm_law_0.scope ["_law_number", "_law_bakery"] [8, 6] = true := by decide +kernel
theorem lb_law_0 : LBind lm_law_0 [] [] := lbind0 fun F doc pm ctv us hd he hl => by
  obtain ⟨_, _, _, _, _⟩ := F
  cases hd
  cases he
  match us, hl with
  | [], _ => rfl
def lm_law_1 : LamD := lamAt (defBody s_law) [1, 5] [1]
theorem ns_law_1 : NdefX.NScope ["_law_a", "_law_number", "_law_bakery"] (["_law_a"] : List Str) (["_law_number", "_law_bakery"] : List Str) lm_law_1.scope := NdefX.nscope_by (by decide +kernel)
theorem cap_law_1 : capB N_law (defScope s_law) lm_law_1.scope ["_law_number", "_law_bakery"] [8, 6] = true := by decide +kernel
theorem lb_law_1 : LBind lm_law_1 ["_law_a"] [.int 0] := lbind1 fun F doc pm ctv hd => by
  obtain ⟨_, _, _, _, _⟩ := F
  cases hd
  exact ⟨_, rfl, fun _ => rfl⟩
def lm_law_2 : LamD := lamAt (defBody s_law) [1, 5] [2]
theorem ns_law_2 : NdefX.NScope ["_law_b", "_law_number", "_law_bakery"] (["_law_b"] : List Str) (["_law_number", "_law_bakery"] : List Str) lm_law_2.scope := NdefX.nscope_by (by decide +kernel)
theorem cap_law_2 : capB N_law (defScope s_law) lm_law_2.scope ["_law_number", "_law_bakery"] [8, 6] = true := by decide +kernel
theorem lb_law_2 : LBind lm_law_2 ["_law_b"] [.int 0] := lbind1 fun F doc pm ctv hd => by
  obtain ⟨_, _, _, _, _⟩ := F
  cases hd
  exact ⟨_, rfl, fun _ => rfl⟩
def lm_law_3 : LamD := lamAt (defBody s_law) [1, 6] [1, 0]
theorem ns_law_3 : NdefX.NScope ["_law_number", "_law_bakery"] ([] : List Str) (["_law_number", "_law_bakery"] : List Str) lm_law_3.scope := NdefX.nscope_by (by decide +kernel)
theorem cap_law_3 : capB N_law (defScope s_law) lm_law_3.scope ["_law_number", "_law_bakery"] [8, 6] = true := by decide +kernel
theorem lb_law_3 : LBind lm_law_3 [] [] := lbind0 fun F doc pm ctv us hd he hl => by
  obtain ⟨_, _, _, _, _⟩ := F
  cases hd
  cases he
  match us, hl with
  | [], _ => rfl
def lm_law_4 : LamD := lamAt (defBody s_law) [1, 6] [1, 1]
theorem ns_law_4 : NdefX.NScope ["_law_a", "_law_number", "_law_bakery"] (["_law_a"] : List Str) (["_law_number", "_law_bakery"] : List Str) lm_law_4.scope := NdefX.nscope_by (by decide +kernel)
theorem cap_law_4 : capB N_law (defScope s_law) lm_law_4.scope ["_law_number", "_law_bakery"] [8, 6] = true := by decide +kernel
theorem lb_law_4 : LBind lm_law_4 ["_law_a"] [.int 0] := lbind1 fun F doc pm ctv hd => by
  obtain ⟨_, _, _, _, _⟩ := F
  cases hd
  exact ⟨_, rfl, fun _ => rfl⟩
def lm_law_5 : LamD := lamAt (defBody s_law) [1, 6] [1, 2]
theorem ns_law_5 : NdefX.NScope ["_law_b", "_law_number", "_law_bakery"] (["_law_b"] : List Str) (["_law_number", "_law_bakery"] : List Str) lm_law_5.scope := NdefX.nscope_by (by decide +kernel)
theorem cap_law_5 : capB N_law (defScope s_law) lm_law_5.scope ["_law_number", "_law_bakery"] [8, 6] = true := by decide +kernel
theorem lb_law_5 : LBind lm_law_5 ["_law_b"] [.int 0] := lbind1 fun F doc pm ctv hd => by
  obtain ⟨_, _, _, _, _⟩ := F
  cases hd
  exact ⟨_, rfl, fun _ => rfl⟩
def lm_law_6 : LamD := lamAt (defBody s_law) [1, 7] [1, 0]
theorem ns_law_6 : NdefX.NScope ["_law_bakery", "_law_number"] ([] : List Str) (["_law_bakery", "_law_number"] : List Str) lm_law_6.scope := NdefX.nscope_by (by decide +kernel)
theorem cap_law_6 : capB N_law (defScope s_law) lm_law_6.scope ["_law_bakery", "_law_number"] [6, 8] = true := by decide +kernel
theorem lb_law_6 : LBind lm_law_6 [] [] := lbind0 fun F doc pm ctv us hd he hl => by
  obtain ⟨_, _, _, _, _⟩ := F
  cases hd
  cases he
  match us, hl with
  | [], _ => rfl
def lm_law_7 : LamD := lamAt (defBody s_law) [1, 7] [1, 1]
theorem ns_law_7 : NdefX.NScope ["_law_a", "_law_bakery", "_law_number"] (["_law_a"] : List Str) (["_law_bakery", "_law_number"] : List Str) lm_law_7.scope := NdefX.nscope_by (by decide +kernel)
theorem cap_law_7 : capB N_law (defScope s_law) lm_law_7.scope ["_law_bakery", "_law_number"] [6, 8] = true := by decide +kernel
theorem lb_law_7 : LBind lm_law_7 ["_law_a"] [.int 0] := lbind1 fun F doc pm ctv hd => by
  obtain ⟨_, _, _, _, _⟩ := F
  cases hd
  exact ⟨_, rfl, fun _ => rfl⟩
def lm_law_8 : LamD := lamAt (defBody s_law) [1, 10] [0]
theorem ns_law_8 : NdefX.NScope ["_law_bakery", "_law_number"] ([] : List Str) (["_law_bakery", "_law_number"] : List Str) lm_law_8.scope := NdefX.nscope_by (by decide +kernel)
theorem cap_law_8 : capB N_law (defScope s_law) lm_law_8.scope ["_law_bakery", "_law_number"] [6, 8] = true := by decide +kernel
theorem lb_law_8 : LBind lm_law_8 [] [] := lbind0 fun F doc pm ctv us hd he hl => by
  obtain ⟨_, _, _, _, _⟩ := F
  cases hd
  cases he
  match us, hl with
  | [], _ => rfl
def lm_law_9 : LamD := lamAt (defBody s_law) [1, 10] [1]
theorem ns_law_9 : NdefX.NScope ["_law_a", "_law_bakery", "_law_number"] (["_law_a"] : List Str) (["_law_bakery", "_law_number"] : List Str) lm_law_9.scope := NdefX.nscope_by (by decide +kernel)
theorem cap_law_9 : capB N_law (defScope s_law) lm_law_9.scope ["_law_bakery", "_law_number"] [6, 8] = true := by decide +kernel
theorem lb_law_9 : LBind lm_law_9 ["_law_a"] [.int 0] := lbind1 fun F doc pm ctv hd => by
  obtain ⟨_, _, _, _, _⟩ := F
  cases hd
  exact ⟨_, rfl, fun _ => rfl⟩
def lm_law_10 : LamD := lamAt (defBody s_law) [1, 12] [0, 1]
theorem ns_law_10 : NdefX.NScope ["_law_bakery", "_law_number"] ([] : List Str) (["_law_bakery", "_law_number"] : List Str) lm_law_10.scope := NdefX.nscope_by (by decide +kernel)
theorem cap_law_10 : capB N_law (defScope s_law) lm_law_10.scope ["_law_bakery", "_law_number"] [6, 8] = true := by decide +kernel
theorem lb_law_10 : LBind lm_law_10 [] [] := lbind0 fun F doc pm ctv us hd he hl => by
  obtain ⟨_, _, _, _, _⟩ := F
  cases hd
  cases he
  match us, hl with
  | [], _ => rfl
def lm_law_11 : LamD := lamAt (defBody s_law) [1, 14] [0]
theorem ns_law_11 : NdefX.NScope ["_law_far", "_law_observer"] ([] : List Str) (["_law_far", "_law_observer"] : List Str) lm_law_11.scope := NdefX.nscope_by (by decide +kernel)
theorem cap_law_11 : capB N_law (defScope s_law) lm_law_11.scope ["_law_far", "_law_observer"] [13, 12] = true := by decide +kernel
theorem lb_law_11 : LBind lm_law_11 [] [] := lbind0 fun F doc pm ctv us hd he hl => by
  obtain ⟨_, _, _, _, _⟩ := F
  cases hd
  cases he
  match us, hl with
  | [], _ => rfl
def lm_law_12 : LamD := lamAt (defBody s_law) [1, 14] [1]
theorem ns_law_12 : NdefX.NScope ["_law_a", "_law_far", "_law_observer"] (["_law_a"] : List Str) (["_law_far", "_law_observer"] : List Str) lm_law_12.scope := NdefX.nscope_by (by decide +kernel)
theorem cap_law_12 : capB N_law (defScope s_law) lm_law_12.scope ["_law_far", "_law_observer"] [13, 12] = true := by decide +kernel
theorem lb_law_12 : LBind lm_law_12 ["_law_a"] [.int 0] := lbind1 fun F doc pm ctv hd => by
  obtain ⟨_, _, _, _, _⟩ := F
  cases hd
  exact ⟨_, rfl, fun _ => rfl⟩
def lm_law_13 : LamD := lamAt (defBody s_law) [1, 15] [1]
theorem ns_law_13 : NdefX.NScope ["_law_far", "_law_observer"] ([] : List Str) (["_law_far", "_law_observer"] : List Str) lm_law_13.scope := NdefX.nscope_by (by decide +kernel)
theorem cap_law_13 : capB N_law (defScope s_law) lm_law_13.scope ["_law_far", "_law_observer"] [13, 12] = true := by decide +kernel
theorem lb_law_13 : LBind lm_law_13 [] [] := lbind0 fun F doc pm ctv us hd he hl => by
  obtain ⟨_, _, _, _, _⟩ := F
  cases hd
  cases he
  match us, hl with
  | [], _ => rfl
def lm_law_14 : LamD := lamAt (defBody s_law) [1, 17] [0, 1]
theorem ns_law_14 : NdefX.NScope ["_law_bakes", "_law_demands"] ([] : List Str) (["_law_bakes", "_law_demands"] : List Str) lm_law_14.scope := NdefX.nscope_by (by decide +kernel)
theorem cap_law_14 : capB N_law (defScope s_law) lm_law_14.scope ["_law_bakes", "_law_demands"] [3, 4] = true := by decide +kernel
theorem lb_law_14 : LBind lm_law_14 [] [] := lbind0 fun F doc pm ctv us hd he hl => by
  obtain ⟨_, _, _, _, _⟩ := F
  cases hd
  cases he
  match us, hl with
  | [], _ => rfl
theorem sc_Effect_init : FnScope ["self", "shift", "low", "high", "need", "room", "misses", "waste"] ["self", "shift", "low", "high", "need", "room", "misses", "waste"] (defScope s_Effect_init) := ⟨rfl, rfl, rfl, by decide +kernel, rfl, by decide +kernel, by decide +kernel⟩
theorem sc_Effect_end : FnScope ["self", "stock"] ["self", "stock"] (defScope s_Effect_end) := ⟨rfl, rfl, rfl, by decide +kernel, rfl, by decide +kernel, by decide +kernel⟩
theorem sc_Effect_missed : FnScope ["self", "stock"] ["self", "stock"] (defScope s_Effect_missed) := ⟨rfl, rfl, rfl, by decide +kernel, rfl, by decide +kernel, by decide +kernel⟩
theorem sc_Effect_thrown : FnScope ["self", "stock"] ["self", "stock"] (defScope s_Effect_thrown) := ⟨rfl, rfl, rfl, by decide +kernel, rfl, by decide +kernel, by decide +kernel⟩
theorem sc_Effect_followed : FnScope ["self", "other", "low", "high", "need", "room", "misses", "waste"] ["self", "other"] (defScope s_Effect_followed) := ⟨rfl, rfl, rfl, by decide +kernel, rfl, by decide +kernel, by decide +kernel⟩
theorem sc_day_effect : FnScope ["baked", "customers", "kept", "shift"] ["baked", "customers", "kept"] (defScope s_day_effect) := ⟨rfl, rfl, rfl, by decide +kernel, rfl, by decide +kernel, by decide +kernel⟩
theorem sc_power : FnScope ["effect", "times", "found", "square"] ["effect", "times"] (defScope s_power) := ⟨rfl, rfl, rfl, by decide +kernel, rfl, by decide +kernel, by decide +kernel⟩
theorem sc_InvalidBakery_init : FnScope ["self", "part", "index"] ["self", "part", "index"] (defScope s_InvalidBakery_init) := ⟨rfl, rfl, rfl, by decide +kernel, rfl, by decide +kernel, by decide +kernel⟩
theorem sc_InvalidDays_init : FnScope ["self", "index"] ["self", "index"] (defScope s_InvalidDays_init) := ⟨rfl, rfl, rfl, by decide +kernel, rfl, by decide +kernel, by decide +kernel⟩
theorem sc_validate_number : FnScope ["number", "smallest", "largest"] ["number", "smallest", "largest"] (defScope s_validate_number) := ⟨rfl, rfl, rfl, by decide +kernel, rfl, by decide +kernel, by decide +kernel⟩
theorem sc_validate_amounts : FnScope ["part", "amounts", "index", "amount"] ["part", "amounts"] (defScope s_validate_amounts) := ⟨rfl, rfl, rfl, by decide +kernel, rfl, by decide +kernel, by decide +kernel⟩
theorem sc_Bakery_init : FnScope ["self", "bakes", "demands", "life", "day", "effect", "last"] ["self", "bakes", "demands", "life"] (defScope s_Bakery_init) := ⟨rfl, rfl, rfl, by decide +kernel, rfl, by decide +kernel, by decide +kernel⟩
theorem sc_Bakery_bakes : FnScope ["self"] ["self"] (defScope s_Bakery_bakes) := ⟨rfl, rfl, rfl, by decide +kernel, rfl, by decide +kernel, by decide +kernel⟩
theorem sc_Bakery_demands : FnScope ["self"] ["self"] (defScope s_Bakery_demands) := ⟨rfl, rfl, rfl, by decide +kernel, rfl, by decide +kernel, by decide +kernel⟩
theorem sc_Bakery_life : FnScope ["self"] ["self"] (defScope s_Bakery_life) := ⟨rfl, rfl, rfl, by decide +kernel, rfl, by decide +kernel, by decide +kernel⟩
theorem sc_Bakery_settled_day : FnScope ["self"] ["self"] (defScope s_Bakery_settled_day) := ⟨rfl, rfl, rfl, by decide +kernel, rfl, by decide +kernel, by decide +kernel⟩
theorem sc_Bakery_long_run : FnScope ["self"] ["self"] (defScope s_Bakery_long_run) := ⟨rfl, rfl, rfl, by decide +kernel, rfl, by decide +kernel, by decide +kernel⟩
theorem sc_Bakery_with_life : FnScope ["self", "life"] ["self", "life"] (defScope s_Bakery_with_life) := ⟨rfl, rfl, rfl, by decide +kernel, rfl, by decide +kernel, by decide +kernel⟩
theorem sc_Bakery_baking_more : FnScope ["self", "count", "bake"] ["self", "count"] (defScope s_Bakery_baking_more) := ⟨rfl, rfl, rfl, by decide +kernel, rfl, by decide +kernel, by decide +kernel⟩
theorem sc_Bakery_baked_on : FnScope ["self", "day"] ["self", "day"] (defScope s_Bakery_baked_on) := ⟨rfl, rfl, rfl, by decide +kernel, rfl, by decide +kernel, by decide +kernel⟩
theorem sc_Bakery_effect_of : FnScope ["self", "day", "age", "kept"] ["self", "day"] (defScope s_Bakery_effect_of) := ⟨rfl, rfl, rfl, by decide +kernel, rfl, by decide +kernel, by decide +kernel⟩
theorem sc_Bakery_start_of : FnScope ["self", "day", "last", "turns", "rest", "stock"] ["self", "day"] (defScope s_Bakery_start_of) := ⟨rfl, rfl, rfl, by decide +kernel, rfl, by decide +kernel, by decide +kernel⟩
theorem sc_Bakery_stock : FnScope ["self", "day"] ["self", "day"] (defScope s_Bakery_stock) := ⟨rfl, rfl, rfl, by decide +kernel, rfl, by decide +kernel, by decide +kernel⟩
theorem sc_Bakery_missed : FnScope ["self", "day"] ["self", "day"] (defScope s_Bakery_missed) := ⟨rfl, rfl, rfl, by decide +kernel, rfl, by decide +kernel, by decide +kernel⟩
theorem sc_Bakery_thrown : FnScope ["self", "day"] ["self", "day"] (defScope s_Bakery_thrown) := ⟨rfl, rfl, rfl, by decide +kernel, rfl, by decide +kernel, by decide +kernel⟩
theorem sc_Bakery_sold : FnScope ["self", "day"] ["self", "day"] (defScope s_Bakery_sold) := ⟨rfl, rfl, rfl, by decide +kernel, rfl, by decide +kernel, by decide +kernel⟩
theorem sc_Bakery_wished_before : FnScope ["self", "days", "rest"] ["self", "days"] (defScope s_Bakery_wished_before) := ⟨rfl, rfl, rfl, by decide +kernel, rfl, by decide +kernel, by decide +kernel⟩
theorem sc_Bakery_totals : FnScope ["self", "days", "last", "missed", "thrown", "day", "turns", "rest", "stock", "effect"] ["self", "days"] (defScope s_Bakery_totals) := ⟨rfl, rfl, rfl, by decide +kernel, rfl, by decide +kernel, by decide +kernel⟩
theorem sc_Bakery_shelf : FnScope ["self", "day", "left", "found", "age", "count"] ["self", "day"] (defScope s_Bakery_shelf) := ⟨rfl, rfl, rfl, by decide +kernel, rfl, by decide +kernel, by decide +kernel⟩
theorem sc_rounds_to_settle : FnScope ["effect", "stock", "low", "high", "middle", "now"] ["effect", "stock"] (defScope s_rounds_to_settle) := ⟨rfl, rfl, rfl, by decide +kernel, rfl, by decide +kernel, by decide +kernel⟩
theorem sc_after : FnScope ["effect", "stock", "times"] ["effect", "stock", "times"] (defScope s_after) := ⟨rfl, rfl, rfl, by decide +kernel, rfl, by decide +kernel, by decide +kernel⟩
theorem sc_settled_of : FnScope ["bakery", "last", "whole", "day", "stock", "missed", "thrown"] ["bakery"] (defScope s_settled_of) := ⟨rfl, rfl, rfl, by decide +kernel, rfl, by decide +kernel, by decide +kernel⟩
theorem sc_played : FnScope ["bakery", "days", "is_newest", "shelf", "sales", "missed", "thrown", "day", "left", "entry", "count"] ["bakery", "days", "is_newest"] (defScope s_played) := ⟨rfl, rfl, rfl, by decide +kernel, rfl, by decide +kernel, by decide +kernel⟩
theorem sc_newest_first : FnScope ["bakery", "days", "sales", "missed", "thrown", "baked", "day", "count"] ["bakery", "days"] (defScope s_newest_first) := ⟨rfl, rfl, rfl, by decide +kernel, rfl, by decide +kernel, by decide +kernel⟩
theorem sc_first_with : FnScope ["bakery", "day", "loss", "found", "end", "first", "turns", "low", "high", "middle"] ["bakery", "day", "loss"] (defScope s_first_with) := ⟨rfl, rfl, rfl, by decide +kernel, rfl, by decide +kernel, by decide +kernel⟩
theorem sc_next_missed : FnScope ["bakery", "day"] ["bakery", "day"] (defScope s_next_missed) := ⟨rfl, rfl, rfl, by decide +kernel, rfl, by decide +kernel, by decide +kernel⟩
theorem sc_next_thrown : FnScope ["bakery", "day"] ["bakery", "day"] (defScope s_next_thrown) := ⟨rfl, rfl, rfl, by decide +kernel, rfl, by decide +kernel, by decide +kernel⟩
theorem sc_least_life : FnScope ["bakery", "missed", "life"] ["bakery", "missed"] (defScope s_least_life) := ⟨rfl, rfl, rfl, by decide +kernel, rfl, by decide +kernel, by decide +kernel⟩
theorem sc_least_baking : FnScope ["bakery", "missed", "low", "high", "middle"] ["bakery", "missed"] (defScope s_least_baking) := ⟨rfl, rfl, rfl, by decide +kernel, rfl, by decide +kernel, by decide +kernel⟩
theorem sc_LifeObserver_init : FnScope ["self", "bakes", "demands", "life", "bakery"] ["self", "bakes", "demands"] (defScope s_LifeObserver_init) := ⟨rfl, rfl, rfl, by decide +kernel, rfl, by decide +kernel, by decide +kernel⟩
theorem sc_LifeObserver_possible_lives : FnScope ["self"] ["self"] (defScope s_LifeObserver_possible_lives) := ⟨rfl, rfl, rfl, by decide +kernel, rfl, by decide +kernel, by decide +kernel⟩
theorem sc_LifeObserver_records : FnScope ["self"] ["self"] (defScope s_LifeObserver_records) := ⟨rfl, rfl, rfl, by decide +kernel, rfl, by decide +kernel, by decide +kernel⟩
theorem sc_LifeObserver_keep : FnScope ["self", "record", "left", "bakery"] ["self", "record", "left"] (defScope s_LifeObserver_keep) := ⟨rfl, rfl, rfl, by decide +kernel, rfl, by decide +kernel, by decide +kernel⟩
theorem sc_LifeObserver_see_sold : FnScope ["self", "day", "number", "bakery"] ["self", "day", "number"] (defScope s_LifeObserver_see_sold) := ⟨rfl, rfl, rfl, by decide +kernel, rfl, by decide +kernel, by decide +kernel⟩
theorem sc_LifeObserver_see_thrown : FnScope ["self", "day", "number", "bakery"] ["self", "day", "number"] (defScope s_LifeObserver_see_thrown) := ⟨rfl, rfl, rfl, by decide +kernel, rfl, by decide +kernel, by decide +kernel⟩
theorem sc_LifeObserver_see_stock : FnScope ["self", "day", "number", "bakery"] ["self", "day", "number"] (defScope s_LifeObserver_see_stock) := ⟨rfl, rfl, rfl, by decide +kernel, rfl, by decide +kernel, by decide +kernel⟩
theorem sc_LifeObserver_telling_day : FnScope ["self"] ["self"] (defScope s_LifeObserver_telling_day) := ⟨rfl, rfl, rfl, by decide +kernel, rfl, by decide +kernel, by decide +kernel⟩
theorem sc_law_mix : FnScope ["_law_script", "_law_seed", "_law_mixed", "_law_cell"] ["_law_script", "_law_seed"] (defScope s_law_mix) := ⟨rfl, rfl, rfl, by decide +kernel, rfl, by decide +kernel, by decide +kernel⟩
theorem sc_law_next : FnScope ["_law_h", "_law_limit", "_law_cell"] ["_law_h", "_law_limit"] (defScope s_law_next) := ⟨rfl, rfl, rfl, by decide +kernel, rfl, by decide +kernel, by decide +kernel⟩
theorem sc_law_error : FnScope ["_law_call", "e", "_law_kinds", "_law_name"] ["_law_call"] (defScope s_law_error) := ⟨rfl, rfl, rfl, by decide +kernel, rfl, by decide +kernel, by decide +kernel⟩
theorem sc_law_amounts : FnScope ["_law_h", "_law_count", "_law_wide", "_law_k"] ["_law_h", "_law_count", "_law_wide"] (defScope s_law_amounts) := ⟨rfl, rfl, rfl, by decide +kernel, rfl, by decide +kernel, by decide +kernel⟩
theorem sc_law_parts : FnScope ["_law_h", "_law_most", "_law_wide", "_law_count", "_law_bakes", "_law_demands", "_law_k", "_law_more"] ["_law_h", "_law_most", "_law_wide"] (defScope s_law_parts) := ⟨rfl, rfl, rfl, by decide +kernel, rfl, by decide +kernel, by decide +kernel⟩
theorem sc_law : FnScope ["_law_script", "_law_h", "_law_turn", "_law_bakes", "_law_demands", "_law_life", "_law_bakery", "_law_some", "_law_number", "_law_due", "_law_works", "_law_call", "_law_observer", "_law_far"] ["_law_script"] (defScope s_law) := ⟨rfl, rfl, rfl, by decide +kernel, rfl, by decide +kernel, by decide +kernel⟩
end G57
end
section
set_option maxRecDepth 100000
set_option maxHeartbeats 4000000
namespace G57
open PySem PySem.Spec PyProof.Rows L2
set_option maxHeartbeats 0
abbrev Rrow : PySem.W.OpenRow := PySem.W.OpenLaw.row PySem.Challenge.rw_staleloaves_k10_numbers_out_of_range
abbrev hkL : PySem.W.Hook := hookT 6 exL fnL tfL
def obL (s : PySem.W.SharedT) : AlA := obsT 6 exL fnL tfL (HandSHeadRun.getT s)
theorem obL_eq (s : PySem.W.SharedT) : obL s = hkL.obs s.abs := obsT_eq (HandSHeadRun.getT_eq s)
def looseL : List Str := (["_wall", "__name__", "Effect", "day_effect", "power", "LoafError", "InvalidBakery", "InvalidNumber", "InvalidDays", "Contradiction", "MAX_AMOUNT", "MAX_DAY", "validate_number", "validate_amounts", "Bakery", "rounds_to_settle", "after", "settled_of", "MAX_PLAYED", "played", "newest_first", "MAX_MISSED", "first_with", "next_missed", "next_thrown", "least_life", "least_baking", "LifeObserver", "_law_mix", "_law_next"] : List Str) ++ (["_law_error", "_law_amounts", "_law_parts"] : List Str)
theorem runL (w : World) : HandSHeadRun.RunEq Rrow (PySem.W.view Rrow.prog [39]) hkL obL 6000 looseL w := by
  intro os
  kernel_rfl
end G57
end
section
set_option maxRecDepth 100000
set_option maxHeartbeats 4000000
/-! XRules2: max and min of a tuple of ints. -/
namespace G57
open PySem PySem.Spec PyProof.Rows L2
section
theorem max_tup_raw {prog : Program} {w : World} {A : Around} {E : Value → Shared → Prop} {s : Shared} {t : Addr} {its : List Value} {ns : List Int} {Q : Value → Shared → Prop} (hh : A.handled = none) (ht : s.heap.IsTuple t its.toArray) (hi : IntsAre its ns) (hne : 0 < ns.length)
    (h : ∀ h' tk M t', (∀ b o, s.heap.get? b = some o → h'.get? b = some o) → M ∈ ns → (∀ a, a ∈ ns → a ≤ M) → Q (.int M t') { s with heap := h', toks := tk }) : wpAny (model prog w) A (call (.builtin "max") [.ref t]) Q E s := by
  obtain ⟨xs, e⟩ := hi.allInts.items
  have hn : numsOf (intItems xs).toList = ns := by
    rw [← e]
    exact hi.numsOf
  rw [nums_intItems] at hn
  subst hn
  rw [e] at ht
  have hsz : 0 < xs.size := by simpa using hne
  have hlt : t < s.heap.objs.size := by
    obtain ⟨_, z, _⟩ := ht
    exact Heap.lt_size z
  refine call_max_walk (wpAny_pyIter_tuple ht ?_)
  have st : (s.heap.push { cls := .type "tuple_iterator", data := .fields #[.ref t, .int 0 0] }).IsTupleIter s.heap.objs.size t 0 ∧ (s.heap.push { cls := .type "tuple_iterator", data := .fields #[.ref t, .int 0 0] }).IsTuple t (intItems xs) :=
    ⟨⟨_, Heap.get?_push_size _ rfl, rfl, rfl⟩, ht.at fun o z => Heap.get?_push_of_some _ z⟩
  refine ⟨_, _, _, _, _, _, _, rfl, Walks.tuple (A := A.in1) hh _ t (Nat.ne_of_lt hlt) (intItems xs), st, fun b hb => ?_, by simpa [intItems] using hsz, CmpOf.ints_gt (numAt xs) (fun _ _ => intItems_at), fun v h' tk hP hk => ?_⟩
  · show b < (s.heap.push _).objs.size
    rw [Heap.size_push]
    rcases List.mem_cons.mp hb with rfl | hb
    · exact Nat.lt_succ_self _
    · rcases List.mem_cons.mp hb with rfl | hb
      · exact Nat.lt_succ_of_lt hlt
      · cases hb
  have hP2 : (intItems xs)[argBest (fun i j => decide (numAt xs i > numAt xs j)) (xs.size - 1)]? = some v := by simpa [intItems] using hP
  obtain ⟨u, rfl⟩ := intItems_at hP2
  obtain ⟨h1, h2⟩ := argBest_gt (numAt xs) (xs.size - 1)
  refine h h' tk _ u (fun b o q => hk b o (fun m => by
        rw [List.mem_singleton.mp m] at q
        exact absurd (Heap.lt_size q) (Nat.lt_irrefl _)) (Heap.get?_push_of_some _ q)) ?_ fun a ha => ?_
  · rw [numAt_eq]
    exact PySem.getD_mem (by rw [List.length_map, Array.length_toList]; omega)
  · obtain ⟨j, hj, rfl⟩ := mem_getD ha
    rw [List.length_map, Array.length_toList] at hj
    rw [← numAt_eq]
    exact h2 j (by omega)
theorem min_tup_raw {prog : Program} {w : World} {A : Around} {E : Value → Shared → Prop} {s : Shared} {t : Addr} {its : List Value} {ns : List Int} {Q : Value → Shared → Prop} (hh : A.handled = none) (ht : s.heap.IsTuple t its.toArray) (hi : IntsAre its ns) (hne : 0 < ns.length)
    (h : ∀ h' tk M t', (∀ b o, s.heap.get? b = some o → h'.get? b = some o) → M ∈ ns → (∀ a, a ∈ ns → M ≤ a) → Q (.int M t') { s with heap := h', toks := tk }) : wpAny (model prog w) A (call (.builtin "min") [.ref t]) Q E s := by
  obtain ⟨xs, e⟩ := hi.allInts.items
  have hn : numsOf (intItems xs).toList = ns := by
    rw [← e]
    exact hi.numsOf
  rw [nums_intItems] at hn
  subst hn
  rw [e] at ht
  have hsz : 0 < xs.size := by simpa using hne
  have hlt : t < s.heap.objs.size := by
    obtain ⟨_, z, _⟩ := ht
    exact Heap.lt_size z
  refine call_min_walk (wpAny_pyIter_tuple ht ?_)
  have st : (s.heap.push { cls := .type "tuple_iterator", data := .fields #[.ref t, .int 0 0] }).IsTupleIter s.heap.objs.size t 0 ∧ (s.heap.push { cls := .type "tuple_iterator", data := .fields #[.ref t, .int 0 0] }).IsTuple t (intItems xs) :=
    ⟨⟨_, Heap.get?_push_size _ rfl, rfl, rfl⟩, ht.at fun o z => Heap.get?_push_of_some _ z⟩
  refine ⟨_, _, _, _, _, _, _, rfl, Walks.tuple (A := A.in1) hh _ t (Nat.ne_of_lt hlt) (intItems xs), st, fun b hb => ?_, by simpa [intItems] using hsz, CmpOf.ints_lt (numAt xs) (fun _ _ => intItems_at), fun v h' tk hP hk => ?_⟩
  · show b < (s.heap.push _).objs.size
    rw [Heap.size_push]
    rcases List.mem_cons.mp hb with rfl | hb
    · exact Nat.lt_succ_self _
    · rcases List.mem_cons.mp hb with rfl | hb
      · exact Nat.lt_succ_of_lt hlt
      · cases hb
  have hP2 : (intItems xs)[argBest (fun i j => decide (numAt xs i < numAt xs j)) (xs.size - 1)]? = some v := by simpa [intItems] using hP
  obtain ⟨u, rfl⟩ := intItems_at hP2
  obtain ⟨h1, h2⟩ := argBest_lt (numAt xs) (xs.size - 1)
  refine h h' tk _ u (fun b o q => hk b o (fun m => by
        rw [List.mem_singleton.mp m] at q
        exact absurd (Heap.lt_size q) (Nat.lt_irrefl _)) (Heap.get?_push_of_some _ q)) ?_ fun a ha => ?_
  · rw [numAt_eq]
    exact PySem.getD_mem (by rw [List.length_map, Array.length_toList]; omega)
  · obtain ⟨j, hj, rfl⟩ := mem_getD ha
    rw [List.length_map, Array.length_toList] at hj
    rw [← numAt_eq]
    exact h2 j (by omega)
variable {X : Cx}
def rMaxT (K : PySem.W.Frag) : List V → Hp → VK → Prop := fun vs H Q => ∃ (a : Addr) (ns : List Int), vs = [V.ref a] ∧ SqT K H a (ns.map V.int) ∧ 0 < ns.length ∧ ∀ m, m ∈ ns → (∀ x, x ∈ ns → x ≤ m) → Q (.int m) H
def rMinT (K : PySem.W.Frag) : List V → Hp → VK → Prop := fun vs H Q => ∃ (a : Addr) (ns : List Int), vs = [V.ref a] ∧ SqT K H a (ns.map V.int) ∧ 0 < ns.length ∧ ∀ m, m ∈ ns → (∀ x, x ∈ ns → m ≤ x) → Q (.int m) H
theorem cr_maxT (hc : X.calm = true) : CallR X (.builtin "max") (rMaxT X.K) := fun pins s σ H xs us Q I r h => by
  obtain ⟨a, ns, rfl, hq, hne, q⟩ := h
  cases r with
  | cons ra rr =>
    cases rr
    cases ra
    obtain ⟨its, rv, ht, hz⟩ := I.tuple hq
    exact max_tup_raw (I.ok.hd hc) ht (intsAre_of rv) hne fun h' tk m t' hk h1 h2 => ⟨.int m, H, I.kept (t' := tk) hk, ⟨_, rfl⟩, q m h1 h2⟩
theorem cr_minT (hc : X.calm = true) : CallR X (.builtin "min") (rMinT X.K) := fun pins s σ H xs us Q I r h => by
  obtain ⟨a, ns, rfl, hq, hne, q⟩ := h
  cases r with
  | cons ra rr =>
    cases rr
    cases ra
    obtain ⟨its, rv, ht, hz⟩ := I.tuple hq
    exact min_tup_raw (I.ok.hd hc) ht (intsAre_of rv) hne fun h' tk m t' hk h1 h2 => ⟨.int m, H, I.kept (t' := tk) hk, ⟨_, rfl⟩, q m h1 h2⟩
def rMn3 : List V → Hp → VK → Prop := fun xs H Q => ∃ i j k, xs = [.int i, .int j, .int k] ∧ Q (.int (min i (min j k))) H
theorem cq_min3 (hc : X.calm = true) : CallR X (.builtin "min") rMn3 := fun pins s σ H xs us Q I r h => by
  obtain ⟨i, j, k, rfl, q⟩ := h
  cases r with
  | cons r1 rr =>
    cases rr with
    | cons r2 rr =>
      cases rr with
      | cons r3 rr =>
        cases rr
        obtain ⟨t1, rfl⟩ := r1
        obtain ⟨t2, rfl⟩ := r2
        obtain ⟨t3, rfl⟩ := r3
        refine min_three_ints (I.ok.hd hc) fun h' tk hk => ⟨.int (min i (min j k)), H, I.kept hk, ?_, q⟩
        by_cases c1 : j < i
        · rw [if_pos c1]
          by_cases c2 : k < j
          · rw [if_pos c2]
            exact ⟨_, by rw [show min i (min j k) = k by omega]⟩
          · rw [if_neg c2]
            exact ⟨_, by rw [show min i (min j k) = j by omega]⟩
        · rw [if_neg c1]
          by_cases c2 : k < i
          · rw [if_pos c2]
            exact ⟨_, by rw [show min i (min j k) = k by omega]⟩
          · rw [if_neg c2]
            exact ⟨_, by rw [show min i (min j k) = i by omega]⟩
theorem r_min3 {H : Hp} {Q : VK} {i j k : Int} (q : Q (.int (min i (min j k))) H) : rMn3 [V.int i, V.int j, V.int k] H Q := ⟨i, j, k, rfl, q⟩
theorem r_maxT {K : PySem.W.Frag} {H : Hp} {Q : VK} {a : Addr} {ns : List Int} (h : SqT K H a (ns.map V.int)) (hne : 0 < ns.length) (q : ∀ m, m ∈ ns → (∀ x, x ∈ ns → x ≤ m) → Q (.int m) H) : rMaxT K [V.ref a] H Q := ⟨a, ns, rfl, h, hne, q⟩
theorem r_minT {K : PySem.W.Frag} {H : Hp} {Q : VK} {a : Addr} {ns : List Int} (h : SqT K H a (ns.map V.int)) (hne : 0 < ns.length) (q : ∀ m, m ∈ ns → (∀ x, x ∈ ns → m ≤ x) → Q (.int m) H) : rMinT K [V.ref a] H Q := ⟨a, ns, rfl, h, hne, q⟩
end
end G57
end
section
set_option maxRecDepth 100000
set_option maxHeartbeats 4000000
/-! XEnt: lists of entries [day, count], which change; lists of triples. -/
namespace G57
open PySem PySem.Spec PyProof.Rows L2
def EntAt (H : Hp) (v : V) (z : Int × Int) : Prop := ∃ p, v = .ref p ∧ H p = some (.lst [.int z.1, .int z.2])
def Ents (H : Hp) (vs : List V) (l : List (Int × Int)) : Prop := vs.length = l.length ∧ vs.Nodup ∧ ∀ (i : Nat) v z, vs[i]? = some v → l[i]? = some z → EntAt H v z
section
variable {H H' : Hp} {vs : List V} {l : List (Int × Int)}
theorem Ents.mono (h : Ents H vs l) (s : Same H H') : Ents H' vs l := ⟨h.1, h.2.1, fun i v z e1 e2 => let ⟨p, e3, e4⟩ := h.2.2 i v z e1 e2; ⟨p, e3, s _ _ e4⟩⟩
theorem Ents.nil : Ents H [] [] := ⟨rfl, List.nodup_nil, fun i v z e _ => by simp at e⟩
theorem Ents.at (h : Ents H vs l) {i : Nat} {v : V} (e : vs[i]? = some v) : ∃ z, l[i]? = some z ∧ EntAt H v z := by
  have lt := (List.getElem?_eq_some_iff.mp e).1
  have lt2 : i < l.length := by have := h.1; omega
  exact ⟨l[i], List.getElem?_eq_getElem lt2, h.2.2 i v _ e (List.getElem?_eq_getElem lt2)⟩
theorem Ents.is (h : Ents H vs l) {v : V} (hv : v ∈ vs) : ∃ p x y, v = .ref p ∧ H p = some (.lst [.int x, .int y]) := by
  obtain ⟨i, hi⟩ := List.getElem?_of_mem hv
  obtain ⟨z, _, p, e1, e2⟩ := h.at hi
  exact ⟨p, _, _, e1, e2⟩
/-- a new entry at the end -/
theorem Ents.snoc (h : Ents H vs l) {p : Addr} {d c : Int} (n : H p = none) (s : Same H H') (e : H' p = some (.lst [.int d, .int c])) : Ents H' (vs ++ [.ref p]) (l ++ [(d, c)]) := by
  have fresh : V.ref p ∉ vs := fun m => by
    obtain ⟨q, x, y, e1, e2⟩ := h.is m
    cases e1
    rw [n] at e2
    cases e2
  refine ⟨by simp [h.1], ?_, fun i u y e1 e2 => ?_⟩
  · rw [List.nodup_append]
    refine ⟨h.2.1, by simp, fun a ha b hb => ?_⟩
    rw [List.mem_singleton.mp hb]
    intro z
    rw [z] at ha
    exact fresh ha
  · rcases Nat.lt_trichotomy i vs.length with lt | eq | gt
    · rw [List.getElem?_append_left lt] at e1
      rw [List.getElem?_append_left (by have := h.1; omega)] at e2
      obtain ⟨q, e3, e4⟩ := h.2.2 i u y e1 e2
      exact ⟨q, e3, s _ _ e4⟩
    · subst eq
      rw [List.getElem?_append_right (Nat.le_refl _)] at e1
      rw [List.getElem?_append_right (by have := h.1; omega)] at e2
      simp at e1
      simp [h.1] at e2
      subst e1 e2
      exact ⟨p, rfl, e⟩
    · rw [List.getElem?_eq_none (by simp; omega)] at e1
      cases e1
/-- an entry's count changes -/
theorem Ents.set (h : Ents H vs l) {i : Nat} {p : Addr} {d c c' : Int} (e : vs[i]? = some (.ref p)) (el : l[i]? = some (d, c)) : Ents (upd H p (.lst [.int d, .int c'])) vs (l.set i (d, c')) := by
  refine ⟨by rw [List.length_set]; exact h.1, h.2.1, fun j u y e1 e2 => ?_⟩
  by_cases ej : j = i
  · subst ej
    rw [e] at e1
    cases e1
    rw [List.getElem?_set_self (List.getElem?_eq_some_iff.mp el).1] at e2
    cases e2
    exact ⟨p, rfl, upd_same⟩
  · rw [List.getElem?_set_ne (fun z => ej z.symm)] at e2
    obtain ⟨q, e3, e4⟩ := h.2.2 j u y e1 e2
    refine ⟨q, e3, ?_⟩
    rw [upd_ne]
    · exact e4
    · intro z
      subst z
      subst e3
      have i1 := (List.getElem?_eq_some_iff.mp e).1
      have j1 := (List.getElem?_eq_some_iff.mp e1).1
      exact ej ((List.getElem?_inj j1 h.2.1).mp (e1.trans e.symm))
/-- another list changes -/
theorem Ents.mut (h : Ents H vs l) {S : Addr} {o : HO} (n : V.ref S ∉ vs) : Ents (upd H S o) vs l := ⟨h.1, h.2.1, fun i v z e1 e2 => by
  obtain ⟨p, e3, e4⟩ := h.2.2 i v z e1 e2
  refine ⟨p, e3, ?_⟩
  rw [upd_ne]
  · exact e4
  · intro q
    subst q
    rw [e3] at e1
    exact n (List.mem_of_getElem? e1)⟩
theorem Ents.rev (h : Ents H vs l) : Ents H vs.reverse l.reverse := by
  refine ⟨by simp [h.1], List.pairwise_reverse.mpr (h.2.1.imp fun z => Ne.symm z), fun i v z e1 e2 => ?_⟩
  have lt : i < vs.length := by
    have := (List.getElem?_eq_some_iff.mp e1).1
    simpa using this
  rw [List.getElem?_reverse lt] at e1
  rw [List.getElem?_reverse (by have := h.1; omega), ← h.1] at e2
  exact h.2.2 _ v z e1 e2
/-- what was no list in H is none of the entries -/
theorem Ents.out (h : Ents H vs l) {S : Addr} (n : H S = none) : V.ref S ∉ vs := fun m => by
  obtain ⟨q, x, y, e1, e2⟩ := h.is m
  cases e1
  rw [n] at e2
  cases e2
end
/-! ### triples -/
def TripAt (H : Hp) (v : V) (z : Int × Int × Int) : Prop := ∃ p, v = .ref p ∧ H p = some (.tup [.int z.1, .int z.2.1, .int z.2.2])
def Trips (H : Hp) (vs : List V) (l : List (Int × Int × Int)) : Prop := vs.length = l.length ∧ ∀ (i : Nat) v z, vs[i]? = some v → l[i]? = some z → TripAt H v z
section
variable {H H' : Hp} {vs : List V} {l : List (Int × Int × Int)}
theorem Trips.mono (h : Trips H vs l) (s : Same H H') : Trips H' vs l := ⟨h.1, fun i v z e1 e2 => let ⟨p, e3, e4⟩ := h.2 i v z e1 e2; ⟨p, e3, s _ _ e4⟩⟩
theorem Trips.nil : Trips H [] [] := ⟨rfl, fun i v z e _ => by simp at e⟩
theorem Trips.at (h : Trips H vs l) {i : Nat} {v : V} (e : vs[i]? = some v) : ∃ z, l[i]? = some z ∧ TripAt H v z := by
  have lt := (List.getElem?_eq_some_iff.mp e).1
  have lt2 : i < l.length := by have := h.1; omega
  exact ⟨l[i], List.getElem?_eq_getElem lt2, h.2 i v _ e (List.getElem?_eq_getElem lt2)⟩
theorem Trips.mut (h : Trips H vs l) {S : Addr} {zs zs' : List V} (e : H S = some (.lst zs)) : Trips (upd H S (.lst zs')) vs l := ⟨h.1, fun i v z e1 e2 => let ⟨p, e3, e4⟩ := h.2 i v z e1 e2; ⟨p, e3, Stab.tup.2 _ _ _ _ e4 e⟩⟩
theorem Trips.snoc {v : V} {z : Int × Int × Int} (h : Trips H vs l) (k : TripAt H v z) : Trips H (vs ++ [v]) (l ++ [z]) := by
  refine ⟨by simp [h.1], fun i u y e1 e2 => ?_⟩
  rcases Nat.lt_trichotomy i vs.length with lt | eq | gt
  · rw [List.getElem?_append_left lt] at e1
    rw [List.getElem?_append_left (by have := h.1; omega)] at e2
    exact h.2 i u y e1 e2
  · subst eq
    rw [List.getElem?_append_right (Nat.le_refl _)] at e1
    rw [List.getElem?_append_right (by have := h.1; omega)] at e2
    simp at e1
    simp [h.1] at e2
    subst e1 e2
    exact k
  · rw [List.getElem?_eq_none (by simp; omega)] at e1
    cases e1
end
/-! ### comprehensions over entries -/
section
variable {K : PySem.W.Frag} {σ : L2.St} {H1 : Hp} {Q : VK} {te : TE} {tt : TT}
/-- some of the entries, the very objects -/
theorem lcEntF {a : Addr} {vs : List V} {l : List (Int × Int)} {j : Nat} (p : Int × Int → Bool) (hl : H1 a = some (.lst vs)) (hv : Ents H1 vs l) (hn : l.length ≤ 100000)
    (ht : ∀ (q : Addr) z H' (Z : Bool → Hp → Prop), Same H1 H' → H' q = some (.lst [.int z.1, .int z.2]) → (∀ H4, Same H' H4 → Z (p z) H4) → SetR j (.ref q) (fun s => tt s H' Z) σ)
    (hs : ∀ (q : Addr) H' (Z : VK), Same H1 H' → (∀ H4, Same H' H4 → Z (.ref q) H4) → SetR j (.ref q) (fun s => te s H' Z) σ)
    (hd : ∀ D H' ws, H1 D = none → Same H1 H' → H' D = some (.lst ws) → Ents H' ws (l.filter p) → (∀ v ∈ ws, v ∈ vs) → Q (.ref D) H') : LcR (Itl K a) (gName j) tt te [j] σ Q H1 := fun D hD => by
  have ln := hv.1
  refine lc_list (xs := vs) (fun i H' => Same H1 H' ∧ ∃ ws, H' D = some (.lst ws) ∧ ws.length = ((l.take i).filter p).length ∧ List.Sublist ws (vs.take i) ∧ ∀ (k : Nat) v z, ws[k]? = some v → ((l.take i).filter p)[k]? = some z → EntAt H1 v z) ⟨same_new hD, [], upd_same, rfl, List.nil_sublist _, fun k v z e _ => by simp at e⟩ (fun i H' _ w => sqL_same hl w.1) ?_ ?_
  · rintro i v H' hvi ⟨s1, ws, e1, l1, sb, h1⟩
    obtain ⟨z, hz, q, rfl, hq⟩ := hv.at hvi
    have lt := (List.getElem?_eq_some_iff.mp hvi).1
    refine ⟨wipe1' _, ?_⟩
    rw [wipe1]
    have tl : l.take (i + 1) = l.take i ++ [z] := by
      rw [List.take_add_one, hz]
      rfl
    have tv : vs.take (i + 1) = vs.take i ++ [.ref q] := by
      rw [List.take_add_one, hvi]
      rfl
    have wl : ws.length ≤ i := by
      have := sb.length_le
      rw [List.length_take] at this
      omega
    refine ht q z H' _ s1 (s1 _ _ hq) fun H4 s4 => ?_
    have s14 := sameT s1 s4
    have e4 := s4 _ _ e1
    cases hp : p z with
    | false =>
      refine iteF ⟨s14, ws, e4, ?_, ?_, fun k v y ev ey => ?_⟩
      · rw [tl, List.filter_append]
        simp [hp, l1]
      · rw [tv]
        exact sb.trans (List.sublist_append_left _ _)
      · rw [tl, List.filter_append] at ey
        simp [hp] at ey
        exact h1 k v y ev ey
    | true =>
      refine iteT (hs q H4 _ s14 fun H5 s5 => ⟨_, s5 _ _ e4, Nat.lt_of_lt_of_le (show _ < 100001 by omega) (by decide), same_mut (sameT s14 s5) hD, ws ++ [.ref q], upd_same, ?_, ?_, fun k v y ev ey => ?_⟩)
      · rw [tl, List.filter_append]
        simp [hp, l1]
      · rw [tv]
        exact sb.append (List.Sublist.refl _)
      · rw [tl, List.filter_append] at ey
        have f1 : List.filter p [z] = [z] := by simp [hp]
        rw [f1] at ey
        rcases Nat.lt_trichotomy k ws.length with lt | eq | gt
        · rw [List.getElem?_append_left lt] at ev
          rw [List.getElem?_append_left (by omega)] at ey
          exact h1 k v y ev ey
        · subst eq
          rw [List.getElem?_append_right (Nat.le_refl _)] at ev
          rw [List.getElem?_append_right (by omega)] at ey
          simp at ev
          simp [l1] at ey
          subst ev ey
          exact ⟨q, rfl, hq⟩
        · rw [List.getElem?_eq_none (by simp; omega)] at ev
          cases ev
  · rintro H' ⟨s1, ws, e1, l1, sb, h1⟩
    rw [List.take_of_length_le (by omega)] at l1 h1
    rw [List.take_of_length_le (Nat.le_refl _)] at sb
    exact hd D H' ws hD s1 e1 ⟨l1, hv.2.1.sublist sb, fun k v z ev ez => let ⟨q, a, b⟩ := h1 k v z ev ez; ⟨q, a, s1 _ _ b⟩⟩ fun v hv => sb.subset hv
/-- ints of some of the entries -/
theorem lcEntI {a : Addr} {vs : List V} {l : List (Int × Int)} {j : Nat} (p : Int × Int → Bool) (f : Int × Int → Int) (hl : H1 a = some (.lst vs)) (hv : Ents H1 vs l) (hn : l.length ≤ 100000)
    (ht : ∀ (q : Addr) z H' (Z : Bool → Hp → Prop), Same H1 H' → H' q = some (.lst [.int z.1, .int z.2]) → (∀ H4, Same H' H4 → Z (p z) H4) → SetR j (.ref q) (fun s => tt s H' Z) σ)
    (hs : ∀ (q : Addr) z H' (Z : VK), Same H1 H' → H' q = some (.lst [.int z.1, .int z.2]) → (∀ H4, Same H' H4 → Z (.int (f z)) H4) → SetR j (.ref q) (fun s => te s H' Z) σ)
    (hd : ∀ D H', H1 D = none → Same H1 H' → H' D = some (.lst (((l.filter p).map f).map V.int)) → Q (.ref D) H') : LcR (Itl K a) (gName j) tt te [j] σ Q H1 := fun D hD => by
  have ln := hv.1
  refine lc_list (xs := vs) (fun i H' => Same H1 H' ∧ H' D = some (.lst ((((l.take i).filter p).map f).map V.int))) ⟨same_new hD, by rw [upd_same]; rfl⟩ (fun i H' _ w => sqL_same hl w.1) ?_ ?_
  · rintro i v H' hvi ⟨s1, e1⟩
    obtain ⟨z, hz, q, rfl, hq⟩ := hv.at hvi
    have lt := (List.getElem?_eq_some_iff.mp hvi).1
    refine ⟨wipe1' _, ?_⟩
    rw [wipe1]
    have tl : l.take (i + 1) = l.take i ++ [z] := by
      rw [List.take_add_one, hz]
      rfl
    have len : ((((l.take i).filter p).map f).map V.int).length ≤ i := by
      rw [List.length_map, List.length_map]
      exact Nat.le_trans (List.length_filter_le _ _) (by rw [List.length_take]; omega)
    refine ht q z H' _ s1 (s1 _ _ hq) fun H4 s4 => ?_
    have s14 := sameT s1 s4
    have e4 := s4 _ _ e1
    cases hp : p z with
    | false =>
      refine iteF ⟨s14, ?_⟩
      rw [e4, tl, List.filter_append]
      simp [hp]
    | true =>
      refine iteT (hs q z H4 _ s14 (s14 _ _ hq) fun H5 s5 => ⟨_, s5 _ _ e4, Nat.lt_of_lt_of_le (show _ < 100001 by omega) (by decide), same_mut (sameT s14 s5) hD, ?_⟩)
      rw [upd_same, tl, List.filter_append]
      simp [hp]
  · rintro H' ⟨s1, e1⟩
    rw [List.take_of_length_le (by omega)] at e1
    exact hd D H' hD s1 e1
end
end G57
end
section
set_option maxRecDepth 100000
set_option maxHeartbeats 4000000
/-! XTrip: a comprehension over triples, with three names. -/
namespace G57
open PySem PySem.Spec PyProof.Rows L2
section
variable {K : PySem.W.Frag} {σ : L2.St} {H1 : Hp} {Q : VK} {te : TE}
theorem wipe3 {i j k : Nat} (nij : i ≠ j) (nik : i ≠ k) (njk : j ≠ k) (a b c : Option V) : (((wipe σ [i, j, k]).set i a).set j b).set k c = ((σ.set i a).set j b).set k c := by
  show ((((((σ.set k none).set j none).set i none).set i a).set j b).set k c) = _
  rw [List.set_set, List.set_comm _ _ nij.symm, List.set_set, List.set_comm _ _ nik.symm, List.set_comm _ _ njk.symm, List.set_set]
theorem wipe3' {i j k : Nat} (nij : i ≠ j) (nik : i ≠ k) (njk : j ≠ k) (a b c : Option V) : wipe (((σ.set i a).set j b).set k c) [i, j, k] = wipe σ [i, j, k] := by
  show ((((((σ.set i a).set j b).set k c).set k none).set j none).set i none) = ((σ.set k none).set j none).set i none
  rw [List.set_set, List.set_comm _ _ njk, List.set_set, List.set_comm _ _ nik, List.set_comm _ _ nij, List.set_set, List.set_comm _ _ nij.symm, List.set_comm _ _ nik.symm]
theorem lcT_list {a : Addr} {us : List V} {l : List (Int × Int × Int)} {i j m : Nat} (f : Int × Int × Int → Int) (nij : i ≠ j) (nim : i ≠ m) (njm : j ≠ m) (hl : H1 a = some (.lst us)) (hp : Trips H1 us l) (hn : l.length ≤ 100000)
    (hs : ∀ z H' (Z : VK), z ∈ l → Same H1 H' → (∀ H4, Same H' H4 → Z (.int (f z)) H4) → SetR i (.int z.1) (SetR j (.int z.2.1) (SetR m (.int z.2.2) fun s => te s H' Z)) σ)
    (hd : ∀ D H', H1 D = none → Same H1 H' → H' D = some (.lst ((l.map f).map V.int)) → Q (.ref D) H') :
    LcR (Itl K a) (gTup K 3 (gCons (gName i) (gCons (gName j) (gCons (gName m) gNil)))) tYes te [i, j, m] σ Q H1 := fun D hD => by
  have ul : us.length = l.length := hp.1
  have hR : ∀ (k : Nat) v, Stab ((fun (k : Nat) v (_ : Hp) => ∃ z, l[k]? = some z ∧ v = V.int (f z)) k v) := fun _ _ => Stab.triv
  refine lc_list (xs := us) (LcP H1 D fun k v _ => ∃ z, l[k]? = some z ∧ v = .int (f z)) (lcP_0 hD) (fun k H' hk p => sqL_same hl p.choose_spec.2.2.1) (fun k x H' hx p => ?_) fun H' p => by
    obtain ⟨ys, e, le, s, hr⟩ := p
    refine hd D H' hD s ?_
    rw [e]
    congr 2
    refine List.ext_getElem? fun k => ?_
    by_cases lt : k < ys.length
    · obtain ⟨z, hz, r⟩ := hr k _ (List.getElem?_eq_getElem lt)
      rw [List.getElem?_eq_getElem lt, r, List.getElem?_map, List.getElem?_map, hz]
      rfl
    · rw [List.getElem?_eq_none (by omega), List.getElem?_eq_none (by simp; omega)]
  have s := p.choose_spec.2.2.1
  obtain ⟨z, hz, q, rfl, hq⟩ := (hp.mono s).at hx
  have lt := (List.getElem?_eq_some_iff.mp hz).1
  refine r_gtup (sqT_at hq) rfl ?_
  refine r_gcons ?_
  refine r_gname ?_
  refine r_setU ?_
  refine r_gcons ?_
  refine r_gname ?_
  refine r_setU ?_
  refine r_gcons ?_
  refine r_gname ?_
  refine r_setU ?_
  refine r_gnil ?_
  rw [wipe3 nij nim njm]
  refine ⟨wipe3' nij nim njm _ _ _, tYes_of (hs z H' _ (List.mem_of_getElem? hz) s fun H4 s4 => lcP_step hR (show l.length ≤ sizeLine from Nat.le_trans hn (by decide)) lt hD p s4 ⟨z, hz, rfl⟩)⟩
end
end G57
end
section
/-! MEff: the plain law of effects. -/
namespace G57
structure Eff where
  shift : Int
  low : Int
  high : Int
  need : Int
  room : Int
  misses : Int
  waste : Int
def Eff.fin (e : Eff) (s : Int) : Int := min (max (s + e.shift) e.low) e.high
def Eff.mis (e : Eff) (s : Int) : Int := e.misses + max 0 (e.need - s)
def Eff.thr (e : Eff) (s : Int) : Int := e.waste + max 0 (s - e.room)
def Eff.seq (f g : Eff) : Eff :=
  if f.low = f.high then ⟨f.shift + g.shift, g.fin f.low, g.fin f.high, f.need, f.room, f.misses + g.mis f.low, f.waste + g.thr f.low⟩
  else ⟨f.shift + g.shift, g.fin f.low, g.fin f.high, min (max g.need f.low) f.high - f.shift, min (max g.room f.low) f.high - f.shift, f.misses + g.misses + max 0 (g.need - f.high), f.waste + g.waste + max 0 (f.low - g.room)⟩
def dayE (b c k : Int) : Eff := ⟨b - c, 0, k, 0 - (b - c), k - (b - c), 0, 0⟩
structure Eff.Ok (e : Eff) : Prop where
  le : e.low ≤ e.high
  nd : e.low < e.high → e.need = e.low - e.shift ∧ e.room = e.high - e.shift
theorem dayE_ok {b c k : Int} (h : 0 ≤ k) : (dayE b c k).Ok := ⟨h, fun _ => ⟨rfl, rfl⟩⟩
theorem seq_fin {f g : Eff} (hf : f.Ok) (hg : g.Ok) (s : Int) : (f.seq g).fin s = g.fin (f.fin s) := by
  have h1 := hf.le
  have h2 := hg.le
  unfold Eff.seq
  split <;> (simp only [Eff.fin]; omega)
theorem seq_mis {f g : Eff} (hf : f.Ok) (s : Int) : (f.seq g).mis s = f.mis s + g.mis (f.fin s) := by
  have h1 := hf.le
  unfold Eff.seq
  split
  · rename_i h
    simp only [Eff.mis, Eff.fin]
    omega
  · rename_i h
    obtain ⟨h3, h4⟩ := hf.nd (by omega)
    simp only [Eff.mis, Eff.fin]
    omega
theorem seq_thr {f g : Eff} (hf : f.Ok) (s : Int) : (f.seq g).thr s = f.thr s + g.thr (f.fin s) := by
  have h1 := hf.le
  unfold Eff.seq
  split
  · rename_i h
    simp only [Eff.thr, Eff.fin]
    omega
  · rename_i h
    obtain ⟨h3, h4⟩ := hf.nd (by omega)
    simp only [Eff.thr, Eff.fin]
    omega
theorem seq_ok {f g : Eff} (hf : f.Ok) (hg : g.Ok) : (f.seq g).Ok := by
  have h1 := hf.le
  have h2 := hg.le
  unfold Eff.seq
  split
  · rename_i h
    refine ⟨?_, ?_⟩
    · simp only [Eff.fin]
      omega
    · simp only [Eff.fin]
      intro z
      omega
  · rename_i h
    refine ⟨?_, ?_⟩
    · simp only [Eff.fin]
      omega
    · simp only [Eff.fin]
      intro z
      obtain ⟨h3, h4⟩ := hg.nd (by omega)
      omega
/-! ### n times -/
def itf (e : Eff) : Nat → Int → Int
  | 0, s => s
  | n + 1, s => e.fin (itf e n s)
def itm (e : Eff) : Nat → Int → Int
  | 0, _ => 0
  | n + 1, s => itm e n s + e.mis (itf e n s)
def itt (e : Eff) : Nat → Int → Int
  | 0, _ => 0
  | n + 1, s => itt e n s + e.thr (itf e n s)
theorem itf_add (e : Eff) (a : Nat) (s : Int) : ∀ b, itf e (a + b) s = itf e b (itf e a s)
  | 0 => rfl
  | b + 1 => congrArg e.fin (itf_add e a s b)
theorem itm_add (e : Eff) (a : Nat) (s : Int) : ∀ b, itm e (a + b) s = itm e a s + itm e b (itf e a s)
  | 0 => (Int.add_zero _).symm
  | b + 1 => by
    show itm e (a + b) s + e.mis (itf e (a + b) s) = itm e a s + (itm e b (itf e a s) + e.mis (itf e b (itf e a s)))
    rw [itm_add e a s b, itf_add e a s b, Int.add_assoc]
theorem itt_add (e : Eff) (a : Nat) (s : Int) : ∀ b, itt e (a + b) s = itt e a s + itt e b (itf e a s)
  | 0 => (Int.add_zero _).symm
  | b + 1 => by
    show itt e (a + b) s + e.thr (itf e (a + b) s) = itt e a s + (itt e b (itf e a s) + e.thr (itf e b (itf e a s)))
    rw [itt_add e a s b, itf_add e a s b, Int.add_assoc]
/-- g does what n times e does -/
structure IsPow (e : Eff) (n : Nat) (g : Eff) : Prop where
  ok : g.Ok
  fin : ∀ s, g.fin s = itf e n s
  mis : ∀ s, g.mis s = itm e n s
  thr : ∀ s, g.thr s = itt e n s
theorem isPow_one {e : Eff} (h : e.Ok) : IsPow e 1 e := ⟨h, fun _ => rfl, fun s => (Int.zero_add _).symm, fun s => (Int.zero_add _).symm⟩
theorem IsPow.seq {e f g : Eff} {a b : Nat} (hf : IsPow e a f) (hg : IsPow e b g) : IsPow e (a + b) (f.seq g) :=
  ⟨seq_ok hf.ok hg.ok, fun s => by rw [seq_fin hf.ok hg.ok, itf_add, hg.fin, hf.fin], fun s => by rw [seq_mis hf.ok, itm_add, hf.mis, hg.mis, hf.fin], fun s => by rw [seq_thr hf.ok, itt_add, hf.thr, hg.thr, hf.fin]⟩
theorem itf_fix {e : Eff} {s : Int} (h : e.fin s = s) : ∀ n, itf e n s = s
  | 0 => rfl
  | n + 1 => by
    show e.fin (itf e n s) = s
    rw [itf_fix h n, h]
theorem fin_mono {e : Eff} (h : e.Ok) {s t : Int} (l : s ≤ t) : e.fin s ≤ e.fin t := by
  simp only [Eff.fin]
  omega
theorem fin_in {e : Eff} (h : e.Ok) (s : Int) : e.low ≤ e.fin s ∧ e.fin s ≤ e.high := by
  have := h.le
  simp only [Eff.fin]
  omega
theorem itf_in {e : Eff} (h : e.Ok) {n : Nat} (p : 0 < n) (s : Int) : e.low ≤ itf e n s ∧ itf e n s ≤ e.high := by
  cases n with
  | zero => omega
  | succ n => exact fin_in h _
/-- the stock settles -/
theorem settles {e : Eff} (h : e.Ok) (s : Int) : ∃ n, e.fin (itf e n s) = itf e n s := by
  by_cases up : itf e 1 s ≤ itf e 2 s
  · have mono : ∀ n, itf e (n + 1) s ≤ itf e (n + 2) s := fun n => by
      induction n with
      | zero => exact up
      | succ n ih => exact fin_mono h ih
    false_or_by_contra
    rename_i no
    have grow : ∀ n : Nat, e.low + n ≤ itf e (n + 1) s := fun n => by
      induction n with
      | zero => exact Int.le_trans (by simp) (itf_in h (by omega) s).1
      | succ n ih =>
        have ne : e.fin (itf e (n + 1) s) ≠ itf e (n + 1) s := fun z => no ⟨_, z⟩
        have le := mono n
        have eq : itf e (n + 2) s = e.fin (itf e (n + 1) s) := rfl
        rw [eq] at le ⊢
        omega
    have a := grow (e.high - e.low + 1).toNat
    have b := (itf_in h (show 0 < (e.high - e.low + 1).toNat + 1 from Nat.succ_pos _) s).2
    have c := h.le
    omega
  · have mono : ∀ n, itf e (n + 2) s ≤ itf e (n + 1) s := fun n => by
      induction n with
      | zero => exact Int.le_of_lt (Int.not_le.mp up)
      | succ n ih => exact fin_mono h ih
    false_or_by_contra
    rename_i no
    have grow : ∀ n : Nat, itf e (n + 1) s ≤ e.high - n := fun n => by
      induction n with
      | zero => exact Int.le_trans (itf_in h (by omega) s).2 (by simp)
      | succ n ih =>
        have ne : e.fin (itf e (n + 1) s) ≠ itf e (n + 1) s := fun z => no ⟨_, z⟩
        have le := mono n
        have eq : itf e (n + 2) s = e.fin (itf e (n + 1) s) := rfl
        rw [eq] at le ⊢
        omega
    have a := grow (e.high - e.low + 1).toNat
    have b := (itf_in h (show 0 < (e.high - e.low + 1).toNat + 1 from Nat.succ_pos _) s).1
    have c := h.le
    omega
/-- the least number of rounds behind which the stock stays -/
theorem least_of {p : Nat → Prop} : (∃ n, p n) → ∃ n, p n ∧ ∀ m, m < n → ¬ p m := fun ⟨n, hn⟩ => by
  induction n using Nat.strongRecOn with
  | ind n ih =>
    by_cases h : ∃ m, m < n ∧ p m
    · obtain ⟨m, lt, hm⟩ := h
      exact ih m lt hm
    · exact ⟨n, hn, fun m lt hm => h ⟨m, lt, hm⟩⟩
def Settle (e : Eff) (s : Int) (r : Nat) : Prop := e.fin (itf e r s) = itf e r s ∧ ∀ m, m < r → e.fin (itf e m s) ≠ itf e m s
theorem settle_ex {e : Eff} (h : e.Ok) (s : Int) : ∃ r, Settle e s r := least_of (settles h s)
theorem Settle.iff {e : Eff} {s : Int} {r : Nat} (h : Settle e s r) (n : Nat) : e.fin (itf e n s) = itf e n s ↔ r ≤ n := by
  refine ⟨fun z => ?_, fun le => ?_⟩
  · false_or_by_contra
    exact h.2 n (by omega) z
  · obtain ⟨d, rfl⟩ : ∃ d, n = r + d := ⟨n - r, by omega⟩
    have q := itf_fix h.1 d
    rw [itf_add, q]
    exact h.1
end G57
end
section
/-! MBak: the plain law of a bakery: the stocks day by day. -/
namespace G57
structure Bak where
  bakes : List Int
  dems : List Int
  life : Int
def Bak.n (B : Bak) : Nat := B.bakes.length
def Bak.bk (B : Bak) (d : Int) : Int := if 0 ≤ d then B.bakes.getD (d % B.n).toNat 0 else 0
def Bak.wish (B : Bak) (d : Int) : Int := B.dems.getD (d % B.n).toNat 0
def Bak.kept (B : Bak) (d : Int) : Int := ((List.range (B.life - 1).toNat).map fun a => B.bk (d - (a : Nat))).sum
def Bak.eff (B : Bak) (d : Int) : Eff := dayE (B.bk d) (B.wish d) (B.kept d)
def Bak.st (B : Bak) : Nat → Int
  | 0 => 0
  | k + 1 => (B.eff (k : Nat)).fin (B.st k)
structure Bak.Ok (B : Bak) : Prop where
  n0 : 0 < B.n
  n1 : B.n ≤ 24
  m : B.dems.length = B.n
  l0 : 1 ≤ B.life
  l1 : B.life ≤ 30
  b : ∀ x ∈ B.bakes, 0 ≤ x ∧ x ≤ 1000000000
  d : ∀ x ∈ B.dems, 0 ≤ x ∧ x ≤ 1000000000
theorem Bak.Ok.ix {B : Bak} (h : B.Ok) (d : Int) : (d % B.n).toNat < B.n ∧ ((d % B.n).toNat : Int) = d % B.n := by
  have h0 := h.n0
  have h1 := Int.emod_nonneg d (show (B.n : Int) ≠ 0 by omega)
  have h2 := Int.emod_lt_of_pos d (show (0 : Int) < B.n by omega)
  omega
theorem Bak.Ok.bk_in {B : Bak} (h : B.Ok) (d : Int) : 0 ≤ B.bk d ∧ B.bk d ≤ 1000000000 := by
  unfold Bak.bk
  split
  · have z : (d % B.n).toNat < B.bakes.length := (h.ix d).1
    rw [List.getD_eq_getElem?_getD, List.getElem?_eq_getElem z]
    exact h.b _ (List.getElem_mem z)
  · omega
theorem Bak.Ok.wish_in {B : Bak} (h : B.Ok) (d : Int) : 0 ≤ B.wish d ∧ B.wish d ≤ 1000000000 := by
  unfold Bak.wish
  have z : (d % B.n).toNat < B.dems.length := Nat.lt_of_lt_of_eq (h.ix d).1 h.m.symm
  rw [List.getD_eq_getElem?_getD, List.getElem?_eq_getElem z]
  exact h.d _ (List.getElem_mem z)
theorem sum_nonneg : ∀ {l : List Int}, (∀ x ∈ l, 0 ≤ x) → 0 ≤ l.sum
  | [], _ => by simp
  | a :: l, h => by
    rw [List.sum_cons]
    have := h a (by simp)
    have := sum_nonneg (l := l) fun x hx => h x (by simp [hx])
    omega
theorem Bak.Ok.kept0 {B : Bak} (h : B.Ok) (d : Int) : 0 ≤ B.kept d := by
  refine sum_nonneg fun x hx => ?_
  obtain ⟨a, _, rfl⟩ := List.mem_map.mp hx
  exact (h.bk_in _).1
theorem Bak.Ok.effOk {B : Bak} (h : B.Ok) (d : Int) : (B.eff d).Ok := dayE_ok (h.kept0 d)
theorem Bak.Ok.bk_at {B : Bak} (h : B.Ok) {d : Int} (h0 : 0 ≤ d) : B.bakes[(d % B.n).toNat]? = some (B.bk d) := by
  have z := (h.ix d).1
  unfold Bak.bk
  rw [if_pos h0, List.getD_eq_getElem?_getD, List.getElem?_eq_getElem z]
  rfl
theorem Bak.Ok.wish_at {B : Bak} (h : B.Ok) (d : Int) : B.dems[(d % B.n).toNat]? = some (B.wish d) := by
  have z : (d % B.n).toNat < B.dems.length := Nat.lt_of_lt_of_eq (h.ix d).1 h.m.symm
  unfold Bak.wish
  rw [List.getD_eq_getElem?_getD, List.getElem?_eq_getElem z]
  rfl
theorem st_in {B : Bak} (h : B.Ok) : ∀ k, 0 ≤ B.st k
  | 0 => Int.le_refl _
  | k + 1 => (fin_in (h.effOk k) _).1
/-! ### the last of the early days -/
def Bak.last (B : Bak) : Nat := B.n * (((B.life - 1).toNat + B.n - 1) / B.n)
theorem Bak.Ok.last_ge {B : Bak} (h : B.Ok) : (B.life - 1).toNat ≤ B.last := by
  have n0 := h.n0
  unfold Bak.last
  have e := Nat.div_add_mod ((B.life - 1).toNat + B.n - 1) B.n
  have l := Nat.mod_lt ((B.life - 1).toNat + B.n - 1) n0
  omega
theorem Bak.Ok.last_lt {B : Bak} (h : B.Ok) : B.last < (B.life - 1).toNat + B.n := by
  have n0 := h.n0
  unfold Bak.last
  have e := Nat.div_add_mod ((B.life - 1).toNat + B.n - 1) B.n
  omega
theorem Bak.Ok.last_mod {B : Bak} (h : B.Ok) : B.last % B.n = 0 := Nat.mul_mod_right _ _
theorem Bak.Ok.last_min {B : Bak} (h : B.Ok) {j : Nat} (l : (B.life - 1).toNat ≤ j) (m : j % B.n = 0) : B.last ≤ j := by
  have n0 := h.n0
  have lt := h.last_lt
  have e := Nat.div_add_mod j B.n
  rw [m] at e
  unfold Bak.last at lt ⊢
  generalize ((B.life - 1).toNat + B.n - 1) / B.n = q at lt ⊢
  have z : q < j / B.n + 1 := by
    refine Nat.lt_of_mul_lt_mul_left (a := B.n) ?_
    rw [Nat.mul_add]
    omega
  have z2 : B.n * q ≤ B.n * (j / B.n) := Nat.mul_le_mul_left _ (by omega)
  omega
/-! ### from one day on -/
def Bak.rf (B : Bak) (a : Nat) : Nat → Int → Int
  | 0, s => s
  | k + 1, s => (B.eff ((a + k : Nat) : Int)).fin (B.rf a k s)
def Bak.rm (B : Bak) (a : Nat) : Nat → Int → Int
  | 0, _ => 0
  | k + 1, s => B.rm a k s + (B.eff ((a + k : Nat) : Int)).mis (B.rf a k s)
def Bak.rt (B : Bak) (a : Nat) : Nat → Int → Int
  | 0, _ => 0
  | k + 1, s => B.rt a k s + (B.eff ((a + k : Nat) : Int)).thr (B.rf a k s)
theorem st_rf (B : Bak) (a : Nat) : ∀ k, B.st (a + k) = B.rf a k (B.st a)
  | 0 => rfl
  | k + 1 => congrArg (B.eff ((a + k : Nat) : Int)).fin (st_rf B a k)
/-- what misses, what is thrown on a day -/
def Bak.ms (B : Bak) (d : Nat) : Int := (B.eff (d : Int)).mis (B.st d)
def Bak.th (B : Bak) (d : Nat) : Int := (B.eff (d : Int)).thr (B.st d)
def Bak.sm (B : Bak) (a : Nat) : Nat → Int
  | 0 => 0
  | k + 1 => B.sm a k + B.ms (a + k)
def Bak.sh (B : Bak) (a : Nat) : Nat → Int
  | 0 => 0
  | k + 1 => B.sh a k + B.th (a + k)
theorem rm_sm (B : Bak) (a : Nat) : ∀ k, B.rm a k (B.st a) = B.sm a k
  | 0 => rfl
  | k + 1 => by
    show B.rm a k (B.st a) + _ = B.sm a k + _
    rw [rm_sm B a k, ← st_rf]
    rfl
theorem rt_sh (B : Bak) (a : Nat) : ∀ k, B.rt a k (B.st a) = B.sh a k
  | 0 => rfl
  | k + 1 => by
    show B.rt a k (B.st a) + _ = B.sh a k + _
    rw [rt_sh B a k, ← st_rf]
    rfl
theorem sm_add (B : Bak) (a b : Nat) : ∀ k, B.sm a (b + k) = B.sm a b + B.sm (a + b) k
  | 0 => (Int.add_zero _).symm
  | k + 1 => by
    show B.sm a (b + k) + B.ms (a + (b + k)) = B.sm a b + (B.sm (a + b) k + B.ms (a + b + k))
    rw [sm_add B a b k, Nat.add_assoc]
    omega
theorem sh_add (B : Bak) (a b : Nat) : ∀ k, B.sh a (b + k) = B.sh a b + B.sh (a + b) k
  | 0 => (Int.add_zero _).symm
  | k + 1 => by
    show B.sh a (b + k) + B.th (a + (b + k)) = B.sh a b + (B.sh (a + b) k + B.th (a + b + k))
    rw [sh_add B a b k, Nat.add_assoc]
    omega
/-- g does what the k days from a on do -/
structure IsRun (B : Bak) (a k : Nat) (g : Eff) : Prop where
  ok : g.Ok
  fin : ∀ s, g.fin s = B.rf a k s
  mis : ∀ s, g.mis s = B.rm a k s
  thr : ∀ s, g.thr s = B.rt a k s
theorem isRun_one {B : Bak} (h : B.Ok) (a : Nat) : IsRun B a 1 (B.eff (a : Nat)) := ⟨h.effOk _, fun _ => rfl, fun _ => (Int.zero_add _).symm, fun _ => (Int.zero_add _).symm⟩
theorem IsRun.next {B : Bak} (h : B.Ok) {a k : Nat} {g : Eff} (r : IsRun B a k g) : IsRun B a (k + 1) (g.seq (B.eff ((a + k : Nat) : Int))) :=
  ⟨seq_ok r.ok (h.effOk _), fun s => by rw [seq_fin r.ok (h.effOk _), r.fin]; rfl, fun s => by rw [seq_mis r.ok, r.mis, r.fin]; rfl, fun s => by rw [seq_thr r.ok, r.thr, r.fin]; rfl⟩
/-! ### the days repeat -/
theorem bk_per {B : Bak} (d : Int) (h : 0 ≤ d) : B.bk (d + B.n) = B.bk d := by
  unfold Bak.bk
  rw [if_pos h, if_pos (by omega), Int.add_emod_right]
theorem wish_per {B : Bak} (d : Int) : B.wish (d + B.n) = B.wish d := by
  unfold Bak.wish
  rw [Int.add_emod_right]
theorem eff_per {B : Bak} {d : Nat} (h : (B.life - 1).toNat ≤ d) : B.eff ((d + B.n : Nat) : Int) = B.eff (d : Int) := by
  unfold Bak.eff
  have e1 : ((d + B.n : Nat) : Int) = (d : Int) + B.n := by omega
  rw [e1, bk_per _ (by omega), wish_per]
  have e2 : B.kept ((d : Int) + B.n) = B.kept d := by
    unfold Bak.kept
    congr 1
    refine List.map_congr_left fun a ha => ?_
    have lt := List.mem_range.mp ha
    have e3 : (d : Int) + B.n - (a : Nat) = ((d : Int) - (a : Nat)) + B.n := by omega
    rw [e3, bk_per _ (by omega)]
  rw [e2]
theorem eff_per2 {B : Bak} {d : Nat} (h : (B.life - 1).toNat ≤ d) : ∀ t : Nat, B.eff ((d + t * B.n : Nat) : Int) = B.eff (d : Int)
  | 0 => by
    rw [Nat.zero_mul]
    rfl
  | t + 1 => by
    have e : d + (t + 1) * B.n = (d + t * B.n) + B.n := by
      rw [Nat.add_mul]
      omega
    rw [e, eff_per (by omega)]
    exact eff_per2 h t
theorem IsRun.later {B : Bak} {a k : Nat} {g : Eff} (r : IsRun B a k g) (h : (B.life - 1).toNat ≤ a) (t : Nat) : IsRun B (a + t * B.n) k g := by
  have e1 : ∀ k : Nat, B.eff ((a + t * B.n + k : Nat) : Int) = B.eff ((a + k : Nat) : Int) := fun k => by
    have e : a + t * B.n + k = (a + k) + t * B.n := by omega
    rw [e]
    exact eff_per2 (by omega) t
  have e2 : ∀ (k : Nat) (s : Int), B.rf (a + t * B.n) k s = B.rf a k s := fun k s => by
    induction k with
    | zero => rfl
    | succ k ih =>
      show (B.eff ((a + t * B.n + k : Nat) : Int)).fin _ = (B.eff ((a + k : Nat) : Int)).fin _
      rw [e1, ih]
  have e3 : ∀ (k : Nat) (s : Int), B.rm (a + t * B.n) k s = B.rm a k s := fun k s => by
    induction k with
    | zero => rfl
    | succ k ih =>
      show _ + (B.eff ((a + t * B.n + k : Nat) : Int)).mis _ = _ + (B.eff ((a + k : Nat) : Int)).mis _
      rw [e1, ih, e2]
  have e4 : ∀ (k : Nat) (s : Int), B.rt (a + t * B.n) k s = B.rt a k s := fun k s => by
    induction k with
    | zero => rfl
    | succ k ih =>
      show _ + (B.eff ((a + t * B.n + k : Nat) : Int)).thr _ = _ + (B.eff ((a + k : Nat) : Int)).thr _
      rw [e1, ih, e2]
  exact ⟨r.ok, fun s => by rw [e2]; exact r.fin s, fun s => by rw [e3]; exact r.mis s, fun s => by rw [e4]; exact r.thr s⟩
/-- whole rounds -/
theorem IsRun.rounds {B : Bak} {a : Nat} {g : Eff} (r : IsRun B a B.n g) (h : (B.life - 1).toNat ≤ a) : ∀ t : Nat, itf g t (B.st a) = B.st (a + t * B.n) ∧ itm g t (B.st a) = B.sm a (t * B.n) ∧ itt g t (B.st a) = B.sh a (t * B.n)
  | 0 => by
    rw [Nat.zero_mul]
    exact ⟨rfl, rfl, rfl⟩
  | t + 1 => by
    obtain ⟨h1, h2, h3⟩ := r.rounds h t
    have q := r.later h t
    have e : (t + 1) * B.n = t * B.n + B.n := by
      rw [Nat.add_mul]
      omega
    rw [e]
    refine ⟨?_, ?_, ?_⟩
    · show g.fin (itf g t (B.st a)) = _
      rw [h1, q.fin, ← Nat.add_assoc, st_rf B (a + t * B.n)]
    · show itm g t (B.st a) + g.mis (itf g t (B.st a)) = _
      rw [h1, h2, q.mis, rm_sm, sm_add]
    · show itt g t (B.st a) + g.thr (itf g t (B.st a)) = _
      rw [h1, h3, q.thr, rt_sh, sh_add]
/-- the stocks repeat from day d on, and not from any day before -/
def Settled (B : Bak) (d : Nat) : Prop := (∀ j, d ≤ j → B.st (j + B.n) = B.st j) ∧ (0 < d → B.st (d - 1 + B.n) ≠ B.st (d - 1))
theorem settles_from {B : Bak} {a : Nat} (h : (B.life - 1).toNat ≤ a) (e : B.st (a + B.n) = B.st a) : ∀ j, a ≤ j → B.st (j + B.n) = B.st j := fun j hj => by
  obtain ⟨k, rfl⟩ : ∃ k, j = a + k := ⟨j - a, by omega⟩
  clear hj
  induction k with
  | zero => exact e
  | succ k ih =>
    have e2 : a + (k + 1) + B.n = (a + k + B.n) + 1 := by omega
    rw [e2]
    show (B.eff ((a + k + B.n : Nat) : Int)).fin (B.st (a + k + B.n)) = (B.eff ((a + k : Nat) : Int)).fin (B.st (a + k))
    rw [ih, eff_per (by omega)]
/-! ### what the customers want in all -/
def Bak.ws (B : Bak) : Nat → Int
  | 0 => 0
  | k + 1 => B.ws k + B.wish (k : Nat)
theorem wish_low {B : Bak} (h : B.Ok) {q r : Nat} (lt : r < B.n) : B.wish ((q * B.n + r : Nat) : Int) = B.dems.getD r 0 := by
  unfold Bak.wish
  have e : (((q * B.n + r : Nat) : Int) % (B.n : Nat)).toNat = r := by
    have e2 : ((q * B.n + r : Nat) : Int) % (B.n : Nat) = (((q * B.n + r) % B.n : Nat) : Int) := rfl
    rw [e2, Nat.mul_comm, Nat.mul_add_mod, Nat.mod_eq_of_lt lt]
    rfl
  rw [e]
theorem take_next : ∀ (l : List Int) (r : Nat), r < l.length → (l.take (r + 1)).sum = (l.take r).sum + l.getD r 0
  | a :: l, 0, _ => by simp
  | a :: l, r + 1, h => by
    have z := take_next l r (by simpa using h)
    simp only [List.take_succ_cons, List.sum_cons, List.getD_cons_succ] at z ⊢
    omega
theorem ws_rest {B : Bak} (h : B.Ok) (q : Nat) : ∀ r, r ≤ B.n → B.ws (q * B.n + r) = B.ws (q * B.n) + (B.dems.take r).sum
  | 0, _ => by simp
  | r + 1, le => by
    have z := ws_rest h q r (by omega)
    have m := h.m
    rw [take_next B.dems r (by omega), ← Int.add_assoc, ← z, ← wish_low h (q := q) (r := r) (by omega)]
    rfl
theorem ws_rounds {B : Bak} (h : B.Ok) : ∀ q : Nat, B.ws (q * B.n) = q * B.dems.sum
  | 0 => by
    rw [Nat.zero_mul]
    show (0 : Int) = 0 * _
    rw [Int.zero_mul]
  | q + 1 => by
    have e : (q + 1) * B.n = q * B.n + B.n := by
      rw [Nat.add_mul]
      omega
    have m := h.m
    have t : B.dems.take B.n = B.dems := List.take_of_length_le (by omega)
    rw [e, ws_rest h q B.n (Nat.le_refl _), ws_rounds h q, t, Int.natCast_add, Int.add_mul]
    omega
theorem ws_eq {B : Bak} (h : B.Ok) (k : Nat) : ((k / B.n : Nat) : Int) * B.dems.sum + (B.dems.take (k % B.n)).sum = B.ws k := by
  have z := ws_rest h (k / B.n) (k % B.n) (Nat.le_of_lt (Nat.mod_lt _ h.n0))
  have e : k / B.n * B.n + k % B.n = k := by rw [Nat.mul_comm]; exact Nat.div_add_mod _ _
  rw [e, ws_rounds h] at z
  exact z.symm
theorem sum_le : ∀ {l : List Int} {c : Int}, (∀ x ∈ l, x ≤ c) → l.sum ≤ l.length * c
  | [], _, _ => by simp
  | a :: l, c, h => by
    rw [List.sum_cons, List.length_cons]
    have h1 := h a (by simp)
    have h2 := sum_le (l := l) (c := c) fun x hx => h x (by simp [hx])
    rw [Int.natCast_add, Int.add_mul]
    omega
theorem Bak.Ok.dsum {B : Bak} (h : B.Ok) : 0 ≤ B.dems.sum ∧ B.dems.sum ≤ 24000000000 := by
  refine ⟨sum_nonneg fun x hx => (h.d x hx).1, ?_⟩
  have z := sum_le (l := B.dems) (c := 1000000000) fun x hx => (h.d x hx).2
  have m := h.m
  have n1 := h.n1
  have e : (B.dems.length : Int) ≤ 24 := by omega
  omega
theorem sum_next (f : Nat → Int) (m : Nat) : ((List.range (m + 1)).map f).sum = ((List.range m).map f).sum + f m := by
  rw [List.range_succ, List.map_append, List.sum_append]
  simp
theorem sum_ms (B : Bak) : ∀ m, ((List.range m).map B.ms).sum = B.sm 0 m
  | 0 => rfl
  | m + 1 => by
    rw [sum_next, sum_ms B m]
    show _ = B.sm 0 m + B.ms (0 + m)
    rw [Nat.zero_add]
theorem sum_th (B : Bak) : ∀ m, ((List.range m).map B.th).sum = B.sh 0 m
  | 0 => rfl
  | m + 1 => by
    rw [sum_next, sum_th B m]
    show _ = B.sh 0 m + B.th (0 + m)
    rw [Nat.zero_add]
theorem sum_sold (B : Bak) : ∀ m, ((List.range m).map fun j : Nat => B.wish j - B.ms j).sum = B.ws m - B.sm 0 m
  | 0 => rfl
  | m + 1 => by
    rw [sum_next, sum_sold B m]
    show _ = (B.ws m + B.wish (m : Nat)) - (B.sm 0 m + B.ms (0 + m))
    rw [Nat.zero_add]
    omega
/-! ### the loaves on the shelf -/
/-- behind the ages 1 to i: what is left of the stock, and what was found -/
def Bak.sg (B : Bak) (d : Nat) : Nat → Int × List (Int × Int)
  | 0 => (B.st d, [])
  | i + 1 =>
    let z := B.sg d i
    let c := min z.1 (B.bk ((d : Int) - (1 + (i : Nat))))
    (z.1 - c, if 0 < c then z.2 ++ [((d : Int) - (1 + (i : Nat)), c)] else z.2)
theorem sg_len (B : Bak) (d : Nat) : ∀ i, (B.sg d i).2.length ≤ i
  | 0 => Nat.le_refl _
  | i + 1 => by
    have z := sg_len B d i
    unfold Bak.sg
    simp only
    split
    · simp
      exact z
    · omega
/-- the shelf: the oldest first -/
def Bak.shelf (B : Bak) (d : Nat) : List (Int × Int) := (B.sg d (B.life - 1).toNat).2.reverse
end G57
end
section
/-! MSet: the plain law of settled bakeries. -/
namespace G57
theorem wish_per1 {B : Bak} (d : Nat) : B.wish ((d + B.n : Nat) : Int) = B.wish (d : Int) := by
  have e : ((d + B.n : Nat) : Int) = (d : Int) + B.n := by omega
  rw [e, wish_per]
theorem bk_per1 {B : Bak} (d : Nat) : B.bk ((d + B.n : Nat) : Int) = B.bk (d : Int) := by
  have e : ((d + B.n : Nat) : Int) = (d : Int) + B.n := by omega
  rw [e, bk_per _ (by omega)]
theorem ms_eq (B : Bak) (d : Nat) : B.ms d = max 0 (B.wish d - B.bk d - B.st d) := by
  unfold Bak.ms Bak.eff dayE Eff.mis
  simp only
  omega
/-- what was in stock and is baked is sold, thrown away or left -/
theorem flow {B : Bak} (h : B.Ok) (d : Nat) : B.th d = B.st d + B.bk d - (B.wish d - B.ms d) - B.st (d + 1) := by
  have k0 := h.kept0 d
  have s0 := st_in h d
  have e : B.st (d + 1) = (B.eff (d : Nat)).fin (B.st d) := rfl
  rw [e]
  unfold Bak.th Bak.ms Bak.eff dayE Eff.mis Eff.thr Eff.fin
  simp only
  omega
theorem ms_per {B : Bak} {d : Nat} (e : B.st (d + B.n) = B.st d) : B.ms (d + B.n) = B.ms d := by
  rw [ms_eq, ms_eq, wish_per1, bk_per1, e]
theorem th_per {B : Bak} (h : B.Ok) {d : Nat} (e : B.st (d + B.n) = B.st d) (e2 : B.st (d + 1 + B.n) = B.st (d + 1)) : B.th (d + B.n) = B.th d := by
  have z : d + B.n + 1 = d + 1 + B.n := by omega
  rw [flow h, flow h, ms_per e, wish_per1, bk_per1, e, z, e2]
/-- the sums over a round, from any settled day -/
theorem sm_shift {B : Bak} (h : B.Ok) {D : Nat} (s : Settled B D) : ∀ k, B.sm (D + k) B.n = B.sm D B.n ∧ B.sh (D + k) B.n = B.sh D B.n
  | 0 => ⟨rfl, rfl⟩
  | k + 1 => by
    obtain ⟨h1, h2⟩ := sm_shift h s k
    have n0 := h.n0
    have a1 := sm_add B (D + k) 1 B.n
    have a2 := sm_add B (D + k) B.n 1
    have b1 := sh_add B (D + k) 1 B.n
    have b2 := sh_add B (D + k) B.n 1
    have c : 1 + B.n = B.n + 1 := by omega
    rw [c] at a1 b1
    have p1 := ms_per (B := B) (s.1 (D + k) (by omega))
    have p2 := th_per h (s.1 (D + k) (by omega)) (s.1 (D + k + 1) (by omega))
    have u1 : B.sm (D + k + B.n) 1 = B.ms (D + k + B.n) := by
      show (0 : Int) + B.ms (D + k + B.n + 0) = _
      simp
    have u2 : B.sh (D + k + B.n) 1 = B.th (D + k + B.n) := by
      show (0 : Int) + B.th (D + k + B.n + 0) = _
      simp
    have v1 : B.sm (D + k) 1 = B.ms (D + k) := by
      show (0 : Int) + B.ms (D + k + 0) = _
      simp
    have v2 : B.sh (D + k) 1 = B.th (D + k) := by
      show (0 : Int) + B.th (D + k + 0) = _
      simp
    have e : D + (k + 1) = D + k + 1 := by omega
    rw [e]
    omega
theorem sm_from {B : Bak} (h : B.Ok) {D R : Nat} (s : Settled B D) (l : D ≤ R) : B.sm R B.n = B.sm D B.n ∧ B.sh R B.n = B.sh D B.n := by
  have z := sm_shift h s (R - D)
  have e : D + (R - D) = R := by omega
  rw [e] at z
  exact z
/-- whole rounds behind a settled day -/
theorem sm_rounds {B : Bak} (h : B.Ok) {D a : Nat} (s : Settled B D) (l : D ≤ a) : ∀ t : Nat, B.sm a (t * B.n) = t * B.sm D B.n ∧ B.sh a (t * B.n) = t * B.sh D B.n
  | 0 => by
    rw [Nat.zero_mul]
    constructor
    · show (0 : Int) = 0 * _
      rw [Int.zero_mul]
    · show (0 : Int) = 0 * _
      rw [Int.zero_mul]
  | t + 1 => by
    obtain ⟨h1, h2⟩ := sm_rounds h s l t
    obtain ⟨h3, h4⟩ := sm_from h s (show D ≤ a + t * B.n by omega)
    have e : (t + 1) * B.n = t * B.n + B.n := by
      rw [Nat.add_mul]
      omega
    rw [e, sm_add, sh_add, h1, h2, h3, h4, Int.natCast_add, Int.add_mul, Int.add_mul]
    constructor <;> omega
theorem ws_add {B : Bak} (h : B.Ok) (a t : Nat) : B.ws (a + t * B.n) = B.ws a + t * B.dems.sum := by
  have n0 := h.n0
  rw [← ws_eq h, ← ws_eq h a, Nat.add_mul_div_right _ _ n0, Nat.add_mul_mod_self_right, Int.natCast_add, Int.add_mul]
  omega
theorem settled_uniq {B : Bak} {D E : Nat} (h : Settled B D) (k : Settled B E) : D = E := by
  rcases Nat.lt_trichotomy D E with lt | e | gt
  · exact absurd (h.1 (E - 1) (by omega)) (k.2 (by omega))
  · exact e
  · exact absurd (k.1 (D - 1) (by omega)) (h.2 (by omega))
/-! ### stocks never fall from round to round -/
theorem kept_up {B : Bak} (h : B.Ok) (d : Nat) : B.kept (d : Int) ≤ B.kept ((d + B.n : Nat) : Int) := by
  unfold Bak.kept
  have le : ∀ (f g : Nat → Int) (k : Nat), (∀ i, i < k → f i ≤ g i) → ((List.range k).map f).sum ≤ ((List.range k).map g).sum := fun f g k => by
    induction k with
    | zero => exact fun _ => Int.le_refl _
    | succ k ih =>
      intro z
      rw [sum_next, sum_next]
      have := ih fun i hi => z i (by omega)
      have := z k (by omega)
      omega
  refine le _ _ _ fun i _ => ?_
  by_cases c : (0 : Int) ≤ (d : Int) - (i : Nat)
  · have e : ((d + B.n : Nat) : Int) - (i : Nat) = ((d : Int) - (i : Nat)) + B.n := by omega
    rw [e, bk_per _ c]
    exact Int.le_refl _
  · have z : B.bk ((d : Int) - (i : Nat)) = 0 := by
      unfold Bak.bk
      rw [if_neg c]
    rw [z]
    exact (h.bk_in _).1
theorem st_up {B : Bak} (h : B.Ok) : ∀ d : Nat, B.st d ≤ B.st (d + B.n)
  | 0 => st_in h _
  | d + 1 => by
    have ih := st_up h d
    have k := kept_up h d
    have k0 := h.kept0 d
    have e : d + 1 + B.n = d + B.n + 1 := by omega
    rw [e]
    show (B.eff (d : Nat)).fin (B.st d) ≤ (B.eff ((d + B.n : Nat) : Int)).fin (B.st (d + B.n))
    unfold Bak.eff dayE Eff.fin
    simp only
    rw [wish_per1, bk_per1]
    omega
theorem ms_down {B : Bak} (h : B.Ok) (d : Nat) : B.ms (d + B.n) ≤ B.ms d := by
  have z := st_up h d
  rw [ms_eq, ms_eq, wish_per1, bk_per1]
  omega
/-! ### the settled day is not far -/
theorem settles_in {e : Eff} (h : e.Ok) (s : Int) : ∃ n, n ≤ (e.high - e.low + 1).toNat + 1 ∧ e.fin (itf e n s) = itf e n s := by
  false_or_by_contra
  rename_i no
  have c := h.le
  by_cases up : itf e 1 s ≤ itf e 2 s
  · have mono : ∀ n, itf e (n + 1) s ≤ itf e (n + 2) s := fun n => by
      induction n with
      | zero => exact up
      | succ n ih => exact fin_mono h ih
    have grow : ∀ n : Nat, n ≤ (e.high - e.low + 1).toNat → e.low + n ≤ itf e (n + 1) s := fun n => by
      induction n with
      | zero => exact fun _ => Int.le_trans (by simp) (itf_in h (by omega) s).1
      | succ n ih =>
        intro hn
        have z := ih (by omega)
        have ne : e.fin (itf e (n + 1) s) ≠ itf e (n + 1) s := fun z => no ⟨_, by omega, z⟩
        have le := mono n
        have eq : itf e (n + 2) s = e.fin (itf e (n + 1) s) := rfl
        rw [eq] at le ⊢
        omega
    have a := grow (e.high - e.low + 1).toNat (Nat.le_refl _)
    have b := (itf_in h (show 0 < (e.high - e.low + 1).toNat + 1 from Nat.succ_pos _) s).2
    omega
  · have mono : ∀ n, itf e (n + 2) s ≤ itf e (n + 1) s := fun n => by
      induction n with
      | zero => exact Int.le_of_lt (Int.not_le.mp up)
      | succ n ih => exact fin_mono h ih
    have grow : ∀ n : Nat, n ≤ (e.high - e.low + 1).toNat → itf e (n + 1) s ≤ e.high - n := fun n => by
      induction n with
      | zero => exact fun _ => Int.le_trans (itf_in h (by omega) s).2 (by simp)
      | succ n ih =>
        intro hn
        have z := ih (by omega)
        have ne : e.fin (itf e (n + 1) s) ≠ itf e (n + 1) s := fun z => no ⟨_, by omega, z⟩
        have le := mono n
        have eq : itf e (n + 2) s = e.fin (itf e (n + 1) s) := rfl
        rw [eq] at le ⊢
        omega
    have a := grow (e.high - e.low + 1).toNat (Nat.le_refl _)
    have b := (itf_in h (show 0 < (e.high - e.low + 1).toNat + 1 from Nat.succ_pos _) s).1
    omega
theorem run_ex {B : Bak} (h : B.Ok) (a : Nat) : ∀ k : Nat, 0 < k → ∃ g, IsRun B a k g
  | 1, _ => ⟨_, isRun_one h a⟩
  | k + 2, _ => let ⟨g, r⟩ := run_ex h a (k + 1) (Nat.succ_pos k); ⟨_, r.next h⟩
theorem kept_le {B : Bak} (h : B.Ok) (d : Int) : B.kept d ≤ 29000000000 := by
  unfold Bak.kept
  have z := sum_le (l := (List.range (B.life - 1).toNat).map fun a : Nat => B.bk (d - a)) (c := 1000000000) fun x hx => by
    obtain ⟨a, _, rfl⟩ := List.mem_map.mp hx
    exact (h.bk_in _).2
  have l0 := h.l0
  have l1 := h.l1
  rw [List.length_map, List.length_range] at z
  have e : (((B.life - 1).toNat : Nat) : Int) ≤ 29 := by omega
  omega
theorem rf_in {B : Bak} (h : B.Ok) (a : Nat) (s : Int) : ∀ k : Nat, 0 < k → 0 ≤ B.rf a k s ∧ B.rf a k s ≤ 29000000000
  | k + 1, _ => by
    have z := fin_in (h.effOk ((a + k : Nat) : Int)) (B.rf a k s)
    have k1 := kept_le h ((a + k : Nat) : Int)
    have e1 : (B.eff ((a + k : Nat) : Int)).low = 0 := rfl
    have e2 : (B.eff ((a + k : Nat) : Int)).high = B.kept ((a + k : Nat) : Int) := rfl
    show 0 ≤ (B.eff ((a + k : Nat) : Int)).fin (B.rf a k s) ∧ (B.eff ((a + k : Nat) : Int)).fin (B.rf a k s) ≤ 29000000000
    omega
theorem settled_le {B : Bak} (h : B.Ok) {D : Nat} (s : Settled B D) : D ≤ 1000000000000 := by
  obtain ⟨g, r⟩ := run_ex h B.last B.n h.n0
  have hl : g.high = B.rf B.last B.n (g.high - g.shift) := by
    rw [← r.fin]
    have := r.ok.le
    unfold Eff.fin
    omega
  have hw : g.low = B.rf B.last B.n (g.low - g.shift) := by
    rw [← r.fin]
    have := r.ok.le
    unfold Eff.fin
    omega
  have i1 := (rf_in h B.last (g.high - g.shift) B.n h.n0).2
  have i2 := (rf_in h B.last (g.low - g.shift) B.n h.n0).1
  rw [← hl] at i1
  rw [← hw] at i2
  obtain ⟨m, hm, e⟩ := settles_in r.ok (B.st B.last)
  have rd := (r.rounds h.last_ge m).1
  have lt := h.last_lt
  have l1 := h.l1
  have n1 := h.n1
  have later := r.later h.last_ge m
  rw [rd, later.fin, ← st_rf] at e
  have per := settles_from (Nat.le_trans h.last_ge (Nat.le_add_right _ (m * B.n))) e
  have dl : D ≤ B.last + m * B.n := by
    false_or_by_contra
    rename_i c
    refine s.2 (by omega) (per _ (by omega))
  have mb : m * B.n ≤ 29000000002 * 24 := Nat.mul_le_mul (by omega) n1
  omega
end G57
end
section
/-! MMore: more loaves, a longer life: never more is missed. -/
namespace G57
/-- C has at least the loaves of B -/
structure Below (B C : Bak) : Prop where
  n : C.n = B.n
  d : C.dems = B.dems
  b : ∀ d : Nat, B.bk (d : Int) ≤ C.bk (d : Int)
  k : ∀ d : Nat, B.kept (d : Int) ≤ C.kept (d : Int)
section
variable {B C : Bak}
theorem Below.w (h : Below B C) (d : Int) : C.wish d = B.wish d := by
  unfold Bak.wish
  rw [h.n, h.d]
theorem Below.st (h : Below B C) (hB : B.Ok) (hC : C.Ok) : ∀ d : Nat, B.st d ≤ C.st d
  | 0 => Int.le_refl _
  | d + 1 => by
    have ih := h.st hB hC d
    have b := h.b d
    have k := h.k d
    have k0 := hB.kept0 d
    show (B.eff (d : Nat)).fin (B.st d) ≤ (C.eff (d : Nat)).fin (C.st d)
    unfold Bak.eff dayE Eff.fin
    simp only
    rw [h.w]
    omega
theorem Below.ms (h : Below B C) (hB : B.Ok) (hC : C.Ok) (d : Nat) : C.ms d ≤ B.ms d := by
  have s := h.st hB hC d
  have b := h.b d
  rw [ms_eq, ms_eq, h.w]
  omega
theorem Below.sm (h : Below B C) (hB : B.Ok) (hC : C.Ok) (a : Nat) : ∀ k : Nat, C.sm a k ≤ B.sm a k
  | 0 => Int.le_refl _
  | k + 1 => by
    have ih := h.sm hB hC a k
    have m := h.ms hB hC (a + k)
    show C.sm a k + C.ms (a + k) ≤ B.sm a k + B.ms (a + k)
    omega
end
/-- what is missed per round in the long run -/
noncomputable def Bak.lost (B : Bak) : Int := open Classical in if h : ∃ D, Settled B D then B.sm h.choose B.n else 0
theorem lost_eq {B : Bak} {D : Nat} (s : Settled B D) : B.lost = B.sm D B.n := by
  have h : ∃ D, Settled B D := ⟨D, s⟩
  unfold Bak.lost
  rw [dif_pos h, settled_uniq h.choose_spec s]
theorem Below.lost {B C : Bak} (h : Below B C) (hB : B.Ok) (hC : C.Ok) {D E : Nat} (sB : Settled B D) (sC : Settled C E) : C.lost ≤ B.lost := by
  have e1 := (sm_from hB sB (show D ≤ max D E by omega)).1
  have e2 := (sm_from hC sC (show E ≤ max D E by omega)).1
  rw [lost_eq sB, lost_eq sC, ← e1, ← e2, h.n]
  exact h.sm hB hC _ _
theorem ms_in {B : Bak} (h : B.Ok) (d : Nat) : 0 ≤ B.ms d ∧ B.ms d ≤ B.wish d := by
  have w := h.wish_in d
  have b := h.bk_in d
  have s := st_in h d
  rw [ms_eq]
  omega
theorem ws_from {B : Bak} (h : B.Ok) (a : Nat) : ∀ k : Nat, 0 ≤ B.sm a k ∧ B.sm a k ≤ B.ws (a + k) - B.ws a
  | 0 => by
    show (0 : Int) ≤ 0 ∧ (0 : Int) ≤ _
    rw [Nat.add_zero]
    omega
  | k + 1 => by
    have ih := ws_from h a k
    have m := ms_in h (a + k)
    have e : B.ws (a + (k + 1)) = B.ws (a + k) + B.wish ((a + k : Nat) : Int) := rfl
    show 0 ≤ B.sm a k + B.ms (a + k) ∧ B.sm a k + B.ms (a + k) ≤ _
    omega
theorem round_in {B : Bak} (h : B.Ok) (D : Nat) : 0 ≤ B.sm D B.n ∧ B.sm D B.n ≤ B.dems.sum := by
  have z := ws_from h D B.n
  have e := ws_add h D 1
  rw [Nat.one_mul] at e
  simp at e
  omega
/-! ### every bakery settles -/
theorem settled_ex {B : Bak} (h : B.Ok) : ∃ D, Settled B D := by
  obtain ⟨g, r⟩ := run_ex h B.last B.n h.n0
  obtain ⟨m, e⟩ := settles r.ok (B.st B.last)
  have rd := (r.rounds h.last_ge m).1
  have later := r.later h.last_ge m
  rw [rd, later.fin, ← st_rf] at e
  have per := settles_from (Nat.le_trans h.last_ge (Nat.le_add_right _ (m * B.n))) e
  obtain ⟨D, hD, hm⟩ := least_of (p := fun a => ∀ j, a ≤ j → B.st (j + B.n) = B.st j) ⟨_, per⟩
  refine ⟨D, hD, fun h0 z => hm (D - 1) (by omega) fun j hj => ?_⟩
  by_cases ej : j = D - 1
  · rw [ej]
    exact z
  · exact hD j (by omega)
theorem lost_in {B : Bak} (h : B.Ok) : 0 ≤ B.lost ∧ B.lost ≤ B.dems.sum := by
  obtain ⟨D, s⟩ := settled_ex h
  rw [lost_eq s]
  exact round_in h D
/-! ### a longer life, more baking -/
def Bak.liv (B : Bak) (l : Int) : Bak := ⟨B.bakes, B.dems, l⟩
def Bak.mor (B : Bak) (c : Int) : Bak := ⟨B.bakes.map fun x => x + c, B.dems, B.life⟩
theorem sum_more {f : Nat → Int} (h : ∀ j, 0 ≤ f j) {a b : Nat} (l : a ≤ b) : ((List.range a).map f).sum ≤ ((List.range b).map f).sum := by
  obtain ⟨k, rfl⟩ : ∃ k, b = a + k := ⟨b - a, by omega⟩
  clear l
  induction k with
  | zero => exact Int.le_refl _
  | succ k ih =>
    have e : a + (k + 1) = (a + k) + 1 := by omega
    rw [e, sum_next]
    have := h (a + k)
    omega
theorem liv_below {B : Bak} (h : B.Ok) {l m : Int} (le : l ≤ m) : Below (B.liv l) (B.liv m) :=
  ⟨rfl, rfl, fun d => Int.le_refl _, fun d => sum_more (f := fun a : Nat => B.bk ((d : Int) - (a : Nat))) (fun j => (h.bk_in _).1) (show (l - 1).toNat ≤ (m - 1).toNat by omega)⟩
theorem mor_n {B : Bak} {c : Int} : (B.mor c).n = B.n := by
  unfold Bak.n Bak.mor
  simp
theorem mor_bk {B : Bak} (h : B.Ok) {c d : Int} (h0 : 0 ≤ d) : (B.mor c).bk d = B.bk d + c := by
  have z := (h.ix d).1
  unfold Bak.bk
  rw [if_pos h0, if_pos h0, mor_n, List.getD_eq_getElem?_getD, List.getD_eq_getElem?_getD]
  show ((B.bakes.map fun x => x + c)[(d % (B.n : Nat)).toNat]?).getD 0 = _
  rw [List.getElem?_map, List.getElem?_eq_getElem (show (d % (B.n : Nat)).toNat < B.bakes.length from z)]
  rfl
theorem mor_bk0 {B : Bak} {c d : Int} (h0 : ¬ 0 ≤ d) : (B.mor c).bk d = 0 := by
  unfold Bak.bk
  rw [if_neg h0]
theorem mor_below {B : Bak} (h : B.Ok) {c e : Int} (le : c ≤ e) : Below (B.mor c) (B.mor e) := by
  have b : ∀ d : Int, (B.mor c).bk d ≤ (B.mor e).bk d := fun d => by
    by_cases h0 : 0 ≤ d
    · rw [mor_bk h h0, mor_bk h h0]
      omega
    · rw [mor_bk0 h0, mor_bk0 h0]
      exact Int.le_refl _
  refine ⟨by rw [mor_n, mor_n], rfl, fun d => b d, fun d => ?_⟩
  have z : ∀ k : Nat, ((List.range k).map fun a : Nat => (B.mor c).bk ((d : Int) - (a : Nat))).sum ≤ ((List.range k).map fun a : Nat => (B.mor e).bk ((d : Int) - (a : Nat))).sum := fun k => by
    induction k with
    | zero => exact Int.le_refl _
    | succ k ih =>
      rw [sum_next, sum_next]
      have := b ((d : Int) - (k : Nat))
      omega
  exact z (B.life - 1).toNat
theorem liv_ok {B : Bak} (h : B.Ok) {x : Int} (l0 : 1 ≤ x) (l1 : x ≤ 30) : (B.liv x).Ok := ⟨h.n0, h.n1, h.m, l0, l1, h.b, h.d⟩
theorem mor_ok {B : Bak} (h : B.Ok) {c : Int} (hb : ∀ x ∈ B.bakes, 0 ≤ x + c ∧ x + c ≤ 1000000000) : (B.mor c).Ok :=
  ⟨by rw [mor_n]; exact h.n0, by rw [mor_n]; exact h.n1, by rw [mor_n]; exact h.m, h.l0, h.l1, fun x hx => by
    obtain ⟨y, hy, rfl⟩ := List.mem_map.mp hx
    exact hb y hy, h.d⟩
theorem liv_lost {B : Bak} (h : B.Ok) {l m : Int} (l0 : 1 ≤ l) (le : l ≤ m) (m1 : m ≤ 30) : (B.liv m).lost ≤ (B.liv l).lost := by
  have o1 := liv_ok h l0 (show l ≤ 30 by omega)
  have o2 := liv_ok h (show 1 ≤ m by omega) m1
  obtain ⟨D, s⟩ := settled_ex o1
  obtain ⟨E, t⟩ := settled_ex o2
  exact (liv_below h le).lost o1 o2 s t
theorem mor_lost {B : Bak} (h : B.Ok) {c e : Int} (le : c ≤ e) (o1 : (B.mor c).Ok) (o2 : (B.mor e).Ok) : (B.mor e).lost ≤ (B.mor c).lost := by
  obtain ⟨D, s⟩ := settled_ex o1
  obtain ⟨E, t⟩ := settled_ex o2
  exact (mor_below h le).lost o1 o2 s t
/-- the first place of a filtered range -/
theorem filter_head {p : Nat → Bool} {n k : Nat} {r : List Nat} (h : (List.range n).filter p = k :: r) : p k = true ∧ k < n ∧ ∀ j, j < k → p j = false := by
  have hm : k ∈ (List.range n).filter p := by
    rw [h]
    simp
  obtain ⟨h1, h2⟩ := List.mem_filter.mp hm
  refine ⟨h2, List.mem_range.mp h1, fun j hj => ?_⟩
  cases e : p j with
  | false => rfl
  | true =>
    exfalso
    have hj2 : j ∈ (List.range n).filter p := List.mem_filter.mpr ⟨List.mem_range.mpr (by have := List.mem_range.mp h1; omega), e⟩
    have pw : ((List.range n).filter p).Pairwise (· < ·) := List.Pairwise.filter _ List.pairwise_lt_range
    rw [h] at hj2 pw
    rcases List.mem_cons.mp hj2 with z | z
    · omega
    · have := (List.pairwise_cons.mp pw).1 j z
      omega
theorem filter_nil {p : Nat → Bool} {n : Nat} (h : (List.range n).filter p = []) : ∀ j, j < n → p j = false := fun j hj => by
  cases e : p j with
  | false => rfl
  | true =>
    have z : j ∈ (List.range n).filter p := List.mem_filter.mpr ⟨List.mem_range.mpr hj, e⟩
    rw [h] at z
    cases z
end G57
end
section
/-! MErr: the first fault of bakes, demands, life. -/
namespace G57
/-- a fault at a place -/
def badAt (xs : List Int) (k : Nat) : Bool := decide (k = 24) || !(decide (0 ≤ xs.getD k 0) && decide (xs.getD k 0 ≤ 1000000000))
def amErr (xs : List Int) : Option Nat := (List.range xs.length).find? (badAt xs)
theorem find_range {p : Nat → Bool} : ∀ {n k : Nat}, k < n → p k = true → (∀ j, j < k → p j = false) → (List.range n).find? p = some k := by
  intro n
  induction n with
  | zero => intro k h; omega
  | succ n ih =>
    intro k h hp hj
    rw [List.range_succ, List.find?_append]
    by_cases e : k < n
    · rw [ih e hp hj]
      rfl
    · have : k = n := by omega
      subst this
      have z : (List.range k).find? p = none := List.find?_eq_none.mpr fun j m => by
        rw [hj j (List.mem_range.mp m)]
        exact Bool.false_ne_true
      rw [z]
      simp [List.find?, hp]
theorem amErr_at {xs : List Int} {k : Nat} (h : k < xs.length) (b : badAt xs k = true) (f : ∀ j, j < k → badAt xs j = false) : amErr xs = some k := find_range h b f
theorem amErr_no {xs : List Int} (f : ∀ j, j < xs.length → badAt xs j = false) : amErr xs = none := List.find?_eq_none.mpr fun j m => by
  rw [f j (List.mem_range.mp m)]
  exact Bool.false_ne_true
theorem amErr_none {xs : List Int} (h : amErr xs = none) : xs.length ≤ 24 ∧ ∀ x ∈ xs, 0 ≤ x ∧ x ≤ 1000000000 := by
  have f : ∀ j, j < xs.length → badAt xs j = false := fun j l => by
    have z := List.find?_eq_none.mp h j (List.mem_range.mpr l)
    exact Bool.eq_false_iff.mpr z
  refine ⟨Nat.not_lt.mp fun l => ?_, fun x m => ?_⟩
  · have z := f 24 l
    unfold badAt at z
    simp at z
  · obtain ⟨j, l, rfl⟩ := List.mem_iff_getElem.mp m
    have z := f j l
    unfold badAt at z
    rw [List.getD_eq_getElem?_getD, List.getElem?_eq_getElem l] at z
    simp at z
    exact z.2
theorem badAt_of {xs : List Int} {k : Nat} {x : Int} (h : xs[k]? = some x) : badAt xs k = (decide (k = 24) || !(decide (0 ≤ x) && decide (x ≤ 1000000000))) := by
  unfold badAt
  rw [List.getD_eq_getElem?_getD, h]
  rfl
/-- the first fault -/
def bkErr (b e : List Int) (l : Int) : Option (Nat × Int) :=
  match amErr b with
  | some k => some (0, (k : Int))
  | none => if b = [] then some (0, -1) else
    match amErr e with
    | some k => some (1, (k : Int))
    | none => if e.length ≠ b.length then some (1, -1) else if 1 ≤ l ∧ l ≤ 30 then none else some (2, -1)
theorem bkErr_b {b e : List Int} {l : Int} {k : Nat} (h : amErr b = some k) : bkErr b e l = some (0, (k : Int)) := by
  unfold bkErr
  rw [h]
theorem bkErr_b0 {e : List Int} {l : Int} : bkErr [] e l = some (0, -1) := rfl
theorem bkErr_d {b e : List Int} {l : Int} {k : Nat} (h : amErr b = none) (n : b ≠ []) (h2 : amErr e = some k) : bkErr b e l = some (1, (k : Int)) := by
  unfold bkErr
  rw [h, h2]
  simp [n]
theorem bkErr_m {b e : List Int} {l : Int} (h : amErr b = none) (n : b ≠ []) (h2 : amErr e = none) (m : e.length ≠ b.length) : bkErr b e l = some (1, -1) := by
  unfold bkErr
  rw [h, h2]
  simp [n, m]
theorem bkErr_l {b e : List Int} {l : Int} (h : amErr b = none) (n : b ≠ []) (h2 : amErr e = none) (m : e.length = b.length) (x : l < 1 ∨ 30 < l) : bkErr b e l = some (2, -1) := by
  unfold bkErr
  rw [h, h2]
  have : ¬ (1 ≤ l ∧ l ≤ 30) := by omega
  simp [n, m, this]
theorem bkErr_no {b e : List Int} {l : Int} (h : amErr b = none) (n : b ≠ []) (h2 : amErr e = none) (m : e.length = b.length) (x : 1 ≤ l ∧ l ≤ 30) : bkErr b e l = none := by
  unfold bkErr
  rw [h, h2]
  simp [n, m, x]
theorem bkErr_ok {b e : List Int} {l : Int} (h : bkErr b e l = none) : (Bak.mk b e l).Ok := by
  unfold bkErr at h
  split at h
  · cases h
  · rename_i hb
    split at h
    · cases h
    · rename_i nb
      split at h
      · cases h
      · rename_i he
        split at h
        · cases h
        · rename_i m
          split at h
          · rename_i x
            obtain ⟨b1, b2⟩ := amErr_none hb
            obtain ⟨e1, e2⟩ := amErr_none he
            have m' : e.length = b.length := Classical.byContradiction m
            refine ⟨?_, b1, m', x.1, x.2, b2, e2⟩
            cases b with
            | nil => exact absurd rfl nb
            | cons => exact Nat.succ_pos _
          · cases h
theorem amErr_in {xs : List Int} (l : xs.length ≤ 24) (f : ∀ x ∈ xs, 0 ≤ x ∧ x ≤ 1000000000) : amErr xs = none := amErr_no fun j hj => by
  have z := f _ (List.getElem_mem hj)
  rw [badAt_of (List.getElem?_eq_getElem hj)]
  simp [z.1, z.2]
  omega
theorem Bak.Ok.nb {B : Bak} (h : B.Ok) : B.bakes ≠ [] := fun e => by
  have n0 := h.n0
  have : B.n = 0 := by unfold Bak.n; rw [e]; rfl
  omega
theorem ok_bkErr {B : Bak} (h : B.Ok) : bkErr B.bakes B.dems B.life = none := bkErr_no (amErr_in h.n1 h.b) h.nb (amErr_in (by rw [h.m]; exact h.n1) h.d) h.m ⟨h.l0, h.l1⟩
theorem life_bkErr {B : Bak} (h : B.Ok) {y : Int} (hy : y < 1 ∨ 30 < y) : bkErr B.bakes B.dems y = some (2, -1) := bkErr_l (amErr_in h.n1 h.b) h.nb (amErr_in (by rw [h.m]; exact h.n1) h.d) h.m hy
end G57
end
section
/-! MPlay: the plain law of a shelf that is played, the oldest loaves sold first. -/
namespace G57
abbrev Prs : Type := List (Int × Int)
def tot (X : Prs) : Int := (X.map fun z => z.2).sum
theorem tot_nil : tot [] = 0 := rfl
theorem tot_cons (b a : Int) (X : Prs) : tot ((b, a) :: X) = a + tot X := by
  unfold tot
  rw [List.map_cons, List.sum_cons]
theorem tot_append (X Y : Prs) : tot (X ++ Y) = tot X + tot Y := by
  unfold tot
  rw [List.map_append, List.sum_append]
def Non (X : Prs) : Prop := ∀ z ∈ X, 0 ≤ z.2
theorem Non.tl {x : Int × Int} {X : Prs} (h : Non (x :: X)) : Non X := fun z hz => h z (List.mem_cons_of_mem _ hz)
theorem Non.hd {x : Int × Int} {X : Prs} (h : Non (x :: X)) : 0 ≤ x.2 := h x List.mem_cons_self
theorem tot_non : ∀ {X : Prs}, Non X → 0 ≤ tot X
  | [], _ => Int.le_refl _
  | (b, a) :: X, h => by
    have h1 := h.hd
    have h2 := tot_non h.tl
    rw [tot_cons]
    simp only at h1
    omega
/-- the newest S loaves of X, the newest first -/
def nw : Int → Prs → Prs
  | _, [] => []
  | S, (b, a) :: X => if 0 < min S a then (b, min S a) :: nw (S - min S a) X else nw (S - min S a) X
def rem : Int → Prs → Int
  | S, [] => S
  | S, (_, a) :: X => rem (S - min S a) X
theorem rem_eq : ∀ {X : Prs} {S : Int}, Non X → 0 ≤ S → rem S X = max 0 (S - tot X)
  | [], S, _, h => by
    rw [tot_nil]
    show S = _
    omega
  | (b, a) :: X, S, n, h => by
    have h1 := n.hd
    simp only at h1
    show rem (S - min S a) X = _
    rw [rem_eq n.tl (by omega), tot_cons]
    have h2 := tot_non n.tl
    omega
theorem nw_append : ∀ (A B : Prs) (S : Int), nw S (A ++ B) = nw S A ++ nw (rem S A) B
  | [], B, S => rfl
  | (b, a) :: A, B, S => by
    show (if 0 < min S a then (b, min S a) :: nw (S - min S a) (A ++ B) else nw (S - min S a) (A ++ B)) = (if 0 < min S a then (b, min S a) :: nw (S - min S a) A else nw (S - min S a) A) ++ nw (rem (S - min S a) A) B
    rw [nw_append A B]
    split <;> rfl
theorem rem_append : ∀ (A B : Prs) (S : Int), rem S (A ++ B) = rem (rem S A) B
  | [], _, _ => rfl
  | (_, a) :: A, B, S => rem_append A B (S - min S a)
theorem tot_nw : ∀ {X : Prs} {S : Int}, Non X → 0 ≤ S → tot (nw S X) = min S (tot X)
  | [], S, _, h => by
    rw [tot_nil]
    show (0 : Int) = _
    omega
  | (b, a) :: X, S, n, h => by
    have h1 := n.hd
    simp only at h1
    have z := tot_nw (S := S - min S a) n.tl (by omega)
    have h2 := tot_non n.tl
    rw [tot_cons]
    show tot (if 0 < min S a then (b, min S a) :: nw (S - min S a) X else nw (S - min S a) X) = _
    split
    · rw [tot_cons, z]
      omega
    · rw [z]
      omega
theorem nw_min : ∀ {X : Prs} {S : Int}, Non X → 0 ≤ S → nw (min S (tot X)) X = nw S X
  | [], _, _, _ => rfl
  | (b, a) :: X, S, n, h => by
    have h1 := n.hd
    simp only at h1
    have h2 := tot_non n.tl
    rw [tot_cons]
    have z := nw_min (S := S - min S a) n.tl (by omega)
    have e1 : min (min S (a + tot X)) a = min S a := by omega
    have e2 : min S (a + tot X) - min S a = min (S - min S a) (tot X) := by omega
    show (if 0 < min (min S (a + tot X)) a then (b, min (min S (a + tot X)) a) :: nw (min S (a + tot X) - min (min S (a + tot X)) a) X else nw (min S (a + tot X) - min (min S (a + tot X)) a) X) = if 0 < min S a then (b, min S a) :: nw (S - min S a) X else nw (S - min S a) X
    rw [e1, e2, z]
theorem nw_days : ∀ {X : Prs} {S : Int} {z : Int × Int}, z ∈ nw S X → ∃ a, (z.1, a) ∈ X
  | [], _, _, h => by cases h
  | (b, a) :: X, S, z, h => by
    have h' : z ∈ if 0 < min S a then (b, min S a) :: nw (S - min S a) X else nw (S - min S a) X := h
    split at h'
    · rcases List.mem_cons.mp h' with rfl | h'
      · exact ⟨a, List.mem_cons_self⟩
      · obtain ⟨c, hc⟩ := nw_days h'
        exact ⟨c, List.mem_cons_of_mem _ hc⟩
    · obtain ⟨c, hc⟩ := nw_days h'
      exact ⟨c, List.mem_cons_of_mem _ hc⟩
theorem nw_pos : ∀ {X : Prs} {S : Int} {z : Int × Int}, z ∈ nw S X → 0 < z.2
  | [], _, _, h => by cases h
  | (b, a) :: X, S, z, h => by
    have h' : z ∈ if 0 < min S a then (b, min S a) :: nw (S - min S a) X else nw (S - min S a) X := h
    split at h'
    · rename_i c
      rcases List.mem_cons.mp h' with rfl | h'
      · exact c
      · exact nw_pos h'
    · exact nw_pos h'
/-! ### selling, the first of the list first -/
/-- the customers left, the loaves kept, the number thrown; ex says which days are too old -/
def plr (ex : Int → Bool) : Int → Prs → Int → Prs → Int × Prs × Int
  | w, k, t, [] => (w, k, t)
  | w, k, t, (b, c) :: r => plr ex (w - min w c) (if ex b then k else if min w c < c then k ++ [(b, c - min w c)] else k) (if ex b then t + c - min w c else t) r
theorem plr_append (ex : Int → Bool) : ∀ (A B : Prs) (w : Int) (k : Prs) (t : Int), plr ex w k t (A ++ B) = plr ex (plr ex w k t A).1 (plr ex w k t A).2.1 (plr ex w k t A).2.2 B
  | [], _, _, _, _ => rfl
  | (b, c) :: A, B, w, k, t => plr_append ex A B _ _ _
theorem plr_nw (ex : Int → Bool) (k : Prs) (t : Int) : ∀ {X : Prs} {S w : Int}, Non X → 0 ≤ S → S ≤ tot X → 0 ≤ w →
    plr ex w k t (nw S X).reverse = (max 0 (w - S), k ++ (nw (max 0 (S - w)) X).reverse.filter (fun z => !ex z.1), t + tot ((nw (max 0 (S - w)) X).filter fun z => ex z.1))
  | [], S, w, _, h0, h1, hw => by
    rw [tot_nil] at h1
    show (w, k, t) = (max 0 (w - S), k ++ [], t + tot [])
    rw [tot_nil, List.append_nil]
    have e : S = 0 := by omega
    subst e
    congr 1
    · omega
    · congr 1
      omega
  | (b, a) :: X, S, w, n, h0, h1, hw => by
    have a0 := n.hd
    simp only at a0
    have x0 := tot_non n.tl
    rw [tot_cons] at h1
    have ih := plr_nw ex k t (X := X) (S := S - min S a) (w := w) n.tl (by omega) (by omega) hw
    generalize hR : max 0 (S - w) = R
    have e1 : max 0 (S - min S a - w) = R - min R a := by omega
    rw [e1] at ih
    have lhs : plr ex w k t (nw S ((b, a) :: X)).reverse = plr ex w k t ((nw (S - min S a) X).reverse ++ (if 0 < min S a then [(b, min S a)] else [])) := by
      show plr ex w k t (if 0 < min S a then (b, min S a) :: nw (S - min S a) X else nw (S - min S a) X).reverse = _
      split
      · rw [List.reverse_cons]
      · rw [List.append_nil]
    have rhs : nw R ((b, a) :: X) = (if 0 < min R a then [(b, min R a)] else []) ++ nw (R - min R a) X := by
      show (if 0 < min R a then (b, min R a) :: nw (R - min R a) X else nw (R - min R a) X) = _
      split <;> rfl
    rw [lhs, plr_append, ih, rhs]
    simp only
    by_cases c : 0 < min S a
    · rw [if_pos c]
      have ew : max 0 (w - (S - min S a)) - min (max 0 (w - (S - min S a))) (min S a) = max 0 (w - S) := by omega
      have er : min S a - min (max 0 (w - (S - min S a))) (min S a) = min R a := by omega
      have ec : (min (max 0 (w - (S - min S a))) (min S a) < min S a) ↔ 0 < min R a := by omega
      show (max 0 (w - (S - min S a)) - min (max 0 (w - (S - min S a))) (min S a), (if ex b then _ else if min (max 0 (w - (S - min S a))) (min S a) < min S a then _ ++ [(b, min S a - min (max 0 (w - (S - min S a))) (min S a))] else _), (if ex b then _ + min S a - min (max 0 (w - (S - min S a))) (min S a) else _)) = _
      rw [ew, er]
      by_cases d : 0 < min R a
      · rw [if_pos (ec.mpr d), if_pos d]
        cases he : ex b with
        | true =>
          simp [he, List.filter_append, tot_append, tot_cons, tot_nil]
          omega
        | false => simp [he, List.filter_append, tot_append, tot_cons, tot_nil]
      · rw [if_neg (fun z => d (ec.mp z)), if_neg d]
        cases he : ex b with
        | true =>
          simp [he]
          omega
        | false => simp [he]
    · have d : ¬ 0 < min R a := by omega
      rw [if_neg c, if_neg d]
      show (max 0 (w - (S - min S a)), _, _) = _
      have ew : max 0 (w - (S - min S a)) = max 0 (w - S) := by omega
      rw [ew]
      simp
/-! ### the shelf of a bakery -/
/-- what was baked i0, i0 + 1, .. days before d -/
def ag (B : Bak) (d : Int) (i0 n : Nat) : Prs := (List.range n).map fun i => (d - ((i0 + i : Nat) : Int), B.bk (d - ((i0 + i : Nat) : Int)))
theorem ag_succ (B : Bak) (d : Int) (i0 n : Nat) : ag B d i0 (n + 1) = ag B d i0 n ++ [(d - ((i0 + n : Nat) : Int), B.bk (d - ((i0 + n : Nat) : Int)))] := by
  unfold ag
  rw [List.range_succ, List.map_append]
  rfl
theorem ag_cons (B : Bak) (d : Int) (n : Nat) : ag B d 0 (n + 1) = (d, B.bk d) :: ag B d 1 n := by
  unfold ag
  rw [List.range_succ_eq_map, List.map_cons, List.map_map]
  congr 1
  · simp
  · refine List.map_congr_left fun i _ => ?_
    show (d - ((0 + (i + 1) : Nat) : Int), _) = (d - ((1 + i : Nat) : Int), _)
    have e : 0 + (i + 1) = 1 + i := by omega
    rw [e]
theorem ag_next (B : Bak) (d : Nat) (n : Nat) : ag B ((d + 1 : Nat) : Int) 1 n = ag B (d : Int) 0 n := by
  unfold ag
  refine List.map_congr_left fun i _ => ?_
  have e : ((d + 1 : Nat) : Int) - ((1 + i : Nat) : Int) = (d : Int) - ((0 + i : Nat) : Int) := by omega
  rw [e]
theorem ag_non {B : Bak} (h : B.Ok) (d : Int) (i0 n : Nat) : Non (ag B d i0 n) := fun z hz => by
  obtain ⟨i, _, rfl⟩ := List.mem_map.mp hz
  exact (h.bk_in _).1
theorem ag_tot (B : Bak) (d : Int) : tot (ag B d 0 (B.life - 1).toNat) = B.kept d := by
  unfold tot ag Bak.kept
  rw [List.map_map]
  congr 1
  refine List.map_congr_left fun i _ => ?_
  show B.bk (d - ((0 + i : Nat) : Int)) = _
  rw [Nat.zero_add]
theorem sg_eq (B : Bak) (d : Nat) : ∀ i, B.sg d i = (rem (B.st d) (ag B d 1 i), nw (B.st d) (ag B d 1 i))
  | 0 => rfl
  | i + 1 => by
    have e : (d : Int) - (1 + (i : Nat)) = (d : Int) - ((1 + i : Nat) : Int) := by omega
    rw [ag_succ, rem_append, nw_append]
    unfold Bak.sg
    rw [sg_eq B d i, e]
    simp only
    show (_, _) = (_ - min _ _, _ ++ (if 0 < min (rem (B.st d) (ag B d 1 i)) (B.bk (d - ((1 + i : Nat) : Int))) then (d - ((1 + i : Nat) : Int), min (rem (B.st d) (ag B d 1 i)) (B.bk (d - ((1 + i : Nat) : Int)))) :: nw _ [] else nw _ []))
    congr 1
    split
    · rfl
    · rw [show ∀ S, nw S [] = [] from fun _ => rfl, List.append_nil]
theorem shelf_eq (B : Bak) (d : Nat) : B.shelf d = (nw (B.st d) (ag B d 1 (B.life - 1).toNat)).reverse := by
  unfold Bak.shelf
  rw [sg_eq]
theorem st_le {B : Bak} (h : B.Ok) : ∀ d : Nat, B.st d ≤ tot (ag B d 1 (B.life - 1).toNat)
  | 0 => tot_non (ag_non h _ _ _)
  | d + 1 => by
    rw [ag_next, ag_tot]
    exact (fin_in (h.effOk d) _).2
theorem shelf_tot {B : Bak} (h : B.Ok) (d : Nat) : tot (B.shelf d) = B.st d := by
  rw [shelf_eq]
  have e : ∀ X : Prs, tot X.reverse = tot X := fun X => by
    unfold tot
    rw [List.map_reverse, List.sum_reverse]
  rw [e, tot_nw (ag_non h _ _ _) (st_in h d)]
  have := st_le h d
  omega
/-- a day is played -/
theorem play_day {B : Bak} (h : B.Ok) (d : Nat) : plr (fun b => decide (b + B.life - 1 ≤ (d : Int))) (B.wish d) [] 0 (B.shelf d ++ [((d : Int), B.bk d)]) = (B.ms d, B.shelf (d + 1), B.th d) := by
  have l0 := h.l0
  have w0 := (h.wish_in d).1
  have b0 := (h.bk_in d).1
  have s0 := st_in h d
  have sl := st_le h d
  obtain ⟨m, hm⟩ : ∃ m : Nat, (B.life - 1).toNat = m := ⟨_, rfl⟩
  have n1 := ag_non h d 0 (m + 1)
  have n0 := ag_non h d 0 m
  have key := plr_nw (fun b => decide (b + B.life - 1 ≤ (d : Int))) [] 0 (S := B.st d + B.bk d) (w := B.wish d) n1 (by omega) (by rw [ag_cons, tot_cons, ← hm]; omega) w0
  have lhs : plr (fun b => decide (b + B.life - 1 ≤ (d : Int))) (B.wish d) [] 0 (B.shelf d ++ [((d : Int), B.bk d)]) = plr (fun b => decide (b + B.life - 1 ≤ (d : Int))) (B.wish d) [] 0 (nw (B.st d + B.bk d) (ag B d 0 (m + 1))).reverse := by
    rw [ag_cons, shelf_eq, hm]
    have e1 : min (B.st d + B.bk d) (B.bk d) = B.bk d := by omega
    show _ = plr _ _ _ _ (if 0 < min (B.st d + B.bk d) (B.bk d) then ((d : Int), min (B.st d + B.bk d) (B.bk d)) :: nw (B.st d + B.bk d - min (B.st d + B.bk d) (B.bk d)) (ag B d 1 m) else nw (B.st d + B.bk d - min (B.st d + B.bk d) (B.bk d)) (ag B d 1 m)).reverse
    rw [e1, Int.add_sub_cancel]
    split
    · rw [List.reverse_cons]
    · rename_i c
      have z : B.bk d = 0 := by omega
      rw [plr_append, z]
      have pos : ∀ (L : Prs) (w : Int) (k : Prs) (t : Int), Non L → 0 ≤ w → 0 ≤ (plr (fun b => decide (b + B.life - 1 ≤ (d : Int))) w k t L).1 := fun L => by
        induction L with
        | nil => exact fun w k t _ hw => hw
        | cons x L ih =>
          obtain ⟨b, c⟩ := x
          intro w k t n hw
          have c0 := n.hd
          simp only at c0
          exact ih _ _ _ n.tl (by omega)
      have p := pos (nw (B.st d) (ag B d 1 m)).reverse (B.wish d) [] 0 (fun z hz => Int.le_of_lt (nw_pos (List.mem_reverse.mp hz))) w0
      generalize plr (fun b => decide (b + B.life - 1 ≤ (d : Int))) (B.wish d) [] 0 (nw (B.st d) (ag B d 1 m)).reverse = r at p ⊢
      obtain ⟨r1, r2, r3⟩ := r
      simp only at p ⊢
      have e2 : min r1 0 = 0 := by omega
      show (r1 - min r1 0, (if _ then r2 else if min r1 0 < 0 then _ else r2), (if _ then r3 + 0 - min r1 0 else r3)) = _
      rw [e2, if_neg (Int.lt_irrefl 0)]
      congr 1
      · omega
      · congr 1
        · split <;> rfl
        · split <;> simp
  rw [lhs, key]
  generalize hR : max 0 (B.st d + B.bk d - B.wish d) = R at key ⊢
  have last : ag B d 0 (m + 1) = ag B d 0 m ++ [((d : Int) - (m : Nat), B.bk ((d : Int) - (m : Nat)))] := by
    rw [ag_succ, Nat.zero_add]
  have fresh : ∀ z ∈ nw R (ag B d 0 m), decide (z.1 + B.life - 1 ≤ (d : Int)) = false := fun z hz => by
    obtain ⟨a, ha⟩ := nw_days hz
    obtain ⟨i, hi, e⟩ := List.mem_map.mp ha
    have lt := List.mem_range.mp hi
    have e2 : (d : Int) - ((0 + i : Nat) : Int) = z.1 := congrArg Prod.fst e
    exact decide_eq_false (by omega)
  have old : decide (((d : Int) - (m : Nat)) + B.life - 1 ≤ (d : Int)) = true := decide_eq_true (by omega)
  have remE : rem R (ag B d 0 m) = max 0 (R - B.kept d) := by
    rw [rem_eq n0 (by omega), ← ag_tot, hm]
  have Rle : R ≤ B.kept d + B.bk ((d : Int) - (m : Nat)) := by
    have t1 := tot_append (ag B d 0 m) [((d : Int) - (m : Nat), B.bk ((d : Int) - (m : Nat)))]
    rw [← last, ag_cons, tot_cons, tot_cons, tot_nil] at t1
    rw [← ag_tot, hm]
    rw [hm] at sl
    omega
  have split1 : nw R (ag B d 0 (m + 1)) = nw R (ag B d 0 m) ++ (if 0 < max 0 (R - B.kept d) then [((d : Int) - (m : Nat), max 0 (R - B.kept d))] else []) := by
    rw [last, nw_append, remE]
    congr 1
    have bb := (h.bk_in ((d : Int) - (m : Nat))).1
    have e : min (max 0 (R - B.kept d)) (B.bk ((d : Int) - (m : Nat))) = max 0 (R - B.kept d) := by omega
    show (if 0 < min (max 0 (R - B.kept d)) (B.bk ((d : Int) - (m : Nat))) then (_, min (max 0 (R - B.kept d)) (B.bk ((d : Int) - (m : Nat)))) :: nw _ [] else nw _ []) = _
    rw [e]
    rfl
  have k0 := h.kept0 d
  have stn : B.st (d + 1) = min R (B.kept d) := by
    show (B.eff (d : Nat)).fin (B.st d) = _
    unfold Bak.eff dayE Eff.fin
    simp only
    omega
  have f1 : (nw R (ag B d 0 m)).filter (fun z => !decide (z.1 + B.life - 1 ≤ (d : Int))) = nw R (ag B d 0 m) := List.filter_eq_self.mpr fun z hz => by rw [fresh z hz]; rfl
  have f2 : (nw R (ag B d 0 m)).filter (fun z => decide (z.1 + B.life - 1 ≤ (d : Int))) = [] := List.filter_eq_nil_iff.mpr fun z hz => by rw [fresh z hz]; exact Bool.false_ne_true
  refine Prod.ext ?_ (Prod.ext ?_ ?_)
  · show max 0 (B.wish d - (B.st d + B.bk d)) = (B.eff (d : Nat)).mis (B.st d)
    unfold Bak.eff dayE Eff.mis
    simp only
    omega
  · show [] ++ (nw R (ag B d 0 (m + 1))).reverse.filter (fun z => !decide (z.1 + B.life - 1 ≤ (d : Int))) = B.shelf (d + 1)
    rw [List.nil_append, List.filter_reverse, split1, List.filter_append, f1, shelf_eq, ag_next, hm, stn]
    have e : tot (ag B d 0 m) = B.kept d := by rw [← ag_tot, hm]
    rw [← e, nw_min n0 (by omega), e]
    congr 1
    split
    · rw [List.filter_cons, old]
      simp
    · simp
  · show 0 + tot ((nw R (ag B d 0 (m + 1))).filter fun z => decide (z.1 + B.life - 1 ≤ (d : Int))) = (B.eff (d : Nat)).thr (B.st d)
    rw [split1, List.filter_append, f2, List.nil_append]
    have e : tot (List.filter (fun z => decide (z.1 + B.life - 1 ≤ (d : Int))) (if 0 < max 0 (R - B.kept d) then [((d : Int) - (m : Nat), max 0 (R - B.kept d))] else [])) = max 0 (R - B.kept d) := by
      split
      · rw [List.filter_cons, old]
        simp [tot_cons, tot_nil]
      · simp [tot_nil]
        omega
    rw [e]
    unfold Bak.eff dayE Eff.thr
    simp only
    omega
end G57
end
section
/-! MKnown: bakeries with the same amounts each day, with the life 1, with multiplied amounts. -/
namespace G57
/-! ### the same amounts each day -/
def kon (b c l : Int) : Bak := ⟨[b], [c], l⟩
theorem kon_ok {b c l : Int} (b0 : 0 ≤ b) (b1 : b ≤ 1000000000) (c0 : 0 ≤ c) (c1 : c ≤ 1000000000) (l0 : 1 ≤ l) (l1 : l ≤ 30) : (kon b c l).Ok :=
  ⟨Nat.one_pos, Nat.le_of_ble_eq_true rfl, rfl, l0, l1, fun x hx => by
    have : x = b := by simpa [kon] using hx
    omega, fun x hx => by
    have : x = c := by simpa [kon] using hx
    omega⟩
section
variable {b c l : Int}
theorem kon_n : (kon b c l).n = 1 := rfl
theorem kon_bk (d : Int) : (kon b c l).bk d = if 0 ≤ d then b else 0 := by
  unfold Bak.bk
  have e : d % ((kon b c l).n : Nat) = 0 := by
    rw [kon_n]
    exact Int.emod_one d
  rw [e]
  rfl
theorem kon_wish (d : Int) : (kon b c l).wish d = c := by
  unfold Bak.wish
  have e : d % ((kon b c l).n : Nat) = 0 := by
    rw [kon_n]
    exact Int.emod_one d
  rw [e]
  rfl
theorem kon_sum (d : Nat) : ∀ m : Nat, ((List.range m).map fun a : Nat => (kon b c l).bk ((d : Int) - (a : Nat))).sum = min (m : Int) ((d : Int) + 1) * b
  | 0 => by
    have e : min ((0 : Nat) : Int) ((d : Int) + 1) = 0 := by omega
    rw [e, Int.zero_mul]
    rfl
  | m + 1 => by
    rw [sum_next, kon_sum d m, kon_bk]
    split
    · have e : min ((m + 1 : Nat) : Int) ((d : Int) + 1) = min (m : Int) ((d : Int) + 1) + 1 := by omega
      rw [e, Int.add_mul, Int.one_mul]
    · have e : min ((m + 1 : Nat) : Int) ((d : Int) + 1) = min (m : Int) ((d : Int) + 1) := by omega
      rw [e, Int.add_zero]
theorem kon_kept (l0 : 1 ≤ l) (d : Nat) : (kon b c l).kept d = min (l - 1) ((d : Int) + 1) * b := by
  unfold Bak.kept
  rw [kon_sum]
  have e : (((kon b c l).life - 1).toNat : Int) = l - 1 := by
    show ((l - 1).toNat : Int) = l - 1
    omega
  rw [e]
theorem kon_st (b0 : 0 ≤ b) (c0 : 0 ≤ c) (l0 : 1 ≤ l) : ∀ d : Nat, (kon b c l).st d = max 0 (min ((d : Int) * (b - c)) ((l - 1) * b))
  | 0 => by
    have e : ((0 : Nat) : Int) * (b - c) = 0 := Int.zero_mul _
    have p := Int.mul_nonneg (show 0 ≤ l - 1 by omega) b0
    rw [e]
    show (0 : Int) = _
    omega
  | d + 1 => by
    have e1 : ((d + 1 : Nat) : Int) * (b - c) = (d : Int) * (b - c) + (b - c) := by
      rw [Int.natCast_add, Int.add_mul]
      simp
    have p := Int.mul_nonneg (show 0 ≤ l - 1 by omega) b0
    have ek : min (l - 1) ((d : Int) + 1) * b = min ((l - 1) * b) ((d : Int) * b + b) := by
      by_cases h : l - 1 ≤ (d : Int) + 1
      · rw [Int.min_eq_left h]
        have := Int.mul_le_mul_of_nonneg_right h b0
        rw [Int.add_mul] at this
        omega
      · rw [Int.min_eq_right (by omega), Int.add_mul]
        have := Int.mul_le_mul_of_nonneg_right (show (d : Int) + 1 ≤ l - 1 by omega) b0
        rw [Int.add_mul] at this
        omega
    show ((kon b c l).eff (d : Nat)).fin ((kon b c l).st d) = _
    unfold Bak.eff dayE Eff.fin
    simp only
    rw [kon_st b0 c0 l0 d, kon_kept l0, kon_wish, kon_bk, if_pos (by omega), ek, e1]
    have q0 := Int.mul_nonneg (show (0 : Int) ≤ (d : Nat) by omega) b0
    by_cases h : c ≤ b
    · have q1 := Int.mul_nonneg (show (0 : Int) ≤ (d : Nat) by omega) (show 0 ≤ b - c by omega)
      have q2 := Int.mul_le_mul_of_nonneg_left (show b - c ≤ b by omega) (show (0 : Int) ≤ (d : Nat) by omega)
      omega
    · have q1 := Int.mul_le_mul_of_nonneg_left (show b - c ≤ 0 by omega) (show (0 : Int) ≤ (d : Nat) by omega)
      rw [Int.mul_zero] at q1
      omega
theorem kon_ms (b0 : 0 ≤ b) (c0 : 0 ≤ c) (l0 : 1 ≤ l) (d : Nat) : (kon b c l).ms d = max 0 (c - b) := by
  rw [ms_eq, kon_wish, kon_bk, if_pos (by omega), kon_st b0 c0 l0]
  have p := Int.mul_nonneg (show 0 ≤ l - 1 by omega) b0
  by_cases h : c ≤ b
  · omega
  · have q1 := Int.mul_le_mul_of_nonneg_left (show b - c ≤ 0 by omega) (show (0 : Int) ≤ (d : Nat) by omega)
    rw [Int.mul_zero] at q1
    omega
theorem kon_sm (b0 : 0 ≤ b) (c0 : 0 ≤ c) (l0 : 1 ≤ l) (a : Nat) : ∀ d : Nat, (kon b c l).sm a d = (d : Int) * max 0 (c - b)
  | 0 => by
    show (0 : Int) = ((0 : Nat) : Int) * _
    rw [show ((0 : Nat) : Int) = 0 from rfl, Int.zero_mul]
  | d + 1 => by
    show (kon b c l).sm a d + (kon b c l).ms (a + d) = _
    rw [kon_sm b0 c0 l0 a d, kon_ms b0 c0 l0, Int.natCast_add, Int.add_mul]
    simp
theorem kon_ws : ∀ d : Nat, (kon b c l).ws d = (d : Int) * c
  | 0 => by
    show (0 : Int) = ((0 : Nat) : Int) * _
    rw [show ((0 : Nat) : Int) = 0 from rfl, Int.zero_mul]
  | d + 1 => by
    show (kon b c l).ws d + (kon b c l).wish (d : Nat) = _
    rw [kon_ws d, kon_wish, Int.natCast_add, Int.add_mul]
    simp
/-- all that is baked is sold, thrown away or left -/
theorem flows {B : Bak} (h : B.Ok) (a : Nat) : ∀ k : Nat, B.sh a k = B.st a + ((List.range k).map fun j : Nat => B.bk ((a + j : Nat) : Int)).sum - (((List.range k).map fun j : Nat => B.wish ((a + j : Nat) : Int)).sum - B.sm a k) - B.st (a + k)
  | 0 => by
    show (0 : Int) = B.st a + 0 - (0 - 0) - B.st (a + 0)
    rw [Nat.add_zero]
    omega
  | k + 1 => by
    show B.sh a k + B.th (a + k) = _
    rw [flows h a k, flow h, sum_next, sum_next]
    have e : B.sm a (k + 1) = B.sm a k + B.ms (a + k) := rfl
    rw [e, Nat.add_assoc]
    omega
theorem kon_sh (b0 : 0 ≤ b) (b1 : b ≤ 1000000000) (c0 : 0 ≤ c) (c1 : c ≤ 1000000000) (l0 : 1 ≤ l) (l1 : l ≤ 30) (a d : Nat) : (kon b c l).sh a d = (kon b c l).st a + (d : Int) * b - (d : Int) * min b c - (kon b c l).st (a + d) := by
  have e := flows (kon_ok b0 b1 c0 c1 l0 l1) a d
  have s1 : ∀ k : Nat, ((List.range k).map fun j : Nat => (kon b c l).bk ((a + j : Nat) : Int)).sum = (k : Int) * b := fun k => by
    induction k with
    | zero =>
      show (0 : Int) = ((0 : Nat) : Int) * _
      rw [show ((0 : Nat) : Int) = 0 from rfl, Int.zero_mul]
    | succ k ih =>
      rw [sum_next, ih, kon_bk, if_pos (by omega), Int.natCast_add, Int.add_mul]
      simp
  have s2 : ∀ k : Nat, ((List.range k).map fun j : Nat => (kon b c l).wish ((a + j : Nat) : Int)).sum = (k : Int) * c := fun k => by
    induction k with
    | zero =>
      show (0 : Int) = ((0 : Nat) : Int) * _
      rw [show ((0 : Nat) : Int) = 0 from rfl, Int.zero_mul]
    | succ k ih =>
      rw [sum_next, ih, kon_wish, Int.natCast_add, Int.add_mul]
      simp
  rw [s1, s2, kon_sm b0 c0 l0] at e
  have m : (d : Int) * c - (d : Int) * max 0 (c - b) = (d : Int) * min b c := by
    rw [← Int.mul_sub]
    congr 1
    omega
  omega
end
/-! ### the life 1 -/
theorem one_kept {B : Bak} (l : B.life = 1) (d : Int) : B.kept d = 0 := by
  unfold Bak.kept
  rw [l]
  rfl
theorem one_st {B : Bak} (h : B.Ok) (l : B.life = 1) : ∀ d : Nat, B.st d = 0
  | 0 => rfl
  | d + 1 => by
    have s := st_in h d
    show (B.eff (d : Nat)).fin (B.st d) = 0
    unfold Bak.eff dayE Eff.fin
    simp only
    rw [one_kept l, one_st h l d]
    omega
theorem one_ms {B : Bak} (h : B.Ok) (l : B.life = 1) (d : Nat) : B.wish d - B.ms d = min (B.bk d) (B.wish d) := by
  rw [ms_eq, one_st h l]
  omega
theorem one_settled {B : Bak} (h : B.Ok) (l : B.life = 1) : Settled B 0 := ⟨fun j _ => by rw [one_st h l, one_st h l], fun z => absurd z (by decide)⟩
theorem wish_lt {B : Bak} (h : B.Ok) {r : Nat} (lt : r < B.n) : B.wish (r : Nat) = B.dems.getD r 0 := by
  have z := wish_low h (q := 0) lt
  rw [Nat.zero_mul, Nat.zero_add] at z
  exact z
theorem bk_lt {B : Bak} (h : B.Ok) {r : Nat} (lt : r < B.n) : B.bk (r : Nat) = B.bakes.getD r 0 := by
  unfold Bak.bk
  rw [if_pos (by omega)]
  have e : ((r : Int) % (B.n : Nat)).toNat = r := by
    have e2 : (r : Int) % (B.n : Nat) = ((r % B.n : Nat) : Int) := rfl
    rw [e2, Nat.mod_eq_of_lt lt]
    rfl
  rw [e]
theorem take_sum (l : List Int) : ∀ k : Nat, k ≤ l.length → ((List.range k).map fun j => l.getD j 0).sum = (l.take k).sum
  | 0, _ => by simp
  | k + 1, h => by rw [sum_next, take_sum l k (by omega), take_next l k (by omega)]
theorem all_sum (l : List Int) : ((List.range l.length).map fun j => l.getD j 0).sum = l.sum := by
  rw [take_sum l _ (Nat.le_refl _), List.take_of_length_le (Nat.le_refl _)]
theorem sum_congr {f g : Nat → Int} : ∀ {k : Nat}, (∀ j, j < k → f j = g j) → ((List.range k).map f).sum = ((List.range k).map g).sum
  | 0, _ => rfl
  | k + 1, h => by rw [sum_next, sum_next, sum_congr fun j hj => h j (by omega), h k (by omega)]
theorem sum_sub2 (f g : Nat → Int) : ∀ k : Nat, ((List.range k).map fun j => f j - g j).sum = ((List.range k).map f).sum - ((List.range k).map g).sum
  | 0 => rfl
  | k + 1 => by
    rw [sum_next, sum_next, sum_next, sum_sub2 f g k]
    omega
def Bak.sal (B : Bak) (k : Nat) : Int := min (B.bakes.getD k 0) (B.dems.getD k 0)
/-- the long run of a bakery with the life 1 -/
theorem one_run {B : Bak} (h : B.Ok) (l : B.life = 1) : B.sm 0 B.n = B.dems.sum - ((List.range B.n).map B.sal).sum ∧ B.sh 0 B.n = B.bakes.sum - ((List.range B.n).map B.sal).sum := by
  have m := h.m
  have e1 : B.sm 0 B.n = B.dems.sum - ((List.range B.n).map B.sal).sum := by
    have z : ∀ k : Nat, k ≤ B.n → B.sm 0 k = ((List.range k).map fun j => B.dems.getD j 0 - B.sal j).sum := fun k => by
      induction k with
      | zero => exact fun _ => rfl
      | succ k ih =>
        intro hk
        rw [sum_next, ← ih (by omega)]
        show B.sm 0 k + B.ms (0 + k) = _
        have q := one_ms h l k
        rw [wish_lt h (by omega), bk_lt h (by omega)] at q
        unfold Bak.sal
        rw [Nat.zero_add]
        omega
    rw [z _ (Nat.le_refl _), sum_sub2, ← m, all_sum]
  refine ⟨e1, ?_⟩
  have f := flows h 0 B.n
  rw [one_st h l, one_st h l, e1] at f
  have s1 : ((List.range B.n).map fun j : Nat => B.bk ((0 + j : Nat) : Int)).sum = B.bakes.sum := by
    rw [← all_sum B.bakes]
    refine sum_congr fun j hj => ?_
    rw [Nat.zero_add, bk_lt h hj]
  have s2 : ((List.range B.n).map fun j : Nat => B.wish ((0 + j : Nat) : Int)).sum = B.dems.sum := by
    rw [← all_sum B.dems, m]
    refine sum_congr fun j hj => ?_
    rw [Nat.zero_add, wish_lt h hj]
  rw [s1, s2] at f
  omega
/-! ### multiplied amounts -/
def Bak.tms (B : Bak) (t : Int) : Bak := ⟨B.bakes.map fun x => t * x, B.dems.map fun x => t * x, B.life⟩
section
variable {B : Bak} {t : Int}
theorem tms_n : (B.tms t).n = B.n := by
  unfold Bak.n Bak.tms
  simp
theorem getD_mul (l : List Int) (k : Nat) : (l.map fun x => t * x).getD k 0 = t * l.getD k 0 := by
  rw [List.getD_eq_getElem?_getD, List.getD_eq_getElem?_getD, List.getElem?_map]
  cases l[k]? with
  | none => simp
  | some x => rfl
theorem tms_bk (d : Int) : (B.tms t).bk d = t * B.bk d := by
  unfold Bak.bk
  rw [tms_n]
  split
  · exact getD_mul _ _
  · simp
theorem tms_wish (d : Int) : (B.tms t).wish d = t * B.wish d := by
  unfold Bak.wish
  rw [tms_n]
  exact getD_mul _ _
theorem sum_mul (f : Nat → Int) : ∀ k : Nat, ((List.range k).map fun j => t * f j).sum = t * ((List.range k).map f).sum
  | 0 => by simp
  | k + 1 => by rw [sum_next, sum_next, sum_mul f k, Int.mul_add]
theorem tms_kept (d : Int) : (B.tms t).kept d = t * B.kept d := by
  unfold Bak.kept
  rw [← sum_mul]
  show ((List.range (B.life - 1).toNat).map fun a : Nat => (B.tms t).bk (d - (a : Nat))).sum = _
  refine sum_congr fun j _ => ?_
  rw [tms_bk]
theorem mul_max (t0 : 0 ≤ t) (a b : Int) : t * max a b = max (t * a) (t * b) := by
  by_cases h : a ≤ b
  · have := Int.mul_le_mul_of_nonneg_left h t0
    rw [Int.max_eq_right h, Int.max_eq_right this]
  · have := Int.mul_le_mul_of_nonneg_left (show b ≤ a by omega) t0
    rw [Int.max_eq_left (by omega), Int.max_eq_left this]
theorem mul_min (t0 : 0 ≤ t) (a b : Int) : t * min a b = min (t * a) (t * b) := by
  by_cases h : a ≤ b
  · have := Int.mul_le_mul_of_nonneg_left h t0
    rw [Int.min_eq_left h, Int.min_eq_left this]
  · have := Int.mul_le_mul_of_nonneg_left (show b ≤ a by omega) t0
    rw [Int.min_eq_right (by omega), Int.min_eq_right this]
theorem tms_st (t0 : 0 ≤ t) : ∀ d : Nat, (B.tms t).st d = t * B.st d
  | 0 => by
    show (0 : Int) = t * 0
    simp
  | d + 1 => by
    show ((B.tms t).eff (d : Nat)).fin ((B.tms t).st d) = t * (B.eff (d : Nat)).fin (B.st d)
    unfold Bak.eff dayE Eff.fin
    simp only
    rw [tms_st t0 d, tms_kept, tms_wish, tms_bk, mul_min t0, mul_max t0, Int.mul_add, Int.mul_sub, Int.mul_zero]
theorem tms_ms (t0 : 0 ≤ t) (d : Nat) : (B.tms t).ms d = t * B.ms d := by
  rw [ms_eq, ms_eq, tms_wish, tms_bk, tms_st t0, mul_max t0, Int.mul_sub, Int.mul_sub, Int.mul_zero]
theorem tms_th (t0 : 0 ≤ t) (d : Nat) : (B.tms t).th d = t * B.th d := by
  unfold Bak.th Bak.eff dayE Eff.thr
  simp only
  rw [tms_kept, tms_wish, tms_bk, tms_st t0, Int.mul_add, mul_max t0, Int.mul_sub, Int.mul_sub, Int.mul_sub, Int.mul_zero]
theorem tms_sm (t0 : 0 ≤ t) (a : Nat) : ∀ d : Nat, (B.tms t).sm a d = t * B.sm a d
  | 0 => by
    show (0 : Int) = t * 0
    simp
  | d + 1 => by
    show (B.tms t).sm a d + (B.tms t).ms (a + d) = t * (B.sm a d + B.ms (a + d))
    rw [tms_sm t0 a d, tms_ms t0, Int.mul_add]
theorem tms_sh (t0 : 0 ≤ t) (a : Nat) : ∀ d : Nat, (B.tms t).sh a d = t * B.sh a d
  | 0 => by
    show (0 : Int) = t * 0
    simp
  | d + 1 => by
    show (B.tms t).sh a d + (B.tms t).th (a + d) = t * (B.sh a d + B.th (a + d))
    rw [tms_sh t0 a d, tms_th t0, Int.mul_add]
theorem tms_ws : ∀ d : Nat, (B.tms t).ws d = t * B.ws d
  | 0 => by
    show (0 : Int) = t * 0
    simp
  | d + 1 => by
    show (B.tms t).ws d + (B.tms t).wish (d : Nat) = t * (B.ws d + B.wish (d : Nat))
    rw [tms_ws d, tms_wish, Int.mul_add]
theorem nw_mul (t0 : 0 < t) : ∀ (X : Prs) (S : Int), nw (t * S) (X.map fun z => (z.1, t * z.2)) = (nw S X).map fun z => (z.1, t * z.2)
  | [], S => rfl
  | (b, a) :: X, S => by
    show (if 0 < min (t * S) (t * a) then (b, min (t * S) (t * a)) :: nw (t * S - min (t * S) (t * a)) (X.map _) else nw (t * S - min (t * S) (t * a)) (X.map _)) = (if 0 < min S a then (b, min S a) :: nw (S - min S a) X else nw (S - min S a) X).map _
    rw [← mul_min (Int.le_of_lt t0), ← Int.mul_sub, nw_mul t0 X]
    by_cases h : 0 < min S a
    · rw [if_pos h, if_pos (Int.mul_pos t0 h)]
      rfl
    · rw [if_neg h, if_neg (fun z => by
        have q := Int.mul_le_mul_of_nonneg_left (show min S a ≤ 0 by omega) (Int.le_of_lt t0)
        rw [Int.mul_zero] at q
        omega)]
theorem tms_shelf (t0 : 0 < t) (d : Nat) : (B.tms t).shelf d = (B.shelf d).map fun z => (z.1, t * z.2) := by
  rw [shelf_eq, shelf_eq, tms_st (Int.le_of_lt t0)]
  have e : ag (B.tms t) (d : Nat) 1 ((B.tms t).life - 1).toNat = (ag B (d : Nat) 1 (B.life - 1).toNat).map fun z => (z.1, t * z.2) := by
    unfold ag
    rw [List.map_map]
    refine List.map_congr_left fun i _ => ?_
    show (_, (B.tms t).bk _) = (_, t * B.bk _)
    rw [tms_bk]
  rw [e, nw_mul t0, List.map_reverse]
theorem tms_settled (t0 : 0 < t) {D : Nat} (s : Settled B D) : Settled (B.tms t) D := by
  refine ⟨fun j hj => ?_, fun h z => ?_⟩
  · rw [tms_n, tms_st (Int.le_of_lt t0), tms_st (Int.le_of_lt t0), s.1 j hj]
  · rw [tms_n, tms_st (Int.le_of_lt t0), tms_st (Int.le_of_lt t0)] at z
    exact s.2 h (Int.eq_of_mul_eq_mul_left (by omega) z)
theorem tms_ok (h : B.Ok) (t0 : 0 ≤ t) (hb : ∀ x ∈ B.bakes, t * x ≤ 1000000000) (hd : ∀ x ∈ B.dems, t * x ≤ 1000000000) : (B.tms t).Ok :=
  ⟨by rw [tms_n]; exact h.n0, by rw [tms_n]; exact h.n1, by rw [tms_n, ← h.m]; unfold Bak.tms; simp, h.l0, h.l1, fun x hx => by
    obtain ⟨y, hy, rfl⟩ := List.mem_map.mp hx
    exact ⟨Int.mul_nonneg t0 (h.b y hy).1, hb y hy⟩, fun x hx => by
    obtain ⟨y, hy, rfl⟩ := List.mem_map.mp hx
    exact ⟨Int.mul_nonneg t0 (h.d y hy).1, hd y hy⟩⟩
end
end G57
end
section
/-! MDays: the days of a shelf; what is baked in all. -/
namespace G57
theorem nw_sub : ∀ (X : Prs) (S : Int), List.Sublist ((nw S X).map fun z => z.1) (X.map fun z => z.1)
  | [], _ => List.Sublist.refl _
  | (b, a) :: X, S => by
    show List.Sublist ((if 0 < min S a then (b, min S a) :: nw (S - min S a) X else nw (S - min S a) X).map fun z => z.1) _
    split
    · exact (nw_sub X _).cons_cons b
    · exact (nw_sub X _).cons b
theorem ag_days (B : Bak) (d : Int) (n : Nat) : ((ag B d 1 n).map fun z => z.1).Pairwise (· > ·) := by
  unfold ag
  rw [List.map_map, List.pairwise_map]
  refine List.Pairwise.imp ?_ List.pairwise_lt_range
  intro i j h
  show d - ((1 + i : Nat) : Int) > d - ((1 + j : Nat) : Int)
  omega
/-- the days on a shelf ascend -/
theorem shelf_up (B : Bak) (d : Nat) : ((B.shelf d).map fun z => z.1).Pairwise (· < ·) := by
  rw [shelf_eq, List.map_reverse, List.pairwise_reverse]
  exact List.Pairwise.sublist (nw_sub _ _) (ag_days B d _)
theorem shelf_in {B : Bak} (h : B.Ok) {d : Nat} {z : Int × Int} (hz : z ∈ B.shelf d) : (d : Int) - B.life < z.1 ∧ z.1 < d ∧ 0 < z.2 := by
  rw [shelf_eq] at hz
  have hz' := List.mem_reverse.mp hz
  obtain ⟨a, ha⟩ := nw_days hz'
  obtain ⟨i, hi, e⟩ := List.mem_map.mp ha
  have lt := List.mem_range.mp hi
  have l0 := h.l0
  have e2 : (d : Int) - ((1 + i : Nat) : Int) = z.1 := congrArg Prod.fst e
  exact ⟨by omega, by omega, nw_pos hz'⟩
theorem shelf_len {B : Bak} (h : B.Ok) (d : Nat) : (B.shelf d).length ≤ 29 := by
  have z := sg_len B d (B.life - 1).toNat
  have z1 := h.l1
  unfold Bak.shelf
  rw [List.length_reverse]
  omega
/-- two rising lists with the same members -/
theorem rising_uniq : ∀ {xs ys : List Int}, xs.Pairwise (· < ·) → ys.Pairwise (· < ·) → (∀ k, k ∈ xs ↔ k ∈ ys) → xs = ys
  | [], [], _, _, _ => rfl
  | [], y :: ys, _, _, h => by
    have := (h y).mpr (by simp)
    cases this
  | x :: xs, [], _, _, h => by
    have := (h x).mp (by simp)
    cases this
  | x :: xs, y :: ys, hx, hy, h => by
    obtain ⟨x1, x2⟩ := List.pairwise_cons.mp hx
    obtain ⟨y1, y2⟩ := List.pairwise_cons.mp hy
    have e : x = y := by
      rcases List.mem_cons.mp ((h x).mp (by simp)) with e | e
      · exact e
      · rcases List.mem_cons.mp ((h y).mpr (by simp)) with f | f
        · exact f.symm
        · have := x1 y f
          have := y1 x e
          omega
    subst e
    refine congrArg (x :: ·) (rising_uniq x2 y2 fun k => ⟨fun z => ?_, fun z => ?_⟩)
    · rcases List.mem_cons.mp ((h k).mp (by simp [z])) with e | e
      · subst e
        have := x1 k z
        omega
      · exact e
    · rcases List.mem_cons.mp ((h k).mpr (by simp [z])) with e | e
      · subst e
        have := y1 k z
        omega
      · exact e
/-! ### what is baked in all -/
def Bak.flip (B : Bak) : Bak := ⟨B.bakes, B.bakes, B.life⟩
theorem flip_ok {B : Bak} (h : B.Ok) : B.flip.Ok := ⟨h.n0, h.n1, rfl, h.l0, h.l1, h.b, h.b⟩
theorem flip_wish {B : Bak} {d : Int} (h : 0 ≤ d) : B.flip.wish d = B.bk d := by
  unfold Bak.wish Bak.bk
  rw [if_pos h]
  rfl
theorem flip_ws (B : Bak) : ∀ d : Nat, B.flip.ws d = ((List.range d).map fun j : Nat => B.bk (j : Nat)).sum
  | 0 => rfl
  | d + 1 => by
    rw [sum_next, ← flip_ws B d, ← flip_wish (by omega)]
    rfl
theorem wish_sum (B : Bak) : ∀ d : Nat, B.ws d = ((List.range d).map fun j : Nat => B.wish (j : Nat)).sum
  | 0 => rfl
  | d + 1 => by
    rw [sum_next, ← wish_sum B d]
    rfl
theorem baked_all {B : Bak} (h : B.Ok) (d : Nat) : B.ws d - B.sm 0 d + B.sh 0 d + B.st d = B.flip.ws d := by
  have f := flows h 0 d
  have e1 : ((List.range d).map fun j : Nat => B.bk ((0 + j : Nat) : Int)).sum = B.flip.ws d := by
    rw [flip_ws]
    refine sum_congr fun j _ => ?_
    rw [Nat.zero_add]
  have e2 : ((List.range d).map fun j : Nat => B.wish ((0 + j : Nat) : Int)).sum = B.ws d := by
    rw [wish_sum]
    refine sum_congr fun j _ => ?_
    rw [Nat.zero_add]
  have e3 : B.st 0 = 0 := rfl
  rw [e1, e2, e3, Nat.zero_add] at f
  omega
end G57
end
section
/-! MCut: some days show that no order sells more. -/
namespace G57
/-- a sum over the first days -/
def sq (f : Nat → Int) (n : Nat) : Int := ((List.range n).map f).sum
theorem sq_0 (f : Nat → Int) : sq f 0 = 0 := rfl
theorem sq_1 (f : Nat → Int) (n : Nat) : sq f (n + 1) = sq f n + f n := sum_next f n
theorem sq_add (f : Nat → Int) (a : Nat) : ∀ k : Nat, sq f (a + k) = sq f a + sq (fun j => f (a + j)) k
  | 0 => by
    rw [Nat.add_zero, sq_0]
    omega
  | k + 1 => by
    rw [← Nat.add_assoc, sq_1, sq_1, sq_add f a k]
    omega
theorem sq_le {f g : Nat → Int} : ∀ {n : Nat}, (∀ j, j < n → f j ≤ g j) → sq f n ≤ sq g n
  | 0, _ => Int.le_refl _
  | n + 1, h => by
    have := sq_le (n := n) fun j hj => h j (by omega)
    have := h n (by omega)
    rw [sq_1, sq_1]
    omega
theorem sq_eq {f g : Nat → Int} : ∀ {n : Nat}, (∀ j, j < n → f j = g j) → sq f n = sq g n
  | 0, _ => rfl
  | n + 1, h => by rw [sq_1, sq_1, sq_eq fun j hj => h j (by omega), h n (by omega)]
theorem sq_zero {f : Nat → Int} {n : Nat} (h : ∀ j, j < n → f j = 0) : sq f n = 0 := by
  rw [sq_eq (g := fun _ => 0) h]
  clear h
  induction n with
  | zero => rfl
  | succ n ih => rw [sq_1, ih]; rfl
theorem sq_head (f : Nat → Int) : ∀ n : Nat, sq f (n + 1) = f 0 + sq (fun j => f (j + 1)) n
  | 0 => by
    rw [sq_1, sq_0, sq_0]
    omega
  | n + 1 => by
    rw [sq_1, sq_head f n, sq_1]
    omega
theorem sq_rev (f : Nat → Int) : ∀ n : Nat, sq (fun j => f (n - 1 - j)) n = sq f n
  | 0 => rfl
  | n + 1 => by
    rw [sq_head, sq_1]
    have e : sq (fun j => f (n + 1 - 1 - (j + 1))) n = sq (fun j => f (n - 1 - j)) n := sq_eq fun j hj => by
      show f (n + 1 - 1 - (j + 1)) = f (n - 1 - j)
      congr 1
      omega
    rw [e, sq_rev f n]
    show f (n + 1 - 1 - 0) + _ = _
    have e2 : n + 1 - 1 - 0 = n := by omega
    rw [e2]
    omega
theorem sq_cut {f : Nat → Int} (h : ∀ j, 0 ≤ f j) (k : Nat) : ∀ m : Nat, sq (fun a => if a < k then f a else 0) m ≤ sq f k
  | 0 => by
    rw [sq_0, ← sq_0 f]
    exact sum_more h (Nat.zero_le k)
  | m + 1 => by
    rw [sq_1]
    by_cases c : m < k
    · have e : sq (fun a => if a < k then f a else 0) m = sq f m := sq_eq fun j hj => if_pos (by omega)
      rw [e, if_pos c, ← sq_1]
      exact sum_more h (by omega)
    · rw [if_neg c, Int.add_zero]
      exact sq_cut h k m
/-! ### chosen days -/
def Bak.L (B : Bak) : Nat := B.life.toNat
/-- all days on which the loaves of day d can be sold are chosen -/
def cov (C : Nat → Bool) (L d : Nat) : Bool := (List.range L).all fun i => C (d + i)
/-- .. all of them before day T -/
def covT (C : Nat → Bool) (L T d : Nat) : Bool := (List.range L).all fun i => decide (T ≤ d + i) || C (d + i)
theorem cov_iff {C : Nat → Bool} {L d : Nat} : cov C L d = true ↔ ∀ t, d ≤ t → t < d + L → C t = true := by
  unfold cov
  rw [List.all_eq_true]
  constructor
  · intro h t h1 h2
    have z := h (t - d) (List.mem_range.mpr (by omega))
    have e : d + (t - d) = t := by omega
    rw [e] at z
    exact z
  · intro h i hi
    have := List.mem_range.mp hi
    exact h _ (by omega) (by omega)
theorem covT_iff {C : Nat → Bool} {L T d : Nat} : covT C L T d = true ↔ ∀ t, d ≤ t → t < d + L → t < T → C t = true := by
  unfold covT
  rw [List.all_eq_true]
  constructor
  · intro h t h1 h2 h3
    have z := h (t - d) (List.mem_range.mpr (by omega))
    have e : d + (t - d) = t := by omega
    rw [e] at z
    simp at z
    rcases z with z | z
    · omega
    · exact z
  · intro h i hi
    have := List.mem_range.mp hi
    by_cases c : T ≤ d + i
    · simp [c]
    · simp [h (d + i) (by omega) (by omega) (by omega)]
/-- the bound that chosen days show -/
def Bak.bd (B : Bak) (C : Nat → Bool) (T : Nat) : Int := sq (fun t => if C t then B.wish (t : Nat) else 0) T + sq (fun d => if cov C B.L d then 0 else B.bk (d : Nat)) T
def Bak.bdT (B : Bak) (C : Nat → Bool) (T : Nat) : Int := sq (fun t => if C t then B.wish (t : Nat) else 0) T + sq (fun d => if covT C B.L T d then 0 else B.bk (d : Nat)) T
def Bak.sl (B : Bak) (d : Nat) : Int := B.wish (d : Nat) - B.ms d
theorem sold_sg (B : Bak) (d : Nat) : B.ws d - B.sm 0 d = sq B.sl d := (sum_sold B d).symm
theorem bdT_le {B : Bak} (h : B.Ok) (C : Nat → Bool) (T : Nat) : B.bdT C T ≤ B.bd C T := by
  refine Int.add_le_add (Int.le_refl _) (sq_le fun d _ => ?_)
  have b := (h.bk_in (d : Nat)).1
  cases c : cov C B.L d with
  | true =>
    have c2 : covT C B.L T d = true := covT_iff.mpr fun t h1 h2 _ => cov_iff.mp c t h1 h2
    rw [c2]
    exact Int.le_refl _
  | false =>
    split
    · exact b
    · exact Int.le_refl _
/-! ### what a run of days sells -/
theorem sl_in {B : Bak} (h : B.Ok) (d : Nat) : 0 ≤ B.sl d ∧ B.sl d ≤ B.wish (d : Nat) := by
  have w := (h.wish_in (d : Nat)).1
  have m := ms_eq B d
  have b := (h.bk_in (d : Nat)).1
  have s := st_in h d
  unfold Bak.sl
  omega
theorem fin_eq (B : Bak) (d : Nat) : B.st (d + 1) = min (max (B.st d + (B.bk (d : Nat) - B.wish (d : Nat))) 0) (B.kept (d : Nat)) := rfl
theorem th_eq (B : Bak) (d : Nat) : B.th d = max 0 (B.st d - (B.kept (d : Nat) - (B.bk (d : Nat) - B.wish (d : Nat)))) := by
  unfold Bak.th Bak.eff dayE Eff.thr
  simp only
  omega
/-- whoever is missed finds an empty shelf -/
theorem ms_empty {B : Bak} (h : B.Ok) {d : Nat} (m : 0 < B.ms d) : B.st (d + 1) = 0 ∧ B.th d = 0 := by
  have k := h.kept0 (d : Nat)
  rw [ms_eq] at m
  rw [fin_eq, th_eq]
  omega
theorem th_full {B : Bak} (h : B.Ok) {d : Nat} (m : 0 < B.th d) : B.st (d + 1) = B.kept (d : Nat) := by
  have k := h.kept0 (d : Nat)
  rw [th_eq] at m
  rw [fin_eq]
  omega
theorem th_0 {B : Bak} (d : Nat) : 0 ≤ B.th d := by
  rw [th_eq]
  omega
/-- days without waste sell what there was and is baked, but what is left -/
theorem sells {B : Bak} (h : B.Ok) (a : Nat) : ∀ k : Nat, (∀ j, j < k → B.th (a + j) = 0) → sq (fun j => B.sl (a + j)) k = B.st a + sq (fun j => B.bk ((a + j : Nat) : Int)) k - B.st (a + k)
  | 0, _ => by
    rw [sq_0, sq_0, Nat.add_zero]
    omega
  | k + 1, z => by
    have ih := sells h a k fun j hj => z j (by omega)
    have f := flow h (a + k)
    have zk := z k (by omega)
    rw [sq_1, sq_1, ih, ← Nat.add_assoc]
    unfold Bak.sl
    omega
theorem last_of {p : Nat → Prop} (u : Nat) : (∃ e, e < u ∧ p e) → ∃ e, e < u ∧ p e ∧ ∀ v, e < v → v < u → ¬ p v := by
  induction u with
  | zero =>
    rintro ⟨e, h, _⟩
    omega
  | succ u ih =>
    rintro ⟨e, h, pe⟩
    by_cases c : p u
    · exact ⟨u, by omega, c, fun v h1 h2 => by omega⟩
    · have ne : e ≠ u := fun z => c (z ▸ pe)
      obtain ⟨e', h1, h2, h3⟩ := ih ⟨e, by omega, pe⟩
      refine ⟨e', by omega, h2, fun v h4 h5 => ?_⟩
      by_cases ev : v = u
      · rw [ev]
        exact c
      · exact h3 v h4 (by omega)
/-- days chosen up to an empty shelf -/
theorem cut_empty {B : Bak} (h : B.Ok) (u : Nat) : B.st u = 0 → ∃ C : Nat → Bool, (∀ t, u ≤ t → C t = false) ∧ B.bd C u ≤ sq B.sl u := by
  have l0 := h.l0
  have LB : (B.L : Int) = B.life := by
    unfold Bak.L
    omega
  induction u using Nat.strongRecOn with
  | ind u ih =>
  intro hu
  by_cases u0 : u = 0
  · subst u0
    exact ⟨fun _ => false, fun _ _ => rfl, by
      unfold Bak.bd
      rw [sq_0, sq_0, sq_0]
      exact Int.le_refl _⟩
  obtain ⟨v, hv, sv, later⟩ := last_of (p := fun v => B.st v = 0) u ⟨0, by omega, rfl⟩
  obtain ⟨C, hC, hb⟩ := ih v hv sv
  obtain ⟨k, rfl⟩ : ∃ k, u = v + k := ⟨u - v, by omega⟩
  have uncov : ∀ (C : Nat → Bool) d, C d = false → cov C B.L d = false := fun C d hd => by
    cases c : cov C B.L d with
    | false => rfl
    | true =>
      have z := cov_iff.mp c d (Nat.le_refl _) (by omega)
      rw [hd] at z
      cases z
  by_cases waste : ∃ e, e < v + k ∧ (v ≤ e ∧ 0 < B.th e)
  · obtain ⟨e, he, ⟨ve, te⟩, none⟩ := last_of (p := fun e => v ≤ e ∧ 0 < B.th e) (v + k) waste
    obtain ⟨m, rfl⟩ : ∃ m, e = v + m := ⟨e - v, by omega⟩
    obtain ⟨r, rfl⟩ : ∃ r, k = m + 1 + r := ⟨k - (m + 1), by omega⟩
    have C2d : ∃ C2 : Nat → Bool, C2 = fun t => C t || (decide (v ≤ t) && decide (t ≤ v + m)) := ⟨_, rfl⟩
    obtain ⟨C2, eC2⟩ := C2d
    have c2lo : ∀ t, t < v → C2 t = C t := fun t ht => by
      rw [eC2]
      have : ¬ v ≤ t := by omega
      simp [this]
    have c2in : ∀ t, v ≤ t → t ≤ v + m → C2 t = true := fun t h1 h2 => by
      rw [eC2]
      simp [h1, h2]
    have c2hi : ∀ t, v + m < t → C2 t = false := fun t h1 => by
      rw [eC2]
      have : ¬ t ≤ v + m := by omega
      simp [hC t (by omega), this]
    have c2ge : ∀ t, C t = true → C2 t = true := fun t ht => by
      rw [eC2]
      simp [ht]
    refine ⟨C2, fun t ht => c2hi t (by omega), ?_⟩
    -- what is sold
    have full : ∀ j, j ≤ m → B.sl (v + j) = B.wish ((v + j : Nat) : Int) := fun j hj => by
      by_cases c : 0 < B.ms (v + j)
      · obtain ⟨z1, z2⟩ := ms_empty h c
        by_cases ej : j = m
        · subst ej
          omega
        · exact absurd z1 (later (v + j + 1) (by omega) (by omega))
      · have := (ms_in h (v + j)).1
        unfold Bak.sl
        omega
    have tail : sq (fun j => B.sl (v + m + 1 + j)) r = B.kept ((v + m : Nat) : Int) + sq (fun j => B.bk ((v + m + 1 + j : Nat) : Int)) r := by
      have z := sells h (v + m + 1) r fun j hj => by
        have := none (v + m + 1 + j) (by omega) (by omega)
        have := th_0 (B := B) (v + m + 1 + j)
        by_cases c : 0 < B.th (v + m + 1 + j)
        · exact absurd ⟨by omega, c⟩ (none (v + m + 1 + j) (by omega) (by omega))
        · omega
      have e1 : v + m + 1 + r = v + (m + 1 + r) := by omega
      rw [z, th_full h te, e1, hu]
      omega
    have S : sq B.sl (v + (m + 1 + r)) = sq B.sl v + sq (fun j => B.wish ((v + j : Nat) : Int)) (m + 1) + (B.kept ((v + m : Nat) : Int) + sq (fun j => B.bk ((v + m + 1 + j : Nat) : Int)) r) := by
      have e1 : v + (m + 1 + r) = v + (m + 1) + r := by omega
      rw [e1, sq_add, sq_add B.sl v (m + 1), sq_eq (f := fun j => B.sl (v + j)) (g := fun j => B.wish ((v + j : Nat) : Int)) fun j hj => full j (by omega), ← tail]
      rfl
    -- the bound
    have W : sq (fun t => if C2 t then B.wish (t : Nat) else 0) (v + (m + 1 + r)) = sq (fun t => if C t then B.wish (t : Nat) else 0) v + sq (fun j => B.wish ((v + j : Nat) : Int)) (m + 1) := by
      have e1 : v + (m + 1 + r) = v + (m + 1) + r := by omega
      rw [e1, sq_add, sq_add _ v (m + 1)]
      have a1 : sq (fun t => if C2 t then B.wish (t : Nat) else 0) v = sq (fun t => if C t then B.wish (t : Nat) else 0) v := sq_eq fun t ht => by rw [c2lo t ht]
      have a2 : sq (fun j => if C2 (v + j) then B.wish ((v + j : Nat) : Int) else 0) (m + 1) = sq (fun j => B.wish ((v + j : Nat) : Int)) (m + 1) := sq_eq fun j hj => by
        show (if C2 (v + j) = true then _ else _) = _
        rw [if_pos (c2in (v + j) (by omega) (by omega))]
      have a3 : sq (fun j => if C2 (v + (m + 1) + j) then B.wish ((v + (m + 1) + j : Nat) : Int) else 0) r = 0 := sq_zero fun j hj => by
        show (if C2 (v + (m + 1) + j) = true then _ else _) = _
        rw [c2hi (v + (m + 1) + j) (by omega)]
        rfl
      rw [a1, a2, a3]
      omega
    have D : sq (fun d => if cov C2 B.L d then 0 else B.bk (d : Nat)) (v + (m + 1 + r)) ≤ sq (fun d => if cov C B.L d then 0 else B.bk (d : Nat)) v + (B.kept ((v + m : Nat) : Int) + sq (fun j => B.bk ((v + m + 1 + j : Nat) : Int)) r) := by
      have e1 : v + (m + 1 + r) = v + (m + 1) + r := by omega
      rw [e1, sq_add, sq_add _ v (m + 1)]
      have a1 : sq (fun d => if cov C2 B.L d then 0 else B.bk (d : Nat)) v ≤ sq (fun d => if cov C B.L d then 0 else B.bk (d : Nat)) v := sq_le fun d _ => by
        have b := (h.bk_in (d : Nat)).1
        cases c : cov C B.L d with
        | true =>
          have c2 : cov C2 B.L d = true := cov_iff.mpr fun t h1 h2 => c2ge t (cov_iff.mp c t h1 h2)
          rw [c2]
          exact Int.le_refl _
        | false =>
          split
          · exact b
          · exact Int.le_refl _
      have a3 : sq (fun j => if cov C2 B.L (v + (m + 1) + j) then 0 else B.bk ((v + (m + 1) + j : Nat) : Int)) r ≤ sq (fun j => B.bk ((v + m + 1 + j : Nat) : Int)) r := sq_le fun j _ => by
        have b := (h.bk_in ((v + (m + 1) + j : Nat) : Int)).1
        have e2 : v + m + 1 + j = v + (m + 1) + j := by omega
        rw [e2]
        split
        · exact b
        · exact Int.le_refl _
      have a2 : sq (fun j => if cov C2 B.L (v + j) then 0 else B.bk ((v + j : Nat) : Int)) (m + 1) ≤ B.kept ((v + m : Nat) : Int) := by
        rw [← sq_rev]
        have e3 : B.kept ((v + m : Nat) : Int) = sq (fun a => B.bk (((v + m : Nat) : Int) - (a : Nat))) (B.life - 1).toNat := rfl
        rw [e3]
        refine Int.le_trans (sq_le (g := fun a => if a < (B.life - 1).toNat then B.bk (((v + m : Nat) : Int) - (a : Nat)) else 0) fun a ha => ?_) (sq_cut (fun j => (h.bk_in _).1) _ _)
        have e4 : v + (m + 1 - 1 - a) = v + m - a := by omega
        have e5 : ((v + m - a : Nat) : Int) = ((v + m : Nat) : Int) - (a : Nat) := by omega
        show (if cov C2 B.L (v + (m + 1 - 1 - a)) = true then (0 : Int) else B.bk ((v + (m + 1 - 1 - a) : Nat) : Int)) ≤ if a < (B.life - 1).toNat then _ else _
        rw [e4, e5]
        have b := (h.bk_in (((v + m : Nat) : Int) - (a : Nat))).1
        by_cases c : a < (B.life - 1).toNat
        · rw [if_pos c]
          split
          · exact b
          · exact Int.le_refl _
        · have c2 : cov C2 B.L (v + m - a) = true := cov_iff.mpr fun t h1 h2 => c2in t (by omega) (by omega)
          rw [if_pos c2, if_neg c]
          exact Int.le_refl _
      have e6 : sq (fun j => if cov C2 B.L (v + (m + 1 + j)) then 0 else B.bk ((v + (m + 1 + j) : Nat) : Int)) r = sq (fun j => if cov C2 B.L (v + (m + 1) + j) then 0 else B.bk ((v + (m + 1) + j : Nat) : Int)) r := sq_eq fun j _ => by rw [Nat.add_assoc v (m + 1) j]
      omega
    unfold Bak.bd at hb ⊢
    rw [W, S]
    omega
  · refine ⟨C, fun t ht => hC t (by omega), ?_⟩
    have z := sells h v k fun j hj => by
      have := th_0 (B := B) (v + j)
      by_cases c : 0 < B.th (v + j)
      · exact absurd ⟨v + j, by omega, by omega, c⟩ waste
      · omega
    rw [sv, hu] at z
    unfold Bak.bd at hb ⊢
    rw [sq_add, sq_add _ v k, sq_add B.sl v k]
    have a1 : sq (fun j => if C (v + j) then B.wish ((v + j : Nat) : Int) else 0) k = 0 := sq_zero fun j _ => by
      show (if C (v + j) = true then _ else _) = _
      rw [hC (v + j) (by omega)]
      rfl
    have a2 : sq (fun j => if cov C B.L (v + j) then 0 else B.bk ((v + j : Nat) : Int)) k = sq (fun j => B.bk ((v + j : Nat) : Int)) k := sq_eq fun j _ => by
      show (if cov C B.L (v + j) = true then _ else _) = _
      rw [uncov C (v + j) (hC (v + j) (by omega))]
      rfl
    rw [a1, a2]
    omega
/-- some days show that no more can be sold than selling the oldest first sells -/
theorem cut_ex {B : Bak} (h : B.Ok) (T : Nat) : ∃ C : Nat → Bool, B.bdT C T ≤ B.ws T - B.sm 0 T := by
  rw [sold_sg]
  by_cases z : B.st T = 0
  · obtain ⟨C, _, hb⟩ := cut_empty h T z
    exact ⟨C, Int.le_trans (bdT_le h C T) hb⟩
  have T0 : T ≠ 0 := fun e => z (by rw [e]; rfl)
  obtain ⟨v, hv, sv, later⟩ := last_of (p := fun v => B.st v = 0) T ⟨0, by omega, rfl⟩
  obtain ⟨C, hC, hb⟩ := cut_empty h v sv
  obtain ⟨k, rfl⟩ : ∃ k, T = v + k := ⟨T - v, by omega⟩
  have l0 := h.l0
  refine ⟨fun t => C t || decide (v ≤ t), ?_⟩
  have full : ∀ j, j < k → B.sl (v + j) = B.wish ((v + j : Nat) : Int) := fun j hj => by
    by_cases c : 0 < B.ms (v + j)
    · obtain ⟨z1, z2⟩ := ms_empty h c
      by_cases ej : j + 1 = k
      · have e : v + j + 1 = v + k := by omega
        rw [e] at z1
        exact absurd z1 z
      · exact absurd z1 (later (v + j + 1) (by omega) (by omega))
    · have := (ms_in h (v + j)).1
      unfold Bak.sl
      omega
  unfold Bak.bd at hb
  unfold Bak.bdT
  rw [sq_add, sq_add _ v k, sq_add B.sl v k, sq_eq (f := fun j => B.sl (v + j)) (g := fun j => B.wish ((v + j : Nat) : Int)) full]
  have a1 : sq (fun t => if (C t || decide (v ≤ t)) then B.wish (t : Nat) else 0) v = sq (fun t => if C t then B.wish (t : Nat) else 0) v := sq_eq fun t ht => by
    have : ¬ v ≤ t := by omega
    simp [this]
  have a2 : sq (fun j => if (C (v + j) || decide (v ≤ v + j)) then B.wish ((v + j : Nat) : Int) else 0) k = sq (fun j => B.wish ((v + j : Nat) : Int)) k := sq_eq fun j _ => by simp
  have a3 : sq (fun d => if covT (fun t => C t || decide (v ≤ t)) B.L (v + k) d then 0 else B.bk (d : Nat)) v ≤ sq (fun d => if cov C B.L d then 0 else B.bk (d : Nat)) v := sq_le fun d _ => by
    have b := (h.bk_in (d : Nat)).1
    cases c : cov C B.L d with
    | true =>
      have c2 : covT (fun t => C t || decide (v ≤ t)) B.L (v + k) d = true := covT_iff.mpr fun t h1 h2 _ => by simp [cov_iff.mp c t h1 h2]
      rw [c2]
      exact Int.le_refl _
    | false =>
      split
      · exact b
      · exact Int.le_refl _
  have a4 : sq (fun j => if covT (fun t => C t || decide (v ≤ t)) B.L (v + k) (v + j) then 0 else B.bk ((v + j : Nat) : Int)) k = 0 := sq_zero fun j _ => by
    have c2 : covT (fun t => C t || decide (v ≤ t)) B.L (v + k) (v + j) = true := covT_iff.mpr fun t h1 h2 _ => by
      have : v ≤ t := by omega
      simp [this]
    show (if covT _ B.L (v + k) (v + j) = true then _ else _) = _
    rw [c2]
    rfl
  rw [a1, a2, a4]
  omega
end G57
end
section
/-! MNew: the newest loaves sold first; any order sells no more. -/
namespace G57
/-- the customers take from the first of the list on -/
def take : Int → Prs → Int × Prs
  | w, [] => (w, [])
  | w, (d, c) :: r => ((take (w - min w c) r).1, (d, c - min w c) :: (take (w - min w c) r).2)
theorem take_in : ∀ {X : Prs} {w : Int}, Non X → 0 ≤ w → 0 ≤ (take w X).1 ∧ (take w X).1 ≤ w ∧ Non (take w X).2 ∧ w - (take w X).1 = tot X - tot (take w X).2
  | [], w, _, h => ⟨h, Int.le_refl _, (fun z hz => by cases hz), by
    show w - w = tot [] - tot []
    omega⟩
  | (d, c) :: X, w, n, h => by
    have h1 := n.hd
    simp only at h1
    obtain ⟨a1, a2, a3, a4⟩ := take_in (X := X) (w := w - min w c) n.tl (by omega)
    refine ⟨a1, ?_, ?_, ?_⟩
    · show (take (w - min w c) X).1 ≤ w
      omega
    · intro z hz
      rcases List.mem_cons.mp hz with rfl | hz
      · show 0 ≤ c - min w c
        omega
      · exact a3 z hz
    · show w - (take (w - min w c) X).1 = tot ((d, c) :: X) - tot ((d, c - min w c) :: (take (w - min w c) X).2)
      rw [tot_cons, tot_cons]
      omega
theorem take_days : ∀ (X : Prs) (w : Int), (take w X).2.map (fun z => z.1) = X.map fun z => z.1
  | [], _ => rfl
  | (d, c) :: X, w => by
    show d :: (take (w - min w c) X).2.map (fun z => z.1) = d :: X.map fun z => z.1
    rw [take_days X]
theorem take_len (X : Prs) (w : Int) : (take w X).2.length = X.length := by
  have := congrArg List.length (take_days X w)
  simpa using this
/-- playing drops what is empty, and what is old -/
theorem plr_take (ex : Int → Bool) : ∀ (X : Prs) (w : Int) (k : Prs) (t : Int), Non X → 0 ≤ w →
    plr ex w k t X = ((take w X).1, k ++ (take w X).2.filter (fun z => !ex z.1 && decide (0 < z.2)), t + tot ((take w X).2.filter fun z => ex z.1))
  | [], w, k, t, _, _ => by
    show (w, k, t) = (w, k ++ [], t + tot [])
    rw [List.append_nil, tot_nil, Int.add_zero]
  | (d, c) :: X, w, k, t, n, h => by
    have h1 := n.hd
    simp only at h1
    show plr ex (w - min w c) _ _ X = ((take (w - min w c) X).1, k ++ List.filter _ ((d, c - min w c) :: (take (w - min w c) X).2), t + tot (List.filter _ ((d, c - min w c) :: (take (w - min w c) X).2)))
    rw [plr_take ex X (w - min w c) _ _ n.tl (by omega)]
    cases he : ex d with
    | true =>
      simp only [he, if_true, List.filter_cons, Bool.not_true, Bool.false_and, Bool.false_eq_true, if_false, tot_cons]
      congr 2
      omega
    | false =>
      by_cases p : min w c < c
      · have p2 : 0 < c - min w c := by omega
        simp only [he, Bool.false_eq_true, if_false, if_pos p, List.filter_cons, Bool.not_false, Bool.true_and, decide_eq_true p2, if_true, List.append_assoc, List.singleton_append]
      · have p2 : ¬ 0 < c - min w c := by omega
        simp only [he, Bool.false_eq_true, if_false, if_neg p, List.filter_cons, Bool.not_false, Bool.true_and, decide_eq_false p2]
def pos (X : Prs) : Prs := X.filter fun z => decide (0 < z.2)
theorem take_pos : ∀ (X : Prs) (w : Int), Non X → 0 ≤ w → (take w (pos X)).1 = (take w X).1 ∧ pos (take w (pos X)).2 = pos (take w X).2 ∧ ∀ ex : Int → Bool, tot ((take w (pos X)).2.filter fun z => ex z.1) = tot ((take w X).2.filter fun z => ex z.1)
  | [], w, _, _ => ⟨rfl, rfl, fun _ => rfl⟩
  | (d, c) :: X, w, n, h => by
    have h1 := n.hd
    simp only at h1
    by_cases p : 0 < c
    · obtain ⟨a1, a2, a3⟩ := take_pos X (w - min w c) n.tl (by omega)
      have e : pos ((d, c) :: X) = (d, c) :: pos X := by
        unfold pos
        rw [List.filter_cons]
        simp [p]
      rw [e]
      refine ⟨a1, ?_, fun ex => ?_⟩
      · show pos ((d, c - min w c) :: (take (w - min w c) (pos X)).2) = pos ((d, c - min w c) :: (take (w - min w c) X).2)
        unfold pos at a2 ⊢
        rw [List.filter_cons, List.filter_cons, a2]
      · show tot (List.filter _ ((d, c - min w c) :: (take (w - min w c) (pos X)).2)) = tot (List.filter _ ((d, c - min w c) :: (take (w - min w c) X).2))
        rw [List.filter_cons, List.filter_cons]
        split
        · rw [tot_cons, tot_cons, a3]
        · exact a3 ex
    · have c0 : c = 0 := by omega
      subst c0
      have e : pos ((d, 0) :: X) = pos X := by
        unfold pos
        rw [List.filter_cons]
        simp
      have m : min w 0 = 0 := by omega
      have m2 : w - min w 0 = w := by omega
      obtain ⟨a1, a2, a3⟩ := take_pos X w n.tl h
      rw [e]
      have t2 : take w ((d, 0) :: X) = ((take w X).1, (d, 0) :: (take w X).2) := by
        show ((take (w - min w 0) X).1, (d, 0 - min w 0) :: (take (w - min w 0) X).2) = _
        rw [m2, m]
        rfl
      rw [t2]
      refine ⟨a1, ?_, fun ex => ?_⟩
      · rw [a2]
        unfold pos
        rw [List.filter_cons]
        simp
      · rw [a3, List.filter_cons]
        split
        · rw [tot_cons]
          omega
        · rfl
/-! ### the newest first -/
/-- the shelf at the beginning of a day, empty entries too -/
def Bak.nX (B : Bak) : Nat → Prs
  | 0 => []
  | t + 1 => ((take (B.wish (t : Nat)) (B.nX t ++ [((t : Int), B.bk (t : Nat))]).reverse).2.reverse).filter fun z => decide ((t : Int) - B.life + 1 < z.1)
def Bak.nT (B : Bak) (t : Nat) : Int × Prs := take (B.wish (t : Nat)) (B.nX t ++ [((t : Int), B.bk (t : Nat))]).reverse
def Bak.nM (B : Bak) (t : Nat) : Int := (B.nT t).1
def Bak.nW (B : Bak) (t : Nat) : Int := tot ((B.nT t).2.filter fun z => decide (z.1 ≤ (t : Int) - B.life + 1))
theorem non_rev {X : Prs} (h : Non X) : Non X.reverse := fun z hz => h z (List.mem_reverse.mp hz)
theorem non_snoc {X : Prs} (h : Non X) {d c : Int} (c0 : 0 ≤ c) : Non (X ++ [(d, c)]) := fun z hz => by
  rcases List.mem_append.mp hz with hz | hz
  · exact h z hz
  · rw [List.mem_singleton.mp hz]
    exact c0
theorem nX_non {B : Bak} (h : B.Ok) : ∀ t, Non (B.nX t)
  | 0 => fun z hz => by cases hz
  | t + 1 => fun z hz => by
    have b := (h.bk_in (t : Nat)).1
    have w := (h.wish_in (t : Nat)).1
    have hz' := (List.mem_filter.mp hz).1
    exact (take_in (non_rev (non_snoc (nX_non h t) b)) w).2.2.1 z (List.mem_reverse.mp hz')
theorem nT_in {B : Bak} (h : B.Ok) (t : Nat) : 0 ≤ B.nM t ∧ B.nM t ≤ B.wish (t : Nat) ∧ Non (B.nT t).2 := by
  have b := (h.bk_in (t : Nat)).1
  have w := (h.wish_in (t : Nat)).1
  obtain ⟨a1, a2, a3, _⟩ := take_in (non_rev (non_snoc (d := (t : Int)) (nX_non h t) b)) w
  exact ⟨a1, a2, a3⟩
theorem nX_days {B : Bak} (h : B.Ok) : ∀ t : Nat, ∀ z ∈ B.nX t, z.1 < t ∧ (t : Int) < z.1 + B.life ∧ 0 ≤ z.1
  | 0 => fun z hz => by cases hz
  | t + 1 => fun z hz => by
    obtain ⟨h1, h2⟩ := List.mem_filter.mp hz
    have hd : z.1 ∈ (B.nT t).2.map fun z => z.1 := List.mem_map.mpr ⟨z, List.mem_reverse.mp h1, rfl⟩
    have e : (B.nT t).2.map (fun z => z.1) = (B.nX t ++ [((t : Int), B.bk (t : Nat))]).reverse.map fun z => z.1 := take_days _ _
    rw [e] at hd
    obtain ⟨y, hy, ey⟩ := List.mem_map.mp hd
    have lt := of_decide_eq_true h2
    rcases List.mem_append.mp (List.mem_reverse.mp hy) with q | q
    · have := nX_days h t y q
      omega
    · rw [List.mem_singleton.mp q] at ey
      simp only at ey
      omega
theorem asc_len : ∀ (l : List Int) (lo : Int) (m : Nat), l.Pairwise (· < ·) → (∀ x ∈ l, lo ≤ x ∧ x < lo + m) → l.length ≤ m
  | [], _, _, _, _ => Nat.zero_le _
  | x :: l, lo, m, h, b => by
    obtain ⟨h1, h2⟩ := List.pairwise_cons.mp h
    obtain ⟨b1, b2⟩ := b x (by simp)
    have z := asc_len l (x + 1) (lo + m - (x + 1)).toNat h2 fun y hy => by
      have := h1 y hy
      have := (b y (by simp [hy])).2
      omega
    rw [List.length_cons]
    omega
theorem nX_up {B : Bak} (h : B.Ok) : ∀ t : Nat, ((B.nX t).map fun z => z.1).Pairwise (· < ·)
  | 0 => List.Pairwise.nil
  | t + 1 => by
    have ih := nX_up h t
    refine List.Pairwise.sublist (List.filter_sublist.map _) ?_
    rw [List.map_reverse]
    have e : (B.nT t).2.map (fun z => z.1) = (B.nX t ++ [((t : Int), B.bk (t : Nat))]).reverse.map fun z => z.1 := take_days _ _
    have e2 : (take (B.wish (t : Nat)) (B.nX t ++ [((t : Int), B.bk (t : Nat))]).reverse).2.map (fun z => z.1) = (B.nX t ++ [((t : Int), B.bk (t : Nat))]).reverse.map fun z => z.1 := e
    rw [e2, List.map_reverse, List.reverse_reverse, List.map_append, List.pairwise_append]
    refine ⟨ih, List.pairwise_singleton _ _, fun x hx y hy => ?_⟩
    obtain ⟨z, hz, rfl⟩ := List.mem_map.mp hx
    rw [List.mem_singleton.mp hy]
    exact (nX_days h t z hz).1
theorem nX_len {B : Bak} (h : B.Ok) (t : Nat) : (B.nX t).length ≤ 30 := by
  have l1 := h.l1
  have l0 := h.l0
  have z := asc_len ((B.nX t).map fun z => z.1) ((t : Int) - B.life) 30 (nX_up h t) fun x hx => by
    obtain ⟨z, hz, rfl⟩ := List.mem_map.mp hx
    have := nX_days h t z hz
    omega
  rwa [List.length_map] at z
/-- the shelf of a law that plays it: no empty entries -/
theorem play_new {B : Bak} (h : B.Ok) (t : Nat) : plr (fun b => decide (b + B.life - 1 ≤ (t : Int))) (B.wish (t : Nat)) [] 0 (pos (B.nX t) ++ [((t : Int), B.bk (t : Nat))]).reverse = (B.nM t, (pos (B.nX (t + 1))).reverse, B.nW t) := by
  have b := (h.bk_in (t : Nat)).1
  have w := (h.wish_in (t : Nat)).1
  have nn := non_rev (non_snoc (d := (t : Int)) (nX_non h t) b)
  have nn2 : Non (pos (B.nX t) ++ [((t : Int), B.bk (t : Nat))]).reverse := non_rev (non_snoc (fun z hz => nX_non h t z (List.mem_filter.mp hz).1) b)
  rw [plr_take _ _ _ _ _ nn2 w]
  -- the playing list has no empty entries but perhaps the newest
  have pr : ∀ X : Prs, pos X.reverse = (pos X).reverse := fun X => by
    unfold pos
    rw [List.filter_reverse]
  have pp : pos (pos (B.nX t) ++ [((t : Int), B.bk (t : Nat))]).reverse = pos (B.nX t ++ [((t : Int), B.bk (t : Nat))]).reverse := by
    rw [pr, pr]
    congr 1
    unfold pos
    rw [List.filter_append, List.filter_append, List.filter_filter]
    simp
  obtain ⟨a1, a2, a3⟩ := take_pos _ (B.wish (t : Nat)) nn2 w
  obtain ⟨b1, b2, b3⟩ := take_pos _ (B.wish (t : Nat)) nn w
  rw [pp] at a1 a2 a3
  have ex : ∀ z : Int × Int, decide (z.1 + B.life - 1 ≤ (t : Int)) = decide (z.1 ≤ (t : Int) - B.life + 1) := fun z => by
    by_cases c : z.1 ≤ (t : Int) - B.life + 1
    · rw [decide_eq_true c, decide_eq_true (by omega)]
    · rw [decide_eq_false c, decide_eq_false (by omega)]
  refine Prod.ext ?_ (Prod.ext ?_ ?_)
  · show (take _ _).1 = _
    rw [← a1, b1]
    rfl
  · show [] ++ _ = _
    rw [List.nil_append]
    have f1 : ∀ X : Prs, X.filter (fun z => !decide (z.1 + B.life - 1 ≤ (t : Int)) && decide (0 < z.2)) = (pos X).filter fun z => decide ((t : Int) - B.life + 1 < z.1) := fun X => by
      unfold pos
      rw [List.filter_filter]
      refine List.filter_congr fun z _ => ?_
      by_cases c : (t : Int) - B.life + 1 < z.1
      · have c2 : ¬ z.1 + B.life - 1 ≤ (t : Int) := by omega
        simp [c, c2]
      · have c2 : z.1 + B.life - 1 ≤ (t : Int) := by omega
        simp [c, c2]
    rw [f1, ← a2, b2]
    show _ = (pos (List.filter _ (B.nT t).2.reverse)).reverse
    unfold pos
    rw [List.filter_reverse, List.filter_reverse, List.reverse_reverse, List.filter_filter, List.filter_filter]
    refine List.filter_congr fun z _ => ?_
    rw [Bool.and_comm]
  · show 0 + tot _ = _
    have g : ∀ X : Prs, X.filter (fun z => decide (z.1 + B.life - 1 ≤ (t : Int))) = X.filter fun z => decide (z.1 ≤ (t : Int) - B.life + 1) := fun X => List.filter_congr fun z _ => ex z
    rw [g, ← a3 fun b => decide (b ≤ (t : Int) - B.life + 1), b3 fun b => decide (b ≤ (t : Int) - B.life + 1)]
    show 0 + B.nW t = B.nW t
    omega
/-! ### any order -/
/-- what is left of loaves that the bound counts -/
def pot (C : Nat → Bool) (L T : Nat) (X : Prs) : Int := tot (X.filter fun z => !covT C L T z.1.toNat)
theorem pot_cons {C : Nat → Bool} {L T : Nat} {d c : Int} {X : Prs} : pot C L T ((d, c) :: X) = (if covT C L T d.toNat then 0 else c) + pot C L T X := by
  unfold pot
  rw [List.filter_cons]
  cases h : covT C L T d.toNat with
  | true => simp
  | false => simp [tot_cons]
theorem pot_app {C : Nat → Bool} {L T : Nat} (X Y : Prs) : pot C L T (X ++ Y) = pot C L T X + pot C L T Y := by
  unfold pot
  rw [List.filter_append, tot_append]
theorem pot_0 {C : Nat → Bool} {L T : Nat} {X : Prs} (h : Non X) : 0 ≤ pot C L T X := tot_non fun z hz => h z (List.mem_filter.mp hz).1
theorem pot_sub {C : Nat → Bool} {L T : Nat} (p : Int × Int → Bool) : ∀ {X : Prs}, Non X → pot C L T (X.filter p) ≤ pot C L T X
  | [], _ => Int.le_refl _
  | (d, c) :: X, n => by
    have ih := pot_sub (C := C) (L := L) (T := T) p n.tl
    have h1 := n.hd
    simp only at h1
    rw [List.filter_cons]
    split
    · rw [pot_cons, pot_cons]
      omega
    · rw [pot_cons]
      split <;> omega
theorem pot_rev {C : Nat → Bool} {L T : Nat} (X : Prs) : pot C L T X.reverse = pot C L T X := by
  unfold pot tot
  rw [List.filter_reverse, List.map_reverse, List.sum_reverse]
/-- an entry gives k loaves -/
theorem pot_set {C : Nat → Bool} {L T : Nat} : ∀ {X : Prs} {i : Nat} {d c k : Int}, X[i]? = some (d, c) → pot C L T (X.set i (d, c - k)) = pot C L T X - if covT C L T d.toNat then 0 else k
  | [], i, d, c, k, h => by simp at h
  | (e, f) :: X, 0, d, c, k, h => by
    obtain ⟨rfl, rfl⟩ : e = d ∧ f = c := by simpa using h
    show pot C L T ((e, f - k) :: X) = _
    rw [pot_cons, pot_cons]
    split <;> omega
  | (e, f) :: X, i + 1, d, c, k, h => by
    show pot C L T ((e, f) :: X.set i (d, c - k)) = _
    rw [pot_cons, pot_cons, pot_set (X := X) (i := i) (by simpa using h)]
    omega
/-- the bound of the first days -/
def Bak.ph (B : Bak) (C : Nat → Bool) (T t : Nat) : Int := sq (fun t => if C t then B.wish (t : Nat) else 0) t + sq (fun d => if covT C B.L T d then 0 else B.bk (d : Nat)) t
theorem ph_T (B : Bak) (C : Nat → Bool) (T : Nat) : B.ph C T T = B.bdT C T := rfl
theorem ph_1 (B : Bak) (C : Nat → Bool) (T t : Nat) : B.ph C T (t + 1) = B.ph C T t + (if C t then B.wish (t : Nat) else 0) + if covT C B.L T t then 0 else B.bk (t : Nat) := by
  unfold Bak.ph
  rw [sq_1, sq_1]
  omega
theorem pot_take {C : Nat → Bool} {L T : Nat} : ∀ {X : Prs} {w : Int}, Non X → 0 ≤ w → pot C L T X - pot C L T (take w X).2 ≤ w - (take w X).1 ∧ pot C L T (take w X).2 ≤ pot C L T X ∧ ((∀ z ∈ X, 0 < z.2 → covT C L T z.1.toNat = false) → pot C L T X - pot C L T (take w X).2 = w - (take w X).1)
  | [], w, _, _ => by
    refine ⟨?_, Int.le_refl _, fun _ => ?_⟩
    · show (0 : Int) - 0 ≤ w - w
      omega
    · show (0 : Int) - 0 = w - w
      omega
  | (d, c) :: X, w, n, h => by
    have h1 := n.hd
    simp only at h1
    obtain ⟨a1, a2, a3⟩ := pot_take (C := C) (L := L) (T := T) (X := X) (w := w - min w c) n.tl (by omega)
    have e : (take w ((d, c) :: X)).2 = (d, c - min w c) :: (take (w - min w c) X).2 := rfl
    have e1 : (take w ((d, c) :: X)).1 = (take (w - min w c) X).1 := rfl
    rw [e, e1, pot_cons, pot_cons]
    refine ⟨?_, ?_, fun all => ?_⟩
    · split <;> omega
    · split <;> omega
    · have a4 := a3 fun z hz => all z (List.mem_cons_of_mem _ hz)
      by_cases p : 0 < c
      · have := all (d, c) List.mem_cons_self p
        simp only at this
        rw [this]
        simp only [Bool.false_eq_true, if_false]
        omega
      · split <;> omega
/-- the newest first sells no more than the bound -/
theorem new_bound {B : Bak} (h : B.Ok) (C : Nat → Bool) (T : Nat) : ∀ t : Nat, t ≤ T → sq (fun j => B.wish (j : Nat) - B.nM j) t + pot C B.L T (B.nX t) ≤ B.ph C T t
  | 0, _ => by
    show (0 : Int) + 0 ≤ 0 + 0
    omega
  | t + 1, ht => by
    have ih := new_bound h C T t (by omega)
    have b := (h.bk_in (t : Nat)).1
    have w := (h.wish_in (t : Nat)).1
    have l0 := h.l0
    have LB : (B.L : Int) = B.life := by
      unfold Bak.L
      omega
    have nn := non_rev (non_snoc (d := (t : Int)) (nX_non h t) b)
    obtain ⟨m0, m1, m2⟩ := nT_in h t
    have p1 : pot C B.L T (B.nX (t + 1)) ≤ pot C B.L T (B.nT t).2 := by
      have z := pot_sub (C := C) (L := B.L) (T := T) (fun z => decide ((t : Int) - B.life + 1 < z.1)) (non_rev m2)
      rw [pot_rev] at z
      exact z
    have p2 : pot C B.L T (B.nX t ++ [((t : Int), B.bk (t : Nat))]).reverse = pot C B.L T (B.nX t) + if covT C B.L T t then 0 else B.bk (t : Nat) := by
      rw [pot_rev, pot_app, pot_cons]
      show _ + ((if covT C B.L T (t : Int).toNat then 0 else _) + 0) = _
      have e : (t : Int).toNat = t := rfl
      rw [e]
      omega
    obtain ⟨q1, q2, q3⟩ := pot_take (C := C) (L := B.L) (T := T) nn w
    rw [p2] at q1 q2 q3
    rw [sq_1, ph_1]
    have eM : (take (B.wish (t : Nat)) (B.nX t ++ [((t : Int), B.bk (t : Nat))]).reverse) = B.nT t := rfl
    rw [eM] at q1 q2 q3
    have eN : (B.nT t).1 = B.nM t := rfl
    rw [eN] at q1 q3
    cases hc : C t with
    | true =>
      simp only [if_true]
      omega
    | false =>
      have q4 := q3 fun z hz _ => by
        have hz' := List.mem_reverse.mp hz
        have zd : z.1 ≤ t ∧ (t : Int) < z.1 + B.life ∧ 0 ≤ z.1 := by
          rcases List.mem_append.mp hz' with q | q
          · have := nX_days h t z q
            omega
          · rw [List.mem_singleton.mp q]
            simp only
            omega
        cases c : covT C B.L T z.1.toNat with
        | false => rfl
        | true =>
          have c2 := covT_iff.mp c t (by omega) (by omega) (by omega)
          rw [hc] at c2
          cases c2
      simp only [Bool.false_eq_true, if_false]
      omega
theorem new_less {B : Bak} (h : B.Ok) (T : Nat) : sq (fun j => B.wish (j : Nat) - B.nM j) T ≤ B.ws T - B.sm 0 T ∧ B.sm 0 T ≤ sq B.nM T := by
  obtain ⟨C, hC⟩ := cut_ex h T
  have z := new_bound h C T T (Nat.le_refl _)
  rw [ph_T] at z
  have p := pot_0 (C := C) (L := B.L) (T := T) (nX_non h T)
  have s : ∀ n : Nat, sq (fun j => B.wish (j : Nat) - B.nM j) n = B.ws n - sq B.nM n := fun n => by
    induction n with
    | zero => rfl
    | succ n ih =>
      rw [sq_1, sq_1, ih]
      show _ = B.ws n + B.wish (n : Nat) - _
      omega
  have s2 := s T
  omega
end G57
end
section
/-! MLoss: thrown loaves never fall from round to round; the first day with a loss. -/
namespace G57
theorem th_eqL (B : Bak) (d : Nat) : B.th d = max 0 (B.st d + B.bk (d : Nat) - B.wish (d : Nat) - B.kept (d : Nat)) := by
  unfold Bak.th Bak.eff dayE Eff.thr
  simp only
  omega
theorem th_up {B : Bak} (h : B.Ok) (d : Nat) : B.th d ≤ B.th (d + B.n) := by
  have su := st_up h d
  have l0 := h.l0
  by_cases c : (B.life - 1).toNat ≤ d
  · unfold Bak.th
    rw [eff_per c]
    unfold Eff.thr
    omega
  · have z : B.th d = 0 := by
      rw [th_eqL]
      have w := (h.wish_in (d : Nat)).1
      obtain ⟨m, hm⟩ : ∃ m, (B.life - 1).toNat = m + 1 := ⟨(B.life - 1).toNat - 1, by omega⟩
      have s1 := st_le h d
      have k1 := ag_tot B (d : Nat)
      rw [hm] at s1 k1
      rw [ag_cons, tot_cons] at k1
      rw [ag_succ, tot_append] at s1
      have b0 : B.bk ((d : Int) - ((1 + m : Nat) : Int)) = 0 := by
        unfold Bak.bk
        rw [if_neg (by omega)]
      rw [tot_cons, b0, tot_nil] at s1
      omega
    rw [z, th_eqL]
    exact Int.le_max_left _ _
/-- a loss that grows or falls from round to round, and stays in the long run -/
structure Los (n D : Nat) (f : Nat → Int) : Prop where
  n0 : 1 ≤ n
  far : ∀ d, D ≤ d → f (d + n) = f d
  mono : (∀ d, f d = 0 → f (d + n) = 0) ∨ ∀ d, f d ≠ 0 → f (d + n) ≠ 0
section
variable {n D : Nat} {f : Nat → Int}
theorem Los.fars (L : Los n D f) {d : Nat} (h : D ≤ d) : ∀ k : Nat, f (d + k * n) = f d
  | 0 => by rw [Nat.zero_mul, Nat.add_zero]
  | k + 1 => by
    rw [show d + (k + 1) * n = (d + k * n) + n by rw [Nat.add_mul]; omega, L.far _ (by omega), L.fars h k]
theorem Los.dn (a : ∀ d, f d = 0 → f (d + n) = 0) {d : Nat} (z : f d = 0) : ∀ k : Nat, f (d + k * n) = 0
  | 0 => by rw [Nat.zero_mul, Nat.add_zero]; exact z
  | k + 1 => by
    rw [show d + (k + 1) * n = (d + k * n) + n by rw [Nat.add_mul]; omega]
    exact a _ (Los.dn a z k)
theorem Los.upw (a : ∀ d, f d ≠ 0 → f (d + n) ≠ 0) {d : Nat} (z : f d ≠ 0) : ∀ k : Nat, f (d + k * n) ≠ 0
  | 0 => by rw [Nat.zero_mul, Nat.add_zero]; exact z
  | k + 1 => by
    rw [show d + (k + 1) * n = (d + k * n) + n by rw [Nat.add_mul]; omega]
    exact a _ (Los.upw a z k)
/-- no loss now nor far on: none between -/
theorem Los.never (L : Los n D f) {i t : Nat} (h : D ≤ i + t * n) (z : f i = 0) (y : f (i + t * n) = 0) (k : Nat) : f (i + k * n) = 0 := by
  rcases L.mono with a | a
  · exact Los.dn a z k
  · false_or_by_contra
    rename_i c
    by_cases le : k ≤ t
    · have q := Los.upw a c (t - k)
      have e : i + k * n + (t - k) * n = i + t * n := by
        rw [Nat.add_assoc, ← Nat.add_mul]
        congr 2
        omega
      rw [e] at q
      exact q y
    · have q := L.fars h (k - t)
      have e : i + t * n + (k - t) * n = i + k * n := by
        rw [Nat.add_assoc, ← Nat.add_mul]
        congr 2
        omega
      rw [e] at q
      exact c (q.trans y)
theorem Los.grows (L : Los n D f) {i t : Nat} (z : f i = 0) (y : f (i + t * n) ≠ 0) : ∀ d, f d ≠ 0 → f (d + n) ≠ 0 := by
  rcases L.mono with a | a
  · exact absurd (Los.dn a z t) y
  · exact a
/-- the state of a halving: k is the first round with a loss iff low = high = k -/
def Hlv (n : Nat) (f : Nat → Int) (i t lo hi : Nat) : Prop := lo ≤ hi ∧ hi ≤ t ∧ f (i + hi * n) ≠ 0 ∧ ∀ k, k < lo → f (i + k * n) = 0
theorem hlv_0 {i t : Nat} (y : f (i + t * n) ≠ 0) : Hlv n f i t 0 t := ⟨Nat.zero_le _, Nat.le_refl _, y, fun k h => absurd h (Nat.not_lt_zero _)⟩
theorem Hlv.down {i t lo hi m : Nat} (h : Hlv n f i t lo hi) (m0 : lo ≤ m) (m1 : m < hi) (y : f (i + m * n) ≠ 0) : Hlv n f i t lo m := ⟨m0, by have := h.2.1; omega, y, h.2.2.2⟩
theorem Hlv.up {i t lo hi m : Nat} (a : ∀ d, f d ≠ 0 → f (d + n) ≠ 0) (h : Hlv n f i t lo hi) (m0 : lo ≤ m) (m1 : m < hi) (y : f (i + m * n) = 0) : Hlv n f i t (m + 1) hi := ⟨m1, h.2.1, h.2.2.1, fun k hk => by
  false_or_by_contra
  rename_i c
  have q := Los.upw a c (m - k)
  have e : i + k * n + (m - k) * n = i + m * n := by
    rw [Nat.add_assoc, ← Nat.add_mul]
    congr 2
    omega
  rw [e] at q
  exact q y⟩
/-- what is found after the first j of the n classes -/
def Fnd (n : Nat) (f : Nat → Int) (a j : Nat) (ns : List Nat) : Prop := (∀ x ∈ ns, a ≤ x ∧ f x ≠ 0) ∧ ∀ d, a ≤ d → (d - a) % n < j → f d ≠ 0 → ∃ x ∈ ns, x ≤ d
theorem fnd_0 {a : Nat} : Fnd n f a 0 [] := ⟨fun x h => absurd h List.not_mem_nil, fun d _ h => absurd h (Nat.not_lt_zero _)⟩
theorem cls_of {a j d : Nat} (n0 : 1 ≤ n) (h : a ≤ d) (e : (d - a) % n = j) : ∃ k, d = a + j + k * n := ⟨(d - a) / n, by
  have q := Nat.div_add_mod (d - a) n
  rw [e] at q
  rw [Nat.mul_comm]
  omega⟩
theorem Fnd.skip {a j : Nat} {ns : List Nat} (n0 : 1 ≤ n) (h : Fnd n f a j ns) (z : ∀ k, f (a + j + k * n) = 0) : Fnd n f a (j + 1) ns := ⟨h.1, fun d ad hj hd => by
  by_cases c : (d - a) % n < j
  · exact h.2 d ad c hd
  · obtain ⟨k, rfl⟩ := cls_of n0 ad (show (d - a) % n = j by omega)
    exact absurd (z k) hd⟩
theorem Fnd.add {a j k : Nat} {ns : List Nat} (n0 : 1 ≤ n) (h : Fnd n f a j ns) (y : f (a + j + k * n) ≠ 0) (z : ∀ q, q < k → f (a + j + q * n) = 0) : Fnd n f a (j + 1) (ns ++ [a + j + k * n]) := by
  refine ⟨fun x hx => ?_, fun d ad hj hd => ?_⟩
  · rcases List.mem_append.mp hx with hx | hx
    · exact h.1 x hx
    · rw [List.mem_singleton.mp hx]
      exact ⟨by omega, y⟩
  · by_cases c : (d - a) % n < j
    · obtain ⟨x, hx, l⟩ := h.2 d ad c hd
      exact ⟨x, List.mem_append_left _ hx, l⟩
    · obtain ⟨q, rfl⟩ := cls_of n0 ad (show (d - a) % n = j by omega)
      refine ⟨_, List.mem_append_right _ (List.mem_singleton.mpr rfl), ?_⟩
      rcases Nat.lt_or_ge q k with l | l
      · exact absurd (z q l) hd
      · have := Nat.mul_le_mul_right n l
        omega
/-- the first day with a loss from a on -/
def Fst (f : Nat → Int) (a m : Nat) : Prop := a ≤ m ∧ f m ≠ 0 ∧ ∀ d, a ≤ d → d < m → f d = 0
theorem Fnd.least {a m : Nat} {ns : List Nat} (n0 : 1 ≤ n) (h : Fnd n f a n ns) (hm : m ∈ ns) (l : ∀ x ∈ ns, m ≤ x) : Fst f a m := ⟨(h.1 m hm).1, (h.1 m hm).2, fun d ad dm => by
  false_or_by_contra
  rename_i c
  obtain ⟨x, hx, lx⟩ := h.2 d ad (Nat.mod_lt _ n0) c
  have := l x hx
  omega⟩
theorem Fnd.none {a : Nat} (n0 : 1 ≤ n) (h : Fnd n f a n []) : ∀ d, a ≤ d → f d = 0 := fun d ad => by
  false_or_by_contra
  rename_i c
  obtain ⟨x, hx, _⟩ := h.2 d ad (Nat.mod_lt _ n0) c
  cases hx
end
/-- the first loss is near -/
theorem fst_near {n D : Nat} {f : Nat → Int} {d m : Nat} (L : Los n D f) (h : Fst f d m) : m < max d D + n := by
  false_or_by_contra
  rename_i c
  have n0 := L.n0
  have e : m = (m - n) + n := by omega
  have q := L.far (m - n) (by omega)
  rw [← e] at q
  have z := h.2.2 (m - n) (by omega) (by omega)
  rw [z] at q
  exact h.2.1 q
theorem los_ms {B : Bak} (h : B.Ok) {D : Nat} (s : Settled B D) : Los B.n D B.ms := ⟨h.n0, fun d hd => ms_per (s.1 d hd), .inl fun d z => by
  have a := ms_down h d
  have b := (ms_in h (d + B.n)).1
  omega⟩
theorem los_th {B : Bak} (h : B.Ok) {D : Nat} (s : Settled B D) : Los B.n D B.th := ⟨h.n0, fun d hd => th_per h (s.1 d hd) (s.1 (d + 1) (by omega)), .inr fun d z => by
  have a := th_up h d
  have b : 0 ≤ B.th d := by
    rw [th_eqL]
    exact Int.le_max_left _ _
  omega⟩
end G57
end
section
set_option maxRecDepth 100000
set_option maxHeartbeats 4000000
/-! XLam5: reading of lambdas, of their calls; raising; what stands where only tables change. -/
namespace G57
open PySem PySem.Spec PyProof.Rows L2 LamX NdefX
/-! ### [f(x) for x in xs], f told of the state -/
theorem pe_lcS {X : Cx} {k j : Nat} {x : Str} {spS : SpS} {p pos pos' : Pos} {e tg iter : Expr} {es ifs : List Expr} {scope : Scope} {own : List (Str × Nat)} {wi : TI} {g : TG} {tt : TT} {t : TA}
    (c : CalS X.prog X.w X.K X.mg X.base CX0 k x spS) (hr : Room j X.A) (hk : k ≤ j) (calm : X.calm = true) (nd : X.N.Nodup) (walk : PI X tg iter wi) (ok : BlkOk X.N X.env.scope scope own)
    (hg : ∀ (s : Shared) (H : Hp) (C : Addr) (cl : List (Str × Addr)) (fp : List Addr), PG (X.blk s H scope (compEnvC scope cl C X.env) fp) tg g) (ht : ∀ (s : Shared) (H : Hp) (C : Addr) (cl : List (Str × Addr)) (fp : List Addr), PTs (X.blk s H scope (compEnvC scope cl C X.env) fp) ifs tt)
    (hgl : ∀ (s : Shared) (H : Hp) (C : Addr) (cl : List (Str × Addr)) (fp : List Addr), Gl (X.blk s H scope (compEnvC scope cl C X.env) fp) x) (ha : ∀ (s : Shared) (H : Hp) (C : Addr) (cl : List (Str × Addr)) (fp : List Addr), PA (X.blk s H scope (compEnvC scope cl C X.env) fp) (e :: es) t)
    (hdb : (x == ("__debug__" : Str)) = false := by decide) (he : ∀ env, starEach (e :: es) env = (false, eval e env) :: starEach es env := by intro _; rfl) (hpl : ∀ env, (backTo pos (starEach es env)).any (·.1) = false := by intro _; rfl)
    (fold : ∀ x, foldedSetIterable iter X.env x = pure x := by intro _; rfl) :
    PE X (.ListComp (.Call (.Name x p) (e :: es) [] pos) [⟨tg, iter, ifs, 0⟩] scope pos') (fun σ H Q => tLc wi g tt (tCallS (fun _ s H => CellsK X.env.cells X.N X.env.scope σ s H) spS (fun _ => E0) t) (own.map (·.2)) σ H Q) := by
  refine pe_lcK (tt := fun _ => tt) (te := fun σ => tCallS (fun _ s H => CellsK X.env.cells X.N X.env.scope σ s H) spS (fun _ => E0) t) calm nd walk ok (fun σ pl s0 H0 C cl fp I hf => ⟨hg _ _ _ _ _, ht _ _ _ _ _, ?_⟩) fold
  exact pe_cS (X := X.blk s0 H0 scope (compEnvC scope cl C X.env) fp) c hr hk (hgl _ _ _ _ _) (fun _ _ _ _ J => (inv_cellsK I).kp (kp_blk hf J)) (fun _ _ _ _ _ _ _ h => h.elim) (ha _ _ _ _ _) hdb (he _) (hpl _)
/-! ### a closure called in a try -/
def tClo (X : Cx) (k i : Nat) (W : WX) : TE := fun σ H Q => ∃ f sp, σ[i]? = some (some (.ref f)) ∧ (∀ s, Kp X.s_0 X.H_0 s H → Clo X.prog X.w X.K X.mg X.base k f sp s H) ∧ sp [] H Q (WE W σ)
theorem pe_cloT {X : Cx} {pn : List (Addr × Obj)} {xe : Value → Shared → Prop} {W : WX} {k j i : Nat} {x : Str} {p pos : Pos} (hr : Room j X.A) (hk : k ≤ j) (tk : Takes (X.tr pn xe) W) (hex : X.ex = []) (hN : X.N[i]? = some x) (hv : Vis X.env.scope x)
    (hd : (x == ("__debug__" : Str)) = false := by decide) (hcd : (x == ("__classdict__" : Str)) = false := by decide) : PE (X.tr pn xe) (.Call (.Name x p) [] [] pos) (tClo X k i W) :=
  pe_clo0 (X := X.tr pn xe) (Kn := fun _ s H => Kp X.s_0 X.H_0 s H) hr hk (passAt tk) (fun _ _ _ _ I => kp_of (X := X.tr pn xe) hex I) hN hv hd hcd
theorem r_clo {X : Cx} {k i : Nat} {W : WX} {σ : L2.St} {H : Hp} {Q : VK} {f : Addr} {sp : Sp} {s : Shared} {H0 : Hp} (hs : σ[i]? = some (some (.ref f))) (e1 : X.s_0 = s) (e2 : X.H_0 = H0) (c : Clo X.prog X.w X.K X.mg X.base k f sp s H0) (q : sp [] H Q (WE W σ)) : tClo X k i W σ H Q :=
  ⟨f, sp, hs, fun s' z => by
    rw [e1, e2] at z
    exact c.kp z, q⟩
/-! ### a closure called with arguments that raises nothing; also in a block -/
def tCloA (X : Cx) (k i : Nat) (t : TA) : TE := fun σ H Q => ∃ f sp, σ[i]? = some (some (.ref f)) ∧ (∀ s, Kp X.s_0 X.H_0 s H → Clo X.prog X.w X.K X.mg X.base k f sp s H) ∧ t σ H fun vs H1 => (∃ F, FnF H1 f F) ∧ (∀ s, Kp X.s_0 X.H_0 s H1 → Clo X.prog X.w X.K X.mg X.base k f sp s H1) ∧ sp vs H1 Q fun _ _ _ => False
section
variable {X : Cx} {k j i : Nat} {x : Str} {p pos : Pos} {e : Expr} {es : List Expr} {t : TA}
theorem pe_cloA (hr : Room j X.A) (hk : k ≤ j) (hex : X.ex = []) (hN : X.N[i]? = some x) (hv : Vis X.env.scope x) (ha : PA X (e :: es) t)
    (hd : (x == ("__debug__" : Str)) = false := by decide) (hcd : (x == ("__classdict__" : Str)) = false := by decide)
    (he : starEach (e :: es) X.env = (false, eval e X.env) :: starEach es X.env := by rfl) (hpl : (backTo pos (starEach es X.env)).any (·.1) = false := by rfl) : PE X (.Call (.Name x p) (e :: es) [] pos) (tCloA X k i t) :=
  pe_clo (Kn := fun _ s H => Kp X.s_0 X.H_0 s H) (E := fun _ _ _ _ => False) hr hk (fun σ => passAt LamX.takes0 σ) (fun _ _ _ _ I => kp_of hex I) hN hv ha hd hcd he hpl
theorem pe_cloB {pl : List (Addr × Obj)} {s0 : Shared} {H0 : Hp} {σ0 : L2.St} {scope : Scope} {ce : Env} {fp : List Addr} (I : Inv X pl σ0 H0 s0) (hf : ∀ b ∈ fp, ∃ o, s0.heap.get? b = some o ∧ ∀ v, o.data ≠ .cell v) (hr : Room j X.A) (hk : k ≤ j) (hex : X.ex = []) (hN : X.N[i]? = some x) (hv : Vis (X.blk s0 H0 scope ce fp).env.scope x) (ha : PA (X.blk s0 H0 scope ce fp) (e :: es) t)
    (hd : (x == ("__debug__" : Str)) = false := by decide) (hcd : (x == ("__classdict__" : Str)) = false := by decide)
    (he : starEach (e :: es) ce = (false, eval e ce) :: starEach es ce := by rfl) (hpl : (backTo pos (starEach es ce)).any (·.1) = false := by rfl) : PE (X.blk s0 H0 scope ce fp) (.Call (.Name x p) (e :: es) [] pos) (tCloA X k i t) :=
  pe_clo (X := X.blk s0 H0 scope ce fp) (Kn := fun _ s H => Kp X.s_0 X.H_0 s H) (E := fun _ _ _ _ => False) hr hk (fun σ => passAt LamX.takes0 σ) (fun _ _ _ _ J => (kp_of hex I).tr (kp_blk hf J)) hN hv ha hd hcd he hpl
end
/-- what a call of the closure wants of its arguments -/
def CloR (X : Cx) (k : Nat) (f : Addr) (sp : Sp) (Q : VK) (vs : List V) (H1 : Hp) : Prop := (∃ F, FnF H1 f F) ∧ (∀ s, Kp X.s_0 X.H_0 s H1 → Clo X.prog X.w X.K X.mg X.base k f sp s H1) ∧ sp vs H1 Q fun _ _ _ => False
section
variable {X : Cx} {k i : Nat} {t : TA} {σ : L2.St} {H : Hp} {Q : VK} {f : Addr} {sp : Sp} {s : Shared} {H0 : Hp}
theorem r_cloA (hs : σ[i]? = some (some (.ref f))) (c : Clo X.prog X.w X.K X.mg X.base k f sp X.s_0 X.H_0) (q : t σ H (CloR X k f sp Q)) : tCloA X k i t σ H Q := ⟨f, sp, hs, fun _ z => c.kp z, q⟩
theorem r_cloR {vs : List V} (c : Clo X.prog X.w X.K X.mg X.base k f sp X.s_0 X.H_0) (st : Still X.H_0 H) (q : sp vs H Q fun _ _ _ => False) : CloR X k f sp Q vs H := ⟨let ⟨F, h⟩ := c.fn; ⟨F, h.st st⟩, fun _ z => c.kp z, q⟩
end
/-- a comprehension whose block calls closures -/
theorem pe_lcC {X : Cx} {elt tg iter : Expr} {ifs : List Expr} {scope : Scope} {own : List (Str × Nat)} {pos : Pos} {wi : TI} {g : TG} {tt : TT} {te : TE} (calm : X.calm = true) (nd : X.N.Nodup) (walk : PI X tg iter wi) (ok : BlkOk X.N X.env.scope scope own)
    (blk : ∀ (σ : L2.St) (pl : List (Addr × Obj)) (s0 : Shared) (H0 : Hp) (C : Addr) (cl : List (Str × Addr)) (fp : List Addr), Inv X pl σ H0 s0 → (∀ b ∈ fp, ∃ o, s0.heap.get? b = some o ∧ ∀ v, o.data ≠ .cell v) →
      PG (X.blk s0 H0 scope (compEnvC scope cl C X.env) fp) tg g ∧ PTs (X.blk s0 H0 scope (compEnvC scope cl C X.env) fp) ifs tt ∧ PE (X.blk s0 H0 scope (compEnvC scope cl C X.env) fp) elt te)
    (fold : ∀ x, foldedSetIterable iter X.env x = pure x := by intro _; rfl) : PE X (.ListComp elt [⟨tg, iter, ifs, 0⟩] scope pos) (fun σ H Q => tLc wi g tt te (own.map (·.2)) σ H Q) :=
  pe_lcK (tt := fun _ => tt) (te := fun _ => te) calm nd walk ok (fun σ pl s0 H0 C cl fp I hf => blk σ pl s0 H0 C cl fp I hf) fold
/-! ### raise C("..") -/
def tRz (C : Addr) (E : XK) : TS := fun _ _ H => E (.ref C) none H
theorem ps_rz {X : Cx} {x m : Str} {j : Nat} {p p2 pos pos' : Pos} {C : Addr} {E : XK} {E1 : Value → Shared → Prop} (hc : X.calm = true) (hs : X.stack = X.env :: X.outer) (hf : X.env.frame = some X.env.locals) (hex : X.ex = [])
    (hx : X.xe = fun e s' => wpAny (model X.prog X.w) X.A (leaving X.env e) (fun _ s'' => L2.CX X.prog X.w X.outer X.H_0 X.s_0 E e s'') E1 s')
    (q : PySem.W.excIn X.K C He.veBase "ValueError.__new__" = true ∧ PySem.W.keepIn X.K (.ref C) = true ∧ PySem.W.subIn X.K (.ref C) (.type "BaseException") = some true ∧ PySem.W.typeIn X.K (.ref C) = some (.type "type"))
    (gC : X.mg x = some (.ref C)) (hg : Gl X x) (hdb : (x == ("__debug__" : Str)) = false := by decide) : PS X (.Raise (some (.Call (.Name x p) [.Constant (.str m) j p2] [] pos)) none pos') (tRz C E) :=
  ps_raise hc (takes_of hs hf hex hx) (pmk_own PySem.F.excBase_ValueError q.1 gC q.2.1 (raises_own q.2.2.1 q.2.2.2) hg hdb)
section
variable {σ : L2.St} {H H' : Hp} {Q : VK} {D : Ends} {C : Addr} {E : XK}
theorem r_rz (q : E (.ref C) none H) : tRz C E D σ H := q
/-! ### readings -/
theorem r_lm {T : List (Addr × Str)} {cells : List (Str × Addr)} {d : LamD} {ds : List V} (t : TabsF T H) (q : ∀ (f : Addr) (F : LF) (H1 : Hp), ExtN H H1 → TabsF T H1 → H f = none → Lam H1 f F ds → F.d = d → ofC cells F → Q (.ref f) H1) : tLm T cells d ds σ H Q := ⟨t, q⟩
theorem r_cS {Kn : L2.St → Shared → Hp → Prop} {spS : SpS} {ES : L2.St → XK} {t : TA} (q : t σ H fun vs H1 => ∀ s, Kn σ s H1 → spS s vs H1 Q (ES σ)) : tCallS Kn spS ES t σ H Q := q
theorem a_rep {l : Addr} {xs : List V} {k : Int} (h : H l = some (.lst xs)) (k0 : 0 ≤ k) (k1 : k ≤ 100) (few : xs.length ≤ 100) (q : ∀ p H', Same H H' → H p = none → H' p = some (.lst (List.replicate k.toNat xs).flatten) → Q (.ref p) H') : rRep (.ref l) (.int k) H Q := by
  have big : xs.length * k.toNat ≤ sizeLine := by
    have z : xs.length * k.toNat ≤ 100 * 100 := Nat.mul_le_mul few (by omega)
    exact Nat.le_trans z (by decide)
  exact ⟨l, k, xs, rfl, rfl, h, by omega, by omega, big, fun p hp => q p _ (same_new hp) hp upd_same⟩
/-! ### only tables change -/
theorem at_n {p : Addr} {o : HO} (s : ExtN H H') (n : ∀ ps, o ≠ .tbl ps) (e : H p = some o) : H' p = some o := s _ _ e n
theorem atn_tup {p : Addr} {xs : List V} (s : ExtN H H') (e : H p = some (.tup xs)) : H' p = some (.tup xs) := at_n s (fun _ z => by cases z) e
theorem atn_lst {p : Addr} {xs : List V} (s : ExtN H H') (e : H p = some (.lst xs)) : H' p = some (.lst xs) := at_n s (fun _ z => by cases z) e
theorem atn_ins {p C dx : Addr} {fs : List (Str × V)} (s : ExtN H H') (e : H p = some (.ins C dx fs)) : H' p = some (.ins C dx fs) := at_n s (fun _ z => by cases z) e
theorem sqTn {K : PySem.W.Frag} {p : Addr} {xs : List V} (s : ExtN H H') (e : SqT K H p xs) : SqT K H' p xs := by
  rcases e with (e | ⟨o, e⟩) | e
  · exact .inl (.inl (atn_tup s e))
  · exact .inl (.inr ⟨o, at_n s (fun _ z => by cases z) e⟩)
  · exact .inr e
theorem sqLn {K : PySem.W.Frag} {p : Addr} {xs : List V} (s : ExtN H H') (e : SqL K H p xs) : SqL K H' p xs := by
  rcases e with (e | ⟨o, e⟩) | e
  · exact .inl (.inl (atn_lst s e))
  · exact .inl (.inr ⟨o, at_n s (fun _ z => by cases z) e⟩)
  · exact .inr e
theorem extN_hid {h : Addr} (s : ExtN H H') : ExtN (hid h H) (hid h H') := fun b o e n => by
  unfold hid at e ⊢
  split at e
  · cases e
  · rename_i nb
    rw [if_neg nb]
    exact s b o e n
theorem hatB_n {K : PySem.W.Frag} {h a : Addr} (s : ExtN H H') (w : HatB K H h a) : HatB K H' h a := by
  obtain ⟨ns, p, m, r, e, q, z⟩ := w
  exact ⟨ns, p, m, r, atn_lst s e, sqLn (extN_hid s) q, z⟩
theorem extN_s (s : Same H H') : ExtN H H' := fun b o e _ => s b o e
theorem extN_t {H2 : Hp} (a : ExtN H H') (b : ExtN H' H2) : ExtN H H2 := fun x o e n => b x o (a x o e n) n
theorem tabs_id {T : List (Addr × Str)} (t : TabsF T H) : TabsF T H := t
/-- a closure of a frame that the caller's cells know -/
theorem clo_at_cells {P : Program} {w : World} {K : PySem.W.Frag} {mg : Str → Option Value} {base : Heap} {k j : Nat} {f : Addr} {F : LF} {d : LamD} {ps fr N : List Str} {js : List Nat} {ds : List V} {spl : List (Option V) → Sp} {cells : List (Str × Addr)} {sc : Scope} {s : Shared}
    (L : LOk P w K mg base j d ps fr ds spl) (hk : j ≤ k) (hF : Lam H f F ds) (hd : F.d = d) (o : ofC cells F) (b : capB N sc d.scope fr js = true) (kc : CellsK cells N sc σ s H) : Clo P w K mg base k f (spl (js.map (slotAt σ))) s H := by
  subst hd
  exact clo_of L hk rfl hF (kc.at o b)
end
end G57
end
section
set_option maxRecDepth 100000
set_option maxHeartbeats 4000000
/-! XLcX: a list comprehension whose step may raise. -/
namespace G57
open PySem PySem.Spec PyProof.Rows L2
/-! ### what is asked where the block's code lets an exception out -/
def errX (M : Model) (A : Around) (E : Value → Shared → Prop) (ce : Env) (x : Value) (s' : Shared) : Prop :=
  ∃ m, s'.heap.Ns ce.locals m ∧ ∀ h', Heap.SameBut ce.locals s'.heap h' → wpAny M A (passOn "comprehension.variables-let-go" x ce : Sem Value) (fun _ _ => False) E { s' with heap := h' }
def postX (M : Model) (A : Around) (E : Value → Shared → Prop) (Q : Value → Shared → Prop) (acc : Value) (ce : Env) (r : Result) (s' : Shared) : Prop := match r with
  | .ok _ => ∃ m, s'.heap.Ns ce.locals m ∧ ∀ h', Heap.SameBut ce.locals s'.heap h' → Q acc { s' with heap := h' }
  | .error x => errX M A E ce x s'
theorem note_same {ce env : Env} {e : Value} (h : ce.frame = env.frame) : noteFrame e ce = noteFrame e env := by
  unfold noteFrame PySem.frameOf
  rw [h]
theorem frames_drop {h h2 B B2 : Heap} {C : Addr} (cb : B.get? C ≠ none) (k : ∀ b, b ≠ C → h2.get? b = h.get? b) (n : ∀ b, B.get? b = none → B2.get? b = none) : ∀ l : List Env, h.FunFrames B l → h2.FunFrames B2 l
  | [], _ => trivial
  | _ :: r, ⟨hk, ⟨L, o, hf, hn, ho, hd⟩, hr⟩ => ⟨hk, ⟨L, o, hf, n L hn, (k L fun z => cb (z ▸ hn)).trans ho, hd⟩, frames_drop cb k n r hr⟩
section
variable {X : Cx}
theorem xe_comp {W : WX} {E : XK} (hs : X.stack = X.env :: X.outer) (hf : X.env.frame = some X.env.locals) (tk : Takes X W) (hE : ∀ cls d σ H, E cls d H → W cls d σ H) {pins : List (Addr × Obj)} {σ : L2.St} {HA H : Hp} {sA s s' : Shared} {fp : List Addr} {ce : Env} {e : Value}
    (IA : Inv X pins σ HA sA) (cf : ce.frame = X.env.frame) (u1 : Un (frs X.stack) fp HA H sA.heap s.heap) (o1 : s.os = sA.os) (ns : ∃ m, s.heap.Ns ce.locals m) (cfree : H ce.locals = none) (cnf : ce.locals ∉ frs X.stack) (cnew : sA.heap.get? ce.locals = none)
    (hch : ∀ b ∈ fp, (b ∈ X.ex ∨ X.s_0.heap.objs.size ≤ b) ∧ b ≠ X.env.locals ∧ (∀ x c, X.env.cells.lookup x = some c → c ≠ b) ∧ ∀ p ∈ X.pn ++ pins, p.1 ≠ b)
    (c : L2.CX X.prog X.w X.stack H s E e s') : notedBy (model X.prog X.w) X.A ce (errX (model X.prog X.w) X.A X.xe ce) e s' := by
  obtain ⟨a, B, H', cls, d, rfl, fl, hok, ub, na, os, ag, hE0⟩ := c
  have hfr : X.A.frames = some (X.env :: X.outer) := by rw [IA.ok.frames, hs]
  obtain ⟨m, hns⟩ := ns
  obtain ⟨C, hC⟩ : ∃ C, C = ce.locals := ⟨_, rfl⟩
  unfold errX
  rw [← hC] at hns cfree cnf cnew ⊢
  obtain ⟨oC, esC, epC, hCo, hCr⟩ := id hns
  have inB : B.get? C = some oC := ub.keep C oC hCo cfree cnf
  have cb : B.get? C ≠ none := by rw [inB]; exact Option.some_ne_none _
  have nC : ∀ {b : Addr}, B.get? b = none → b ≠ C := fun {b} n z => cb (z ▸ n)
  show wpAny _ _ (noteFrame (.ref a) ce) _ _ _
  rw [note_same cf]
  rw [hs] at fl
  refine HandSPX.looks_onZ Zc.steady hfr hf fl fun h1 hh up1 => ?_
  refine ⟨m, hns.at fun o q => ?_, fun h2 sb => ?_⟩
  · rw [hCo] at q
    cases q
    exact hh.1 _ _ inB
  have k2 : ∀ b, b ≠ C → h2.get? b = h1.get? b := fun b hb => sb.2 b hb
  obtain ⟨B2, r1, r2⟩ := restrict B fun b => decide (b ≠ C)
  have b2k : ∀ b, b ≠ C → B2.get? b = B.get? b := fun b hb => r1 b (decide_eq_true hb)
  have b2C : B2.get? C = none := r2 C (by simp)
  have b2n : ∀ b, B.get? b = none → B2.get? b = none := fun b hb => (b2k b (nC hb)).trans hb
  have b2i : ∀ b o, B2.get? b = some o → b ≠ C ∧ B.get? b = some o := fun b o q => by
    by_cases hb : b = C
    · rw [hb, b2C] at q
      cases q
    · exact ⟨hb, (b2k b hb).symm.trans q⟩
  obtain ⟨g1, g2, g3, oe, vs, T, oT, ts, he, hz, hd, e1, nT, neT, hT, hdT, e3⟩ := hh
  have held : HandSPX.HeldZ B2 (X.env :: X.outer) a (Zc cls d) X.env.locals h2 := by
    refine ⟨fun b o q => ?_, b2n a g2, frames_drop cb k2 b2n _ g3, oe, vs, T, oT, ts, (k2 a (nC g2)).trans he, hz, hd, e1, b2n T nT, neT, (k2 T (nC nT)).trans hT, hdT, e3⟩
    obtain ⟨hb, q'⟩ := b2i b o q
    exact (k2 b hb).trans (g1 b o q')
  have he2 : h2.get? a = some oe := (k2 a (nC g2)).trans he
  unfold PySem.passOn
  refine wpAny_bind (wpAny_field he2 hd e1 ?_)
  rw [if_neg (show ¬ ((Value.ref T == Value.none) = true) from by simp)]
  have fin : wpAny (model X.prog X.w) X.A (setFlight (.ref a) ce.frame) (fun _ s4 => wpAny (model X.prog X.w) X.A (throw (.ref a) : Sem Value) (fun _ _ => False) X.xe s4) X.xe { s' with heap := h2 } := by
    rw [cf, hf]
    refine HandSPX.setFlight_onZ held fun h3 held3 up3 => wpAny_throw (tk _ _ ?_)
    obtain ⟨G, q1, q2⟩ := restrict h3 fun b => decide (b ≠ C) && ((B.get? b).isSome || decide (b ∈ frs X.stack))
    have gB : ∀ b o, b ≠ C → B.get? b = some o → G.get? b = some o := fun b o hb q => by
      rw [q1 b (by simp [hb, q])]
      exact held3.1 b o ((b2k b hb).trans q)
    have gF : ∀ b, b ∈ frs X.stack → G.get? b = h3.get? b := fun b hb => q1 b (by
      have : b ≠ C := fun z => cnf (z ▸ hb)
      simp [this, hb])
    have og : ∀ b o, G.get? b = some o → h3.get? b = some o ∧ b ≠ C ∧ ((B.get? b).isSome = true ∨ b ∈ frs X.stack) := fun b o q => by
      cases z : (decide (b ≠ C) && ((B.get? b).isSome || decide (b ∈ frs X.stack))) with
      | false => rw [q2 b z] at q; cases q
      | true =>
        rw [q1 b z] at q
        obtain ⟨z1, z2⟩ := Bool.and_eq_true_iff.mp z
        exact ⟨q, of_decide_eq_true z1, by simpa [Bool.or_eq_true] using z2⟩
    have oldC : ∀ {b : Addr} {o : Obj}, sA.heap.get? b = some o → b ≠ C := fun {b o} q z => by
      rw [z, cnew] at q
      cases q
    have slotF : ∀ b o, s.heap.get? b = some o → b ∈ frs X.stack → ∃ sl, G.get? b = some { o with slots := sl } := fun b o q hb => by
      obtain ⟨sl, z⟩ := ub.slot b o q hb
      have nr : ∀ vs, ({ o with slots := sl } : Obj).data ≠ .fields vs := by
        have hb' : b ∈ (X.env :: X.outer).filterMap (·.frame) := by rw [← hs]; exact hb
        obtain ⟨_, o2, ho2, hd2⟩ := fl.2.2.1.mem hb'
        rw [z] at ho2
        cases ho2
        exact hd2
      obtain ⟨sl1, z1⟩ := up1 b _ z nr
      have z2 : h2.get? b = _ := (k2 b fun w => cnf (w ▸ hb)).trans z1
      obtain ⟨sl3, z3⟩ := up3 b _ z2 nr
      exact ⟨sl3, by rw [gF b hb]; exact z3⟩
    have U : Un (frs X.stack) fp HA H' sA.heap G := {
      keep := fun b o q n hb hx => gB b o (oldC q) (ub.keep b o (u1.keep b o q n hb hx) (u1.free b o q n hx) hb)
      slot := fun b o q n hb hx => by
        obtain ⟨sl, z⟩ := u1.slot b o q n hb hx
        obtain ⟨sl2, z2⟩ := slotF b _ z hb
        exact ⟨sl2, z2⟩
      free := fun b o q n hx => by
        obtain ⟨sl, z⟩ := u1.any q n hx
        exact ub.free b _ z (u1.free b o q n hx)
      there := fun b o q hx => by
        obtain ⟨o2, z⟩ := u1.there b o q hx
        by_cases hb : b ∈ frs X.stack
        · obtain ⟨sl, z2⟩ := slotF b o2 z hb
          exact ⟨_, z2⟩
        · obtain ⟨o3, z3⟩ := ub.there b o2 z hb
          exact ⟨o3, gB b o3 (oldC q) z3⟩
      tups := fun b xs q => ub.tups b xs (u1.tups b xs q)
      frzs := fun b o u q => ub.frzs b o u (u1.frzs b o u q)
      tbls := fun b ps q => by
        obtain ⟨m1, z1⟩ := u1.tbls b ps q
        obtain ⟨m2, z2⟩ := ub.tbls b _ z1
        exact ⟨m1 ++ m2, by rw [z2, Array.append_assoc]⟩ }
    have hC' : H' C = none := ub.free C oC hCo cfree
    have hok2 : HOk X.prog X.w H' G := fun b o q => by
      have nb : ∀ {x : Addr} {u : HO}, H' x = some u → x ≠ C := fun {x u} z w => by
        rw [w, hC'] at z
        cases z
      exact (hok b o q).stay (fun x v hx y => gB x v (hx.elim (fun z => z ▸ nb q) fun z => nb z) y) (fun _ z => z) (fun _ _ z => z)
    refine ⟨a, B2, { s' with heap := G }, pins, σ, H', cls, d, rfl, IA.call' (ch := fp) (os.trans o1) U hok2 ag hch, fun b o q hb => ?_, Heap.UpToSlots.of_keeps fun b o q => (og b o q).1, .inr (.inr (by rw [hs]; exact held3)), na, rfl, ag, hE _ _ _ _ hE0⟩
    obtain ⟨z, hbC, hy⟩ := og b o q
    rcases hy with hy | hy
    · obtain ⟨o', y⟩ := Option.isSome_iff_exists.mp hy
      have w := held3.1 b o' ((b2k b hbC).trans y)
      rw [z] at w
      cases w
      exact (b2k b hbC).trans y
    · exact absurd hy hb
  first
    | exact wpAny_bind (wpAny_pure (wpAny_bind fin))
    | exact wpAny_bind fin
end
/-! ### the comprehension; a block's exceptions go where xe says -/
abbrev blkX (X : Cx) (s : Shared) (H : Hp) (scope : Scope) (ce : Env) (fp : List Addr) (xe : Value → Shared → Prop) : Cx := { X.blk s H scope ce fp with xe := xe }
theorem comp_freeX {M : Model} {A : Around} {E : Value → Shared → Prop} {s : Shared} {env : Env} {e : Expr} {scope : Scope} {pos : Pos} {newAcc first : Sem Value} {g : Comprehension} {gs : List Comprehension} {cl : List (Str × Addr)} {Q : Value → Shared → Prop}
    (cs : clausesOf e = g :: gs) (fo : ∀ x, foldedSetIterable g.iter env x = pure x) (clo : closureFor scope env = pure cl) (kind : scope.kind = .function) (nam : ∀ x ∈ scope.names, x.2 = .local → scope.names.lookup x.1 = some .local)
    (h : wpAny M A first (fun x sa => wpAny M A (pyIter x) (fun it sb => wpAny M A newAcc (fun acc sc => wpAny M A (newFunctionEnv scope env.globals cl [] env.qual none .none (some env)) (fun ce sd =>
      codeAny M A (.compStart e 0 it acc { ce with scope := relabel scope env }) (postX M A E Q acc { ce with scope := relabel scope env }) sd) E sc) E sb) E sa) E s) : wpAny M A (comprehension e scope env pos newAcc false first none) Q E s := by
  unfold comprehension; rw [clo, cs]
  refine wpAny_bind (wpAny_mono h (fun x sa ha => wpAny_bind (wpAny_standAt (wpAny_bind (wpAny_of_eq (fo x) (wpAny_bind (wpAny_holding (wpAny_mono ha (fun it sb hb => wpAny_standIf (wpAny_bind (wpAny_mono hb (fun acc sc hc => wpAny_bind (wpAny_pure (wpAny_bind (wpAny_mono hc (fun ce sd hd => ?_) fun _ _ z => z)))) fun _ _ z => z))) fun _ _ z => z))))))) fun _ _ z => z)
  dsimp only
  have loc : ∀ x ∈ (scope.names.filter fun x => (x.2 == .local || x.2 == .cell) && x.1 != (".0" : Str)).reverse, x.2 = .local → Env.kindOf { ce with scope := relabel scope env } x.1 = some .local := fun x hx hl => lookup_relabel_local (nam x (List.mem_filter.mp (List.mem_reverse.mp hx)).1 hl)
  refine wpAny_holding (wpAny_bind (wpAny_attempt (wpAny_holding (wpAny_run (codeAny_mono hd fun r se hr => ?_)))))
  cases r with
  | ok f =>
    obtain ⟨m, hn, hr⟩ := hr
    exact wpAny_bind (wpAny_holding (wpAny_comp_letGo (cenv := { ce with scope := relabel scope env }) kind _ se m loc hn fun h' m' _ sb => wpAny_pure (hr h' sb)))
  | error x =>
    obtain ⟨m, hn, hr⟩ := hr
    exact wpAny_bind (wpAny_holding (wpAny_comp_letGo (cenv := { ce with scope := relabel scope env }) kind _ se m loc hn fun h' m' _ sb => wpAny_mono (hr h' sb) (fun _ _ f => f.elim) fun _ _ y => y))
section
variable {X : Cx} {elt tg iter : Expr} {ifs : List Expr} {scope : Scope} {own : List (Str × Nat)} {pos pos' : Pos} {wi : TI} {g : TG} {tt : TT} {te : TE} {E : XK}
def BlkX (X : Cx) (E : XK) (scope : Scope) (tg : Expr) (ifs : List Expr) (elt : Expr) (g : TG) (tt : TT) (te : TE) : Prop :=
  ∀ (s0 : Shared) (H0 : Hp) (C : Addr) (cl : List (Str × Addr)) (fp : List Addr) (xe : Value → Shared → Prop), Passes (L2.CX X.prog X.w) (blkX X s0 H0 scope (compEnvC scope cl C X.env) fp xe) E →
    PG (blkX X s0 H0 scope (compEnvC scope cl C X.env) fp xe) tg g ∧ PTs (blkX X s0 H0 scope (compEnvC scope cl C X.env) fp xe) ifs tt ∧ PE (blkX X s0 H0 scope (compEnvC scope cl C X.env) fp xe) elt te
theorem lcX {pins : List (Addr × Obj)} {s : Shared} {σ : L2.St} {H : Hp} {Q : VK} {Qf : Value → Shared → Prop} (calm : X.calm = true) (nd : X.N.Nodup) (I : Inv X pins σ H s) (walk : PI X tg iter wi) (ok : BlkOk X.N X.env.scope scope own)
    (hs : X.stack = X.env :: X.outer) (hf : X.env.frame = some X.env.locals) (tk : Takes X fun cls d _ H => E cls d H) (blk : BlkX X E scope tg ifs elt g tt te) (fold : ∀ x, foldedSetIterable iter X.env x = pure x) (rd : tLc wi g tt te (own.map (·.2)) σ H Q)
    (out : ∀ D C s' m H', Inv X pins σ H' s' → Q (.ref D) H' → s'.heap.Ns C m → FpOk X pins H' C → postX (model X.prog X.w) X.A X.xe Qf (.ref D) (compEnvC scope (cellsFrom (C + 1) scope.names (cloFrom X.env.cells scope.names [])) C X.env) (.ok .next) s') :
    wpAny (model X.prog X.w) X.A (comprehension (.ListComp elt [⟨tg, iter, ifs, 0⟩] scope pos) scope X.env pos' (newList []) false (eval iter X.env) none) Qf X.xe s := by
  have caught : ∀ y ∈ scope.names, y.2 = .free → ∃ c, X.env.cells.lookup y.1 = some c := fun y hy e => (ok.free y hy e).elim (fun z => I.ok.has _ (.inl z)) fun z => I.ok.has _ (.inr z)
  refine comp_freeX rfl fold (closure_ok caught) ok.kind (fun y hy e => (ok.uniq y hy).trans (congrArg some e)) (thn (walk.run pins s σ H _ I rd) fun xv s1 hx => thn hx fun itv s2 hw => ?_)
  obtain ⟨it, fp, tn, J, H2, rfl, I2, T, at0, fp0, turns⟩ := hw
  refine wpAny_newObj_type (newEnv_comp ?_) (by show 0 ≤ sizeLine; decide)
  -- the list that is made
  obtain ⟨D, hD⟩ : ∃ D, D = s2.heap.objs.size := ⟨_, rfl⟩
  rw [← hD]
  have newD : H2 D = none := I2.hok.fresh (by rw [hD]; exact Nat.le_refl _)
  obtain ⟨W, ⟨m0, start⟩, turn⟩ := turns D newD
  obtain ⟨sA, hA⟩ : ∃ sA : Shared, sA = { s2 with heap := s2.heap.push { cls := .type "list", data := .seq ([] : List Value).toArray } } := ⟨_, rfl⟩
  have hpA : sA.heap = s2.heap.push { cls := .type "list", data := .seq ([] : List Value).toArray } := congrArg Shared.heap hA
  have keepA : ∀ b o, s2.heap.get? b = some o → sA.heap.get? b = some o := fun b o e => by
    rw [hpA]
    exact Heap.get?_push_of_some _ e
  obtain ⟨HA, hHA⟩ : ∃ HA : Hp, HA = upd H2 D (.lst []) := ⟨_, rfl⟩
  rw [← hHA] at start
  have IA : Inv X pins σ HA sA := by
    subst hHA hA
    exact I2.laid (t' := s2.toks) keepA (by rw [hD]; exact Nat.le_refl _) ⟨Nat.zero_le _, [], 0, .nil, by rw [hD]; exact Heap.get?_push_size _ rfl⟩
  have old : ∀ b ∈ fp, b < s2.heap.objs.size := fun b hb => let ⟨o, e, _⟩ := T.obj _ _ at0 b hb; Heap.lt_size e
  have fpA : ∀ b ∈ fp, FpOk X pins HA b ∧ b < sA.heap.objs.size := fun b hb => by
    have lt := old b hb
    have z := fp0 b hb
    refine ⟨⟨by rw [hHA, upd_ne (by rw [hD]; exact Nat.ne_of_lt lt)]; exact z.1, z.2⟩, ?_⟩
    rw [hpA, Heap.size_push]
    exact Nat.lt_succ_of_lt lt
  have atA : tn 0 sA.heap := T.keep _ _ _ at0 fun b _ o e => keepA b o e
  have IB := block_start IA ok nd fpA
  rw [← hA]
  show codeAny _ _ (.compStart (.ListComp elt [⟨tg, iter, ifs, 0⟩] scope pos) 0 (.ref it) (.ref D) (compEnvC scope (cellsFrom (sA.heap.objs.size + 1) scope.names (cloFrom X.env.cells scope.names [])) sA.heap.objs.size X.env)) (postX (model X.prog X.w) X.A X.xe Qf (.ref D) (compEnvC scope (cellsFrom (sA.heap.objs.size + 1) scope.names (cloFrom X.env.cells scope.names [])) sA.heap.objs.size X.env)) { sA with heap := pushCells (sA.heap.push { cls := .type "dict", data := .dict #[] }) scope.names }
  have untr : ∀ b ∈ fp, HA b = none := fun b hb => (fpA b hb).1.1
  obtain ⟨ce, hce⟩ : ∃ ce : Env, ce = compEnvC scope (cellsFrom (sA.heap.objs.size + 1) scope.names (cloFrom X.env.cells scope.names [])) sA.heap.objs.size X.env := ⟨_, rfl⟩
  have ceL : ce.locals = sA.heap.objs.size := by rw [hce] <;> rfl
  have ceF : ce.frame = X.env.frame := by rw [hce] <;> rfl
  obtain ⟨xb, hxb⟩ : ∃ xb : Value → Shared → Prop, xb = notedBy (model X.prog X.w) X.A ce (errX (model X.prog X.w) X.A X.xe ce) := ⟨_, rfl⟩
  have newC : sA.heap.get? ce.locals = none := by
    rw [ceL]
    cases q : sA.heap.get? sA.heap.objs.size with
    | none => rfl
    | some o => exact absurd (Heap.lt_size q) (Nat.lt_irrefl _)
  have offC : ce.locals ∉ frs X.stack := fun z => by
    rw [ceL] at z
    rcases List.mem_cons.mp (IA.stkSub _ z) with w | w
    · exact absurd w (Nat.ne_of_gt IA.lt)
    · exact IA.nofs (Nat.le_refl _) w
  have hchA : ∀ b ∈ fp, (b ∈ X.ex ∨ X.s_0.heap.objs.size ≤ b) ∧ b ≠ X.env.locals ∧ (∀ x c, X.env.cells.lookup x = some c → c ≠ b) ∧ ∀ p ∈ X.pn ++ pins, p.1 ≠ b := fun b hb => ⟨(fpA b hb).1.2.2.2.1, (fpA b hb).1.2.1, (fpA b hb).1.2.2.2.2.1, (fpA b hb).1.2.2.2.2.2⟩
  have pas : Passes (L2.CX X.prog X.w) (blkX X sA HA scope ce fp xb) E := fun pl σ1 H1 s1 e s2 J1 c1 => by
    show xb e s2
    rw [hxb]
    obtain ⟨mC, hnC, _⟩ := J1.loc
    exact xe_comp hs hf tk (fun _ _ _ _ h => h) IA ceF J1.base J1.os ⟨mC, hnC⟩ J1.free offC newC hchA c1
  rw [hce] at pas
  obtain ⟨pg, pt, pe⟩ := blk sA HA sA.heap.objs.size (cellsFrom (sA.heap.objs.size + 1) scope.names (cloFrom X.env.cells scope.names [])) fp xb pas
  rw [← hce] at IB pg pt pe ⊢
  obtain ⟨sB, hB⟩ : ∃ sB : Shared, sB = { sA with heap := pushCells (sA.heap.push { cls := .type "dict", data := .dict #[] }) scope.names } := ⟨_, rfl⟩
  rw [← hB] at IB ⊢
  replace IB : Inv (blkX X sA HA scope ce fp xb) [] (wipe σ (own.map (·.2))) HA sB := IB.toTry _
  subst hxb
  have atB : tn 0 sB.heap := T.keep _ _ _ atA fun b _ o e => by
    rw [hB]
    exact pushCells_keeps _ _ _ _ (Heap.get?_push_of_some _ e)
  have own_fp : ∀ {σ' : L2.St} {H' : Hp} {s' : Shared}, Inv (blkX X sA HA scope ce fp (notedBy (model X.prog X.w) X.A ce (errX (model X.prog X.w) X.A X.xe ce))) [] σ' H' s' → (∀ b ∈ fp, H' b = none) → ∀ b ∈ fp, FpOk (blkX X sA HA scope ce fp (notedBy (model X.prog X.w) X.A ce (errX (model X.prog X.w) X.A X.xe ce))) [] H' b := fun J' n b hb =>
    ⟨n b hb, (J'.ok.exf b hb).1, J'.ok.exfs b hb, .inl hb, fun x c e => (J'.ok.exf b hb).2 x c e, fun p hp => (nomatch (show p ∈ ([] : List (Addr × Obj)) from hp))⟩
  have back : ∀ {σ' : L2.St} {H' : Hp} {s' : Shared}, Inv (blkX X sA HA scope ce fp (notedBy (model X.prog X.w) X.A ce (errX (model X.prog X.w) X.A X.xe ce))) [] σ' H' s' → Inv X pins σ H' s' := fun J' => IA.call' (ch := fp) J'.os J'.base J'.hok J'.bare fun b hb => ⟨(fpA b hb).1.2.2.2.1, (fpA b hb).1.2.1, (fpA b hb).1.2.2.2.2.1, (fpA b hb).1.2.2.2.2.2⟩
  let G : Nat → Shared → Prop := fun n s' => ∃ i H', Inv (blkX X sA HA scope ce fp (notedBy (model X.prog X.w) X.A ce (errX (model X.prog X.w) X.A X.xe ce))) [] (wipe σ (own.map (·.2))) H' s' ∧ tn i s'.heap ∧ (∀ b ∈ fp, H' b = none) ∧ W i n H'
  have loop : codeAny (model X.prog X.w) X.A (.compLoop (.ListComp elt [⟨tg, iter, ifs, 0⟩] scope pos) 0 (.ref it) (.ref D) ce) (postX (model X.prog X.w) X.A X.xe Qf (.ref D) ce) sB := by
    refine compLoop_any G (fun n sC hG => ?_) m0 ⟨0, HA, IB, atB, untr, start⟩
    obtain ⟨i, HC, IC, atC, unC, wC⟩ := hG
    rcases turn i n HC wC with ⟨stop, qq⟩ | ⟨go, Nx, nxt, step⟩
    · refine thnF (T.done (blkX X sA HA scope ce fp (notedBy (model X.prog X.w) X.A ce (errX (model X.prog X.w) X.A X.xe ce))) rfl rfl rfl calm i [] sC _ HC (fun _ _ => False) IC (own_fp IC unC) atC stop) fun r sD ⟨hr, ID⟩ => ?_
      subst hr
      have nC : HC sA.heap.objs.size = none := ceL ▸ ID.free
      obtain ⟨m, hn, _⟩ := ID.loc
      have r := out D sA.heap.objs.size sD m HC (back ID) qq (ceL ▸ hn) (IA.fpOk (Nat.le_refl _) nC)
      rw [hce]
      exact r
    · refine thnF (T.item (blkX X sA HA scope ce fp (notedBy (model X.prog X.w) X.A ce (errX (model X.prog X.w) X.A X.xe ce))) rfl rfl rfl calm i [] sC _ HC (fun _ _ => False) IC (own_fp IC unC) atC go) fun r sD ⟨u, hr, more⟩ => ?_
      subst hr
      refine thnF more fun _ sE ⟨x, HE, IE, rx, yl, atE, unE⟩ => ?_
      have IE' := IE.pinned (own_fp IE unE) (T.obj _ _ atE)
      refine thn (pg.run _ sE _ HE x u _ IE' rx (step x HE yl)) fun _ sF ⟨σF, HF, IF, wip, qF⟩ => ?_
      refine thn (pt.run _ sF σF HF _ IF qF) fun b sK ⟨HK, IK, qK⟩ => ?_
      have closes : ∀ {s' : Shared} {H' : Hp}, Inv (blkX X sA HA scope ce fp (notedBy (model X.prog X.w) X.A ce (errX (model X.prog X.w) X.A X.xe ce))) ([] ++ pinsAt fp sE.heap) σF H' s' → Nx H' → ∃ m, m < n ∧ G m s' := fun {s' H'} J' nx => by
        obtain ⟨m', lt, w'⟩ := nxt H' nx
        have pinned : ∀ b ∈ fp, ∀ o, sE.heap.get? b = some o → s'.heap.get? b = some o ∧ H' b = none := fun b hb o e => by
          have z := J'.pin (b, o) (List.mem_append_right _ (List.mem_append_right _ (mem_pinsAt hb e)))
          exact ⟨z.1, z.2.1⟩
        refine ⟨m', lt, i + 1, H', (J'.unpinned (pins := [])).weak (by rw [← wip, wipe_length]) (fun j v e => ?_), T.keep _ _ _ atE fun b hb o e => (pinned b hb o e).1, fun b hb => ?_, w'⟩
        · rw [← wip] at e
          exact (wipe_some e).1
        · obtain ⟨o, e, _⟩ := T.obj _ _ atE b hb
          exact (pinned b hb o e).2
      cases b with
      | false =>
        simp only [Bool.false_eq_true, if_false] at qK ⊢
        exact closes IK qK
      | true =>
        simp only [if_true] at qK ⊢
        exact thn (pe.run _ sK σF HK _ IK qK) fun z sL ⟨yv, HL, IL, rz, acc, aD, az, nx⟩ => app_ok (X := blkX X sA HA scope ce fp (notedBy (model X.prog X.w) X.A ce (errX (model X.prog X.w) X.A X.xe ce))) IL aD az rz fun sM IM => closes IM nx
  exact codeAny_compStart_list loop (T.self X.A 0 _ _ _ atB loop)
theorem pe_lcX (calm : X.calm = true) (nd : X.N.Nodup) (walk : PI X tg iter wi) (ok : BlkOk X.N X.env.scope scope own) (hs : X.stack = X.env :: X.outer) (hf : X.env.frame = some X.env.locals) (tk : Takes X fun cls d _ H => E cls d H) (blk : BlkX X E scope tg ifs elt g tt te) (fold : ∀ x, foldedSetIterable iter X.env x = pure x := by intro _; rfl) :
    PE X (.ListComp elt [⟨tg, iter, ifs, 0⟩] scope pos) (tLc wi g tt te (own.map (·.2))) := by
  refine ⟨fun pins s σ H Q I h => ?_⟩
  rw [eval_ListComp]
  refine lcX calm nd I walk ok hs hf tk blk fold h fun D C s' m H' I' q hn f => ⟨m, hn, fun h'' sb => ⟨.ref D, H', ?_, rfl, q⟩⟩
  exact I'.turned (t' := s'.toks) (fun b o hb e => (sb.2 b hb).trans e) f.1 f.2.1 f.2.2.2.1 f.2.2.2.2.1 f.2.2.2.2.2
end
end G57
end
section
set_option maxRecDepth 100000
set_option maxHeartbeats 4000000
namespace G57
open PySem PySem.Spec PyProof.Rows L2
/-! the walk's small steps: "rd" reads on as far as it can -/
local macro_rules | `(tactic| walk_at "fact") => `(tactic| fail)
local macro_rules | `(tactic| walk_at "rd1") => `(tactic| with_reducible first
  | (refine v_id ?_; first | refine r_var_0 ?_ | refine r_var_1 ?_ | refine r_var_2 ?_ | refine r_var_3 ?_ | refine r_var_4 ?_ | refine r_var_5 ?_ | refine r_var_6 ?_ | refine r_var_7 ?_ | refine r_var_8 ?_ | refine r_var_9 ?_ | refine r_var_10 ?_ | refine r_var_11 ?_ | refine r_var_12 ?_ | refine r_var_13 ?_ | refine r_var_14 ?_ | refine r_var_15 ?_ | refine r_var_16 ?_ | refine r_var_17 ?_ | refine r_var_18 ?_ | refine r_var_19 ?_ | refine r_var_20 ?_ | refine r_var_21 ?_ | refine r_var_22 ?_ | refine r_var_23 ?_ | refine r_var_24 ?_ | refine r_var_25 ?_ | refine r_var_26 ?_ | refine r_var_27 ?_ | refine r_var rfl ?_)
  | (refine s_id ?_; first | refine r_set_0 ?_ | refine r_set_1 ?_ | refine r_set_2 ?_ | refine r_set_3 ?_ | refine r_set_4 ?_ | refine r_set_5 ?_ | refine r_set_6 ?_ | refine r_set_7 ?_ | refine r_set_8 ?_ | refine r_set_9 ?_ | refine r_set_10 ?_ | refine r_set_11 ?_ | refine r_set_12 ?_ | refine r_set_13 ?_ | refine r_set_14 ?_ | refine r_set_15 ?_ | refine r_set_16 ?_ | refine r_set_17 ?_ | refine r_set_18 ?_ | refine r_set_19 ?_ | refine r_set_20 ?_ | refine r_set_21 ?_ | refine r_set_22 ?_ | refine r_set_23 ?_ | refine r_set_24 ?_ | refine r_set_25 ?_ | refine r_set_26 ?_ | refine r_set_27 ?_ | refine r_setU ?_)
  | refine r_c ?_
  | refine r_op ?_
  | refine r_I0 ?_
  | refine r_seq ?_
  | refine r_asg ?_
  | refine r_fld ?_
  | refine r_nil ?_
  | refine r_cons ?_
  | refine r_cb ?_
  | refine r_max ?_
  | refine r_min ?_
  | refine r_ret ?_
  | refine r_met ?_
  | refine r_call ?_
  | refine r_B ?_
  | refine r_test ?_
  | refine r_b' ?_
  | refine r_ifS ?_
  | refine r_if ?_
  | refine r_par ?_
  | refine r_par2 ?_
  | refine r_drop ?_
  | refine r_next ?_
  | refine r_make ?_
  | refine r_sfld ?_
  | refine r_int1 ?_
  | refine r_intb ?_
  | refine r_and ?_
  | refine r_or ?_
  | refine r_not ?_
  | refine r_chain ?_
  | refine r_isN ?_
  | refine r_notN ?_
  | refine r_un ?_
  | refine r_U ?_
  | refine r_par3 ?_
  | refine r_par33 ?_
  | refine r_tup ?_
  | refine r_lst ?_
  | refine r_prop ?_
  | refine r_bm ?_
  | refine r_bm0 ?_
  | refine r_andV ?_
  | refine r_orV ?_
  | refine r_notV ?_
  | refine r_asgG ?_
  | refine r_gname ?_
  | refine r_gcons ?_
  | refine r_gnil ?_
  | refine r_rng1 ?_
  | refine r_rng2 ?_
  | refine r_for ?_
  | refine r_lc1 ?_
  | refine r_lc2 ?_
  | refine r_lc3 ?_
  | refine r_lc ?_
  | refine r_while ?_
  | refine r_rev ?_
  | refine r_sl ?_
  | refine r_augS ?_
  | refine r_iL ?_
  | refine r_iT ?_
  | refine r_iE ?_
  | refine r_ipI ?_
  | refine r_aug rfl ?_
  | refine r_cval ?_
  | refine r_turnN ?_
  | refine iT ?_
  | refine iNT ?_
  | refine iNF ?_
  | refine iOF ?_
  | refine iF ?_
  | refine r_part ?_
  | refine r_pi ?_
  | refine r_gsub ?_
  | refine r_noPart ?_)
local macro_rules | `(tactic| walk_at "rd") => `(tactic| (repeat (first | walk_at "rd1" | walk_at "fact")))
local macro_rules | `(tactic| walk_at "plen") => `(tactic| (repeat (first | decide | refine putF_lt ?_)))
local macro_rules | `(tactic| walk_at "rs") => `(tactic| (repeat ((fail_if_success (with_reducible refine r_stop ?_)); (first | walk_at "rd1" | walk_at "fact"))))
def effF (e : Eff) : List (Str × V) := [("shift", .int e.shift), ("low", .int e.low), ("high", .int e.high), ("need", .int e.need), ("room", .int e.room), ("misses", .int e.misses), ("waste", .int e.waste)]
def EffAt (K : PySem.W.Frag) (H : Hp) (a : Addr) (e : Eff) : Prop := ∃ dx, H a = some (.ins (He.ga K "Effect") dx (effF e))
theorem EffAt.mono {K : PySem.W.Frag} {H H' : Hp} {a : Addr} {e : Eff} (h : EffAt K H a e) (s : Same H H') : EffAt K H' a e := let ⟨dx, q⟩ := h; ⟨dx, s _ _ q⟩
theorem lkE_shift (e : Eff) : (effF e).lookup ("shift" : Str) = some (V.int e.shift) := by kernel_rfl
theorem lkE_low (e : Eff) : (effF e).lookup ("low" : Str) = some (V.int e.low) := by kernel_rfl
theorem lkE_high (e : Eff) : (effF e).lookup ("high" : Str) = some (V.int e.high) := by kernel_rfl
theorem lkE_need (e : Eff) : (effF e).lookup ("need" : Str) = some (V.int e.need) := by kernel_rfl
theorem lkE_room (e : Eff) : (effF e).lookup ("room" : Str) = some (V.int e.room) := by kernel_rfl
theorem lkE_misses (e : Eff) : (effF e).lookup ("misses" : Str) = some (V.int e.misses) := by kernel_rfl
theorem lkE_waste (e : Eff) : (effF e).lookup ("waste" : Str) = some (V.int e.waste) := by kernel_rfl
section
variable {K : PySem.W.Frag} {mg : Str → Option Value} (T : Tx K mg) {H : Hp} {a dx : Addr} {e : Eff} {Q : VK} (h : H a = some (.ins (He.ga K "Effect") dx (effF e)))
include T h
theorem fE_shift (q : Q (.int e.shift) H) : FldR K "shift" Q (.ref a) H := r_fldR h (fc_Effect T) (fna_Effect_shift T) (lkE_shift e) q
theorem fE_low (q : Q (.int e.low) H) : FldR K "low" Q (.ref a) H := r_fldR h (fc_Effect T) (fna_Effect_low T) (lkE_low e) q
theorem fE_high (q : Q (.int e.high) H) : FldR K "high" Q (.ref a) H := r_fldR h (fc_Effect T) (fna_Effect_high T) (lkE_high e) q
theorem fE_need (q : Q (.int e.need) H) : FldR K "need" Q (.ref a) H := r_fldR h (fc_Effect T) (fna_Effect_need T) (lkE_need e) q
theorem fE_room (q : Q (.int e.room) H) : FldR K "room" Q (.ref a) H := r_fldR h (fc_Effect T) (fna_Effect_room T) (lkE_room e) q
theorem fE_misses (q : Q (.int e.misses) H) : FldR K "misses" Q (.ref a) H := r_fldR h (fc_Effect T) (fna_Effect_misses T) (lkE_misses e) q
theorem fE_waste (q : Q (.int e.waste) H) : FldR K "waste" Q (.ref a) H := r_fldR h (fc_Effect T) (fna_Effect_waste T) (lkE_waste e) q
end
local macro_rules | `(tactic| walk_at "fact") => `(tactic| with_reducible first | refine fE_shift ‹_› (by assumption) ?_ | refine fE_low ‹_› (by assumption) ?_ | refine fE_high ‹_› (by assumption) ?_ | refine fE_need ‹_› (by assumption) ?_ | refine fE_room ‹_› (by assumption) ?_ | refine fE_misses ‹_› (by assumption) ?_ | refine fE_waste ‹_› (by assumption) ?_)
def spEnd (K : PySem.W.Frag) : Sp := fun vs H Q _ => ∃ a e n, vs = [.ref a, .int n] ∧ EffAt K H a e ∧ Q (.int (e.fin n)) H
def spMis (K : PySem.W.Frag) : Sp := fun vs H Q _ => ∃ a e n, vs = [.ref a, .int n] ∧ EffAt K H a e ∧ Q (.int (e.mis n)) H
def spThr (K : PySem.W.Frag) : Sp := fun vs H Q _ => ∃ a e n, vs = [.ref a, .int n] ∧ EffAt K H a e ∧ Q (.int (e.thr n)) H
theorem ok_Effect_end {P : Program} {w : World} {K : PySem.W.Frag} {mg : Str → Option Value} {base : Heap} (T : Tx K mg) : C8.Met P w K mg base 1 (He.ga K "Effect") "end" (spEnd K) [] := by
  refine met_of (d := d_Effect_end) (C := "Effect") (m := "end") (fn_Effect_end T) rfl rfl (fc_Effect T) (fme_Effect_end T) sc_Effect_end (fun _ _ _ _ _ _ us hl => match us, hl with | [_, _], _ => rfl) (fun vs H Q E h => ?_) (fun cdv A outer s H vs Q E hr h => ?_)
  · obtain ⟨a, e, n, rfl, ⟨dx, hE⟩, k⟩ := h
    rfl
  obtain ⟨a, e, n, rfl, ⟨dx, hE⟩, k⟩ := h
  refine ⟨_, (pss_one (ps_ret (pe_callB (cq_min2 rfl) (by rfl) (fn_min T) bb_min (pa_cons (pe_callB (cq_max2 rfl) (by rfl) (fn_max T) bb_max (pa_cons (pe_op op_add (pv 1) (pe_fld (pv 0) rfl)) (pa_cons (pe_fld (pv 0) rfl) pa_nil))) (pa_cons (pe_fld (pv 0) rfl) pa_nil))))), ?_⟩
  try dsimp only [cxOf, Cx.nox, Cx.wish]
  repeat rw [st_cons]
  repeat rw [st_none]
  try rw [st_nn]
  walk_at "rd"
  exact k
theorem ok_Effect_missed {P : Program} {w : World} {K : PySem.W.Frag} {mg : Str → Option Value} {base : Heap} (T : Tx K mg) : C8.Met P w K mg base 1 (He.ga K "Effect") "missed" (spMis K) [] := by
  refine met_of (d := d_Effect_missed) (C := "Effect") (m := "missed") (fn_Effect_missed T) rfl rfl (fc_Effect T) (fme_Effect_missed T) sc_Effect_missed (fun _ _ _ _ _ _ us hl => match us, hl with | [_, _], _ => rfl) (fun vs H Q E h => ?_) (fun cdv A outer s H vs Q E hr h => ?_)
  · obtain ⟨a, e, n, rfl, ⟨dx, hE⟩, k⟩ := h
    rfl
  obtain ⟨a, e, n, rfl, ⟨dx, hE⟩, k⟩ := h
  refine ⟨_, (pss_one (ps_ret (pe_op op_add (pe_fld (pv 0) rfl) (pe_callB (cq_max2 rfl) (by rfl) (fn_max T) bb_max (pa_cons pe_int (pa_cons (pe_op op_sub (pe_fld (pv 0) rfl) (pv 1)) pa_nil)))))), ?_⟩
  try dsimp only [cxOf, Cx.nox, Cx.wish]
  repeat rw [st_cons]
  repeat rw [st_none]
  try rw [st_nn]
  walk_at "rd"
  exact k
theorem ok_Effect_thrown {P : Program} {w : World} {K : PySem.W.Frag} {mg : Str → Option Value} {base : Heap} (T : Tx K mg) : C8.Met P w K mg base 1 (He.ga K "Effect") "thrown" (spThr K) [] := by
  refine met_of (d := d_Effect_thrown) (C := "Effect") (m := "thrown") (fn_Effect_thrown T) rfl rfl (fc_Effect T) (fme_Effect_thrown T) sc_Effect_thrown (fun _ _ _ _ _ _ us hl => match us, hl with | [_, _], _ => rfl) (fun vs H Q E h => ?_) (fun cdv A outer s H vs Q E hr h => ?_)
  · obtain ⟨a, e, n, rfl, ⟨dx, hE⟩, k⟩ := h
    rfl
  obtain ⟨a, e, n, rfl, ⟨dx, hE⟩, k⟩ := h
  refine ⟨_, (pss_one (ps_ret (pe_op op_add (pe_fld (pv 0) rfl) (pe_callB (cq_max2 rfl) (by rfl) (fn_max T) bb_max (pa_cons pe_int (pa_cons (pe_op op_sub (pv 1) (pe_fld (pv 0) rfl)) pa_nil)))))), ?_⟩
  try dsimp only [cxOf, Cx.nox, Cx.wish]
  repeat rw [st_cons]
  repeat rw [st_none]
  try rw [st_nn]
  walk_at "rd"
  exact k
/-- what a new Effect leaves -/
def spEffInit (K : PySem.W.Frag) : Sp := fun vs H Q _ => ∃ (p dx : Addr) (e : Eff), vs = [.ref p, .int e.shift, .int e.low, .int e.high, .int e.need, .int e.room, .int e.misses, .int e.waste] ∧ H p = some (.ins (He.ga K "Effect") dx []) ∧ Q .non (upd H p (.ins (He.ga K "Effect") dx (effF e)))
theorem effF_put (e : Eff) : putF "waste" (.int e.waste) (putF "misses" (.int e.misses) (putF "room" (.int e.room) (putF "need" (.int e.need) (putF "high" (.int e.high) (putF "low" (.int e.low) (putF "shift" (.int e.shift) [])))))) = effF e := by kernel_rfl
theorem ok_Effect_init {P : Program} {w : World} {K : PySem.W.Frag} {mg : Str → Option Value} {base : Heap} (T : Tx K mg) : C8.Mak P w K mg base 1 "Effect" (He.ga K "Effect") (spEffInit K) [] := by
  refine mak_of (d := d_Effect_init) (C := "Effect") (fn_Effect_init T) rfl rfl (fg_Effect T) (fmk_Effect T) sc_Effect_init (fun _ _ _ _ _ _ us hl => match us, hl with | [_, _, _, _, _, _, _, _], _ => rfl) (fun vs H Q E h => ?_) (fun cdv A outer s H vs Q E hr h => ?_)
  · obtain ⟨p, dx, e, rfl, hp, k⟩ := h
    rfl
  obtain ⟨p, dx, e, rfl, hp, k⟩ := h
  refine ⟨_, (pss_cons (ps_fld (pv 0) (pv 1) rfl)
      (pss_cons (ps_fld (pv 0) (pv 2) rfl)
      (pss_cons (ps_fld (pv 0) (pv 3) rfl)
      (pss_cons (ps_fld (pv 0) (pv 4) rfl)
      (pss_cons (ps_fld (pv 0) (pv 5) rfl)
      (pss_cons (ps_fld (pv 0) (pv 6) rfl)
      (pss_one (ps_fld (pv 0) (pv 7) rfl)))))))), ?_⟩
  try dsimp only [cxOf, Cx.nox, Cx.wish]
  repeat rw [st_cons]
  repeat rw [st_none]
  try rw [st_nn]
  walk_at "rd"
  refine r_sfldR hp (fc_Effect T) (fna_Effect_shift T) (by decide) ?_
  walk_at "rd"
  refine r_sfldU (fc_Effect T) (fna_Effect_low T) (by walk_at "plen") ?_
  walk_at "rd"
  refine r_sfldU (fc_Effect T) (fna_Effect_high T) (by walk_at "plen") ?_
  walk_at "rd"
  refine r_sfldU (fc_Effect T) (fna_Effect_need T) (by walk_at "plen") ?_
  walk_at "rd"
  refine r_sfldU (fc_Effect T) (fna_Effect_room T) (by walk_at "plen") ?_
  walk_at "rd"
  refine r_sfldU (fc_Effect T) (fna_Effect_misses T) (by walk_at "plen") ?_
  walk_at "rd"
  refine r_sfldU (fc_Effect T) (fna_Effect_waste T) (by walk_at "plen") ?_
  rw [effF_put]
  exact k
/-- a new Effect, for a caller -/
theorem use_Effect {K : PySem.W.Frag} {H : Hp} {Q : VK} {E : XK} (e : Eff) (q : ∀ p H', Same H H' → EffAt K H' p e → Q (.ref p) H') : MakR (He.ga K "Effect") (spEffInit K) E Q [.int e.shift, .int e.low, .int e.high, .int e.need, .int e.room, .int e.misses, .int e.waste] H := by
  intro x dx hx hd ne
  refine ⟨x, dx, e, rfl, upd_same, rfl, ?_⟩
  refine q x _ (fun b o hb => ?_) ⟨dx, upd_same⟩
  rw [upd_ne (ne_of_none hb hx), upd_ne (ne_of_none hb hx), upd_ne (ne_of_none hb hd)]
  exact hb
theorem use_end {K : PySem.W.Frag} {H : Hp} {Q : VK} {E : XK} {a dx : Addr} {e : Eff} {n : Int} (h : H a = some (.ins (He.ga K "Effect") dx (effF e))) (q : Q (.int (e.fin n)) H) : spEnd K [.ref a, .int n] H Q E := ⟨a, e, n, rfl, ⟨dx, h⟩, q⟩
theorem use_mis {K : PySem.W.Frag} {H : Hp} {Q : VK} {E : XK} {a dx : Addr} {e : Eff} {n : Int} (h : H a = some (.ins (He.ga K "Effect") dx (effF e))) (q : Q (.int (e.mis n)) H) : spMis K [.ref a, .int n] H Q E := ⟨a, e, n, rfl, ⟨dx, h⟩, q⟩
theorem use_thr {K : PySem.W.Frag} {H : Hp} {Q : VK} {E : XK} {a dx : Addr} {e : Eff} {n : Int} (h : H a = some (.ins (He.ga K "Effect") dx (effF e))) (q : Q (.int (e.thr n)) H) : spThr K [.ref a, .int n] H Q E := ⟨a, e, n, rfl, ⟨dx, h⟩, q⟩
theorem mE {K : PySem.W.Frag} {σ : L2.St} {H : Hp} {Q : VK} {m : Str} {sp : Sp} {E : XK} {t : TA} {a dx : Addr} {e : Eff} (h : H a = some (.ins (He.ga K "Effect") dx (effF e))) (l : (effF e).lookup m = none) (q : t σ H fun vs H2 => sp (.ref a :: vs) H2 Q E) : MetR (He.ga K "Effect") m sp [] E t σ Q (.ref a) H := r_metR h l q
theorem mlk_end (e : Eff) : (effF e).lookup ("end" : Str) = none := by kernel_rfl
theorem mlk_missed (e : Eff) : (effF e).lookup ("missed" : Str) = none := by kernel_rfl
theorem mlk_thrown (e : Eff) : (effF e).lookup ("thrown" : Str) = none := by kernel_rfl
theorem mlk_followed (e : Eff) : (effF e).lookup ("followed" : Str) = none := by kernel_rfl
local macro_rules | `(tactic| walk_at "fact") => `(tactic| with_reducible first
  | refine mE (by assumption) (mlk_end _) ?_
  | refine mE (by assumption) (mlk_missed _) ?_
  | refine mE (by assumption) (mlk_thrown _) ?_
  | refine mE (by assumption) (mlk_followed _) ?_
  | refine use_end (by assumption) ?_
  | refine use_mis (by assumption) ?_
  | refine use_thr (by assumption) ?_)
def spFol (K : PySem.W.Frag) : Sp := fun vs H Q _ => ∃ a b f g, vs = [.ref a, .ref b] ∧ EffAt K H a f ∧ EffAt K H b g ∧ ∀ p H', Same H H' → EffAt K H' p (f.seq g) → Q (.ref p) H'
theorem ok_Effect_followed {P : Program} {w : World} {K : PySem.W.Frag} {mg : Str → Option Value} {base : Heap} (T : Tx K mg) : C8.Met P w K mg base 3 (He.ga K "Effect") "followed" (spFol K) [] := by
  have G_Effect_end := ok_Effect_end (P := P) (w := w) (base := base) T
  have G_Effect_missed := ok_Effect_missed (P := P) (w := w) (base := base) T
  have G_Effect_thrown := ok_Effect_thrown (P := P) (w := w) (base := base) T
  have G_Effect := ok_Effect_init (P := P) (w := w) (base := base) T
  refine met_of (d := d_Effect_followed) (C := "Effect") (m := "followed") (fn_Effect_followed T) rfl rfl (fc_Effect T) (fme_Effect_followed T) sc_Effect_followed (fun _ _ _ _ _ _ us hl => match us, hl with | [_, _], _ => rfl) (fun vs H Q E h => ?_) (fun cdv A outer s H vs Q E hr h => ?_)
  · obtain ⟨a, b, f, g, rfl, ⟨da, hA⟩, ⟨db, hB⟩, k⟩ := h
    rfl
  obtain ⟨a, b, f, g, rfl, ⟨da, hA⟩, ⟨db, hB⟩, k⟩ := h
  refine ⟨_, (pss_cons (ps_par (i := 2) (j := 3) (by rfl) sc_Effect_followed.nd rfl rfl (by decide) rfl rfl (pa_cons (C8.pe_mt G_Effect_end hr (by decide) (pv 1) (pa_cons (pe_fld (pv 0) rfl) pa_nil)) (pa_cons (C8.pe_mt G_Effect_end hr (by decide) (pv 1) (pa_cons (pe_fld (pv 0) rfl) pa_nil)) pa_nil)) (by rfl))
      (pss_cons (ps_set (i := 4) sc_Effect_followed.nd rfl (Or.inl rfl) (pe_callB (cq_min2 rfl) (by rfl) (fn_min T) bb_min (pa_cons (pe_callB (cq_max2 rfl) (by rfl) (fn_max T) bb_max (pa_cons (pe_fld (pv 1) rfl) (pa_cons (pe_fld (pv 0) rfl) pa_nil))) (pa_cons (pe_fld (pv 0) rfl) pa_nil))))
      (pss_cons (ps_set (i := 5) sc_Effect_followed.nd rfl (Or.inl rfl) (pe_callB (cq_min2 rfl) (by rfl) (fn_min T) bb_min (pa_cons (pe_callB (cq_max2 rfl) (by rfl) (fn_max T) bb_max (pa_cons (pe_fld (pv 1) rfl) (pa_cons (pe_fld (pv 0) rfl) pa_nil))) (pa_cons (pe_fld (pv 0) rfl) pa_nil))))
      (pss_cons (ps_set (i := 6) sc_Effect_followed.nd rfl (Or.inl rfl) (pe_op op_add (pe_op op_add (pe_fld (pv 0) rfl) (pe_fld (pv 1) rfl)) (pe_callB (cq_max2 rfl) (by rfl) (fn_max T) bb_max (pa_cons pe_int (pa_cons (pe_op op_sub (pe_fld (pv 1) rfl) (pe_fld (pv 0) rfl)) pa_nil)))))
      (pss_cons (ps_set (i := 7) sc_Effect_followed.nd rfl (Or.inl rfl) (pe_op op_add (pe_op op_add (pe_fld (pv 0) rfl) (pe_fld (pv 1) rfl)) (pe_callB (cq_max2 rfl) (by rfl) (fn_max T) bb_max (pa_cons pe_int (pa_cons (pe_op op_sub (pe_fld (pv 0) rfl) (pe_fld (pv 1) rfl)) pa_nil)))))
      (pss_cons (ps_if (pt_cmpR op_eqI (pe_fld (pv 0) rfl) (pe_fld (pv 0) rfl) (nomark _)) (pss_cons (ps_par (i := 4) (j := 5) (by rfl) sc_Effect_followed.nd rfl rfl (by decide) rfl rfl (pa_cons (pe_fld (pv 0) rfl) (pa_cons (pe_fld (pv 0) rfl) pa_nil)) (by rfl))
      (pss_cons (ps_set (i := 6) sc_Effect_followed.nd rfl (Or.inl rfl) (pe_op op_add (pe_fld (pv 0) rfl) (C8.pe_mt G_Effect_missed hr (by decide) (pv 1) (pa_cons (pe_fld (pv 0) rfl) pa_nil))))
      (pss_one (ps_set (i := 7) sc_Effect_followed.nd rfl (Or.inl rfl) (pe_op op_add (pe_fld (pv 0) rfl) (C8.pe_mt G_Effect_thrown hr (by decide) (pv 1) (pa_cons (pe_fld (pv 0) rfl) pa_nil))))))) (pss_one (ps_par (i := 4) (j := 5) (by rfl) sc_Effect_followed.nd rfl rfl (by decide) rfl rfl (pa_cons (pe_op op_sub (pv 4) (pe_fld (pv 0) rfl)) (pa_cons (pe_op op_sub (pv 5) (pe_fld (pv 0) rfl)) pa_nil)) (by rfl))))
      (pss_one (ps_ret (C8.pe_mk G_Effect hr (by decide) (by rfl) (pa_cons (pe_op op_add (pe_fld (pv 0) rfl) (pe_fld (pv 1) rfl)) (pa_cons (pv 2) (pa_cons (pv 3) (pa_cons (pv 4) (pa_cons (pv 5) (pa_cons (pv 6) (pa_cons (pv 7) pa_nil)))))))))))))))), ?_⟩
  try dsimp only [cxOf, Cx.nox, Cx.wish]
  repeat rw [st_cons]
  repeat rw [st_none]
  try rw [st_nn]
  walk_at "rd"
  refine i2 (fun c => ?_) (fun c => ?_)
  · walk_at "rd"
    refine use_Effect ⟨_, _, _, _, _, _, _⟩ fun p H' s h => k p H' s ?_
    have e : f.seq g = _ := if_pos c
    rw [e]
    exact h
  · walk_at "rd"
    refine use_Effect ⟨_, _, _, _, _, _, _⟩ fun p H' s h => k p H' s ?_
    have e : f.seq g = _ := if_neg c
    rw [e]
    exact h
def spDay (K : PySem.W.Frag) : Sp := fun vs H Q _ => ∃ b c n : Int, vs = [.int b, .int c, .int n] ∧ ∀ p H', Same H H' → EffAt K H' p (dayE b c n) → Q (.ref p) H'
theorem ok_day_effect {P : Program} {w : World} {K : PySem.W.Frag} {mg : Str → Option Value} {base : Heap} (T : Tx K mg) : C8.Cal P w K mg base 3 "day_effect" (spDay K) [] := by
  have G_Effect := ok_Effect_init (P := P) (w := w) (base := base) T
  refine cal_of (d := d_day_effect) (x := "day_effect") (fn_day_effect T) rfl rfl (fg_day_effect T) sc_day_effect (fun _ _ _ _ _ _ us hl => match us, hl with | [_, _, _], _ => rfl) (fun vs H Q E h => ?_) (fun cdv A outer s H vs Q E hr h => ?_)
  · obtain ⟨b, c, n, rfl, k⟩ := h
    rfl
  obtain ⟨b, c, n, rfl, k⟩ := h
  refine ⟨_, (pss_cons (ps_set (i := 3) sc_day_effect.nd rfl (Or.inl rfl) (pe_op op_sub (pv 0) (pv 1)))
      (pss_one (ps_ret (C8.pe_mk G_Effect hr (by decide) (by rfl) (pa_cons (pv 3) (pa_cons pe_int (pa_cons (pv 2) (pa_cons (pe_op op_sub pe_int (pv 3)) (pa_cons (pe_op op_sub (pv 2) (pv 3)) (pa_cons pe_int (pa_cons pe_int pa_nil))))))))))), ?_⟩
  try dsimp only [cxOf, Cx.nox, Cx.wish]
  repeat rw [st_cons]
  repeat rw [st_none]
  try rw [st_nn]
  walk_at "rd"
  exact use_Effect (dayE b c n) k

end G57
end
section
set_option maxRecDepth 100000
set_option maxHeartbeats 4000000
namespace G57
open PySem PySem.Spec PyProof.Rows L2
/-! the walk's small steps: "rd" reads on as far as it can -/
local macro_rules | `(tactic| walk_at "fact") => `(tactic| fail)
local macro_rules | `(tactic| walk_at "rd1") => `(tactic| with_reducible first
  | (refine v_id ?_; first | refine r_var_0 ?_ | refine r_var_1 ?_ | refine r_var_2 ?_ | refine r_var_3 ?_ | refine r_var_4 ?_ | refine r_var_5 ?_ | refine r_var_6 ?_ | refine r_var_7 ?_ | refine r_var_8 ?_ | refine r_var_9 ?_ | refine r_var_10 ?_ | refine r_var_11 ?_ | refine r_var_12 ?_ | refine r_var_13 ?_ | refine r_var_14 ?_ | refine r_var_15 ?_ | refine r_var_16 ?_ | refine r_var_17 ?_ | refine r_var_18 ?_ | refine r_var_19 ?_ | refine r_var_20 ?_ | refine r_var_21 ?_ | refine r_var_22 ?_ | refine r_var_23 ?_ | refine r_var_24 ?_ | refine r_var_25 ?_ | refine r_var_26 ?_ | refine r_var_27 ?_ | refine r_var rfl ?_)
  | (refine s_id ?_; first | refine r_set_0 ?_ | refine r_set_1 ?_ | refine r_set_2 ?_ | refine r_set_3 ?_ | refine r_set_4 ?_ | refine r_set_5 ?_ | refine r_set_6 ?_ | refine r_set_7 ?_ | refine r_set_8 ?_ | refine r_set_9 ?_ | refine r_set_10 ?_ | refine r_set_11 ?_ | refine r_set_12 ?_ | refine r_set_13 ?_ | refine r_set_14 ?_ | refine r_set_15 ?_ | refine r_set_16 ?_ | refine r_set_17 ?_ | refine r_set_18 ?_ | refine r_set_19 ?_ | refine r_set_20 ?_ | refine r_set_21 ?_ | refine r_set_22 ?_ | refine r_set_23 ?_ | refine r_set_24 ?_ | refine r_set_25 ?_ | refine r_set_26 ?_ | refine r_set_27 ?_ | refine r_setU ?_)
  | refine r_c ?_
  | refine r_op ?_
  | refine r_I0 ?_
  | refine r_seq ?_
  | refine r_asg ?_
  | refine r_fld ?_
  | refine r_nil ?_
  | refine r_cons ?_
  | refine r_cb ?_
  | refine r_max ?_
  | refine r_min ?_
  | refine r_ret ?_
  | refine r_met ?_
  | refine r_call ?_
  | refine r_B ?_
  | refine r_test ?_
  | refine r_b' ?_
  | refine r_ifS ?_
  | refine r_if ?_
  | refine r_par ?_
  | refine r_par2 ?_
  | refine r_drop ?_
  | refine r_next ?_
  | refine r_make ?_
  | refine r_sfld ?_
  | refine r_int1 ?_
  | refine r_intb ?_
  | refine r_and ?_
  | refine r_or ?_
  | refine r_not ?_
  | refine r_chain ?_
  | refine r_isN ?_
  | refine r_notN ?_
  | refine r_un ?_
  | refine r_U ?_
  | refine r_par3 ?_
  | refine r_par33 ?_
  | refine r_tup ?_
  | refine r_lst ?_
  | refine r_prop ?_
  | refine r_bm ?_
  | refine r_bm0 ?_
  | refine r_andV ?_
  | refine r_orV ?_
  | refine r_notV ?_
  | refine r_asgG ?_
  | refine r_gname ?_
  | refine r_gcons ?_
  | refine r_gnil ?_
  | refine r_rng1 ?_
  | refine r_rng2 ?_
  | refine r_for ?_
  | refine r_lc1 ?_
  | refine r_lc2 ?_
  | refine r_lc3 ?_
  | refine r_lc ?_
  | refine r_while ?_
  | refine r_rev ?_
  | refine r_sl ?_
  | refine r_augS ?_
  | refine r_iL ?_
  | refine r_iT ?_
  | refine r_iE ?_
  | refine r_ipI ?_
  | refine r_aug rfl ?_
  | refine r_cval ?_
  | refine r_turnN ?_
  | refine iT ?_
  | refine iNT ?_
  | refine iNF ?_
  | refine iOF ?_
  | refine iF ?_
  | refine r_part ?_
  | refine r_pi ?_
  | refine r_gsub ?_
  | refine r_noPart ?_)
local macro_rules | `(tactic| walk_at "rd") => `(tactic| (repeat (first | walk_at "rd1" | walk_at "fact")))
local macro_rules | `(tactic| walk_at "plen") => `(tactic| (repeat (first | decide | refine putF_lt ?_)))
local macro_rules | `(tactic| walk_at "rs") => `(tactic| (repeat ((fail_if_success (with_reducible refine r_stop ?_)); (first | walk_at "rd1" | walk_at "fact"))))
theorem Stab.eff {K : PySem.W.Frag} {a : Addr} {e : Eff} : Stab fun H => EffAt K H a e := Stab.ex fun _ => Stab.ins
theorem use_fol {K : PySem.W.Frag} {H : Hp} {Q : VK} {E : XK} {a b da db : Addr} {f g : Eff} (h : H a = some (.ins (He.ga K "Effect") da (effF f))) (h2 : H b = some (.ins (He.ga K "Effect") db (effF g))) (q : ∀ p H', Same H H' → EffAt K H' p (f.seq g) → Q (.ref p) H') : spFol K [.ref a, .ref b] H Q E := ⟨a, b, f, g, rfl, ⟨da, h⟩, ⟨db, h2⟩, q⟩
/-- what holds a found power, or None -/
def OptP (K : PySem.W.Frag) (H : Hp) (e : Eff) (n : Nat) (v : V) : Prop := (v = .non ∧ n = 0) ∨ ∃ p f, v = .ref p ∧ EffAt K H p f ∧ IsPow e n f
theorem OptP.mono {K : PySem.W.Frag} {H H' : Hp} {v : V} {e : Eff} {n : Nat} (h : OptP K H e n v) (s : Same H H') : OptP K H' e n v := by
  rcases h with h | ⟨p, f, z, q, r⟩
  · exact .inl h
  · exact .inr ⟨p, f, z, q.mono s, r⟩
local macro_rules | `(tactic| walk_at "fact") => `(tactic| with_reducible first
  | refine mE (by assumption) (mlk_end _) ?_
  | refine mE (by assumption) (mlk_missed _) ?_
  | refine mE (by assumption) (mlk_thrown _) ?_
  | refine mE (by assumption) (mlk_followed _) ?_
  | refine use_end (by assumption) ?_
  | refine use_mis (by assumption) ?_
  | refine use_thr (by assumption) ?_
  | refine use_fol (by assumption) (by assumption) ?_)
def spPow (K : PySem.W.Frag) : Sp := fun vs H Q _ => ∃ (a : Addr) (e : Eff) (t : Int), vs = [.ref a, .int t] ∧ EffAt K H a e ∧ 0 < t ∧ e.Ok ∧ ∀ p g H', Same H H' → EffAt K H' p g → IsPow e t.toNat g → Q (.ref p) H'
theorem ok_power {P : Program} {w : World} {K : PySem.W.Frag} {mg : Str → Option Value} {base : Heap} (T : Tx K mg) : C8.Cal P w K mg base 4 "power" (spPow K) [] := by
  have G_Effect_followed := ok_Effect_followed (P := P) (w := w) (base := base) T
  refine cal_of (d := d_power) (x := "power") (fn_power T) rfl rfl (fg_power T) sc_power (fun _ _ _ _ _ _ us hl => match us, hl with | [_, _], _ => rfl) (fun vs H Q E h => ?_) (fun cdv A outer s H vs Q E hr h => ?_)
  · obtain ⟨a, e, t0, rfl, hE, ht, he, k⟩ := h
    rfl
  obtain ⟨a, e, t0, rfl, hE, ht, he, k⟩ := h
  refine ⟨_, (pss_cons (ps_par (i := 2) (j := 3) (by rfl) sc_power.nd rfl rfl (by decide) rfl rfl (pa_cons pe_non (pa_cons (pv 0) pa_nil)) (by rfl))
      (pss_cons (ps_while PassesOwn.never (pt_cmpR op_gt (pv 1) pe_int (nomark _)) (pss_cons (ps_if (pt_cmpR op_eqI (pe_op op_mod (pe_callTy cq_int (by rfl) (fn_int T) bb_int (pa_cons (pv 1) pa_nil)) pe_int) pe_int (nomark _)) (pss_one (ps_set (i := 2) sc_power.nd rfl (Or.inl rfl) (pe_ifExp (pt_cmp (pc_isN (pv 2))) (pv 3) (C8.pe_mt G_Effect_followed hr (by decide) (pv 2) (pa_cons (pv 3) pa_nil))))) pss_nil)
      (pss_cons (ps_set (i := 3) sc_power.nd rfl (Or.inl rfl) (C8.pe_mt G_Effect_followed hr (by decide) (pv 3) (pa_cons (pv 3) pa_nil)))
      (pss_one (ps_set (i := 1) sc_power.nd rfl (Or.inl rfl) (pe_op op_fdiv (pv 1) pe_int))))))
      (pss_one (ps_ret (pv 2))))), ?_⟩
  try dsimp only [cxOf, Cx.nox, Cx.wish]
  repeat rw [st_cons]
  repeat rw [st_none]
  try rw [st_nn]
  walk_at "rd"
  refine ⟨fun m σ H' => ∃ (t : Int) (w r : Nat) (v : V) (b : Addr) (s : Eff), σ = [some (.ref a), some (.int t), some v, some (.ref b)] ∧ 0 ≤ t ∧ m = t.toNat ∧ Same H H' ∧ EffAt K H' b s ∧ IsPow e w s ∧ OptP K H' e r v ∧ t.toNat * w + r = t0.toNat, ⟨_, t0, 1, 0, .non, a, e, rfl, Int.le_of_lt ht, rfl, sameR, hE, isPow_one he, .inl ⟨rfl, rfl⟩, by omega⟩, ?_⟩
  rintro m σ H' ⟨t, w, r, v, b, s, rfl, ht, rfl, sm, ⟨db, hb⟩, hs, hv, hg⟩
  walk_at "rd"
  refine i2 (fun c => ?_) (fun c => ?_)
  · refine r_turn ?_
    walk_at "rd"
    refine r_I (by decide) ?_
    walk_at "rd"
    have sq : ∀ (v' : V) (r' : Nat) (H2 : Hp), Same H' H2 → OptP K H2 e r' v' → (t / 2).toNat * (w + w) + r' = t0.toNat → ∀ p H3, Same H2 H3 → EffAt K H3 p (s.seq s) →
      ∃ m', m' < t.toNat ∧ ∃ (t' : Int) (w r : Nat) (v : V) (b : Addr) (s' : Eff), [some (V.ref a), some (.int (t / 2)), some v', some (.ref p)] = [some (.ref a), some (.int t'), some v, some (.ref b)] ∧ 0 ≤ t' ∧ m' = t'.toNat ∧ Same H H3 ∧ EffAt K H3 b s' ∧ IsPow e w s' ∧ OptP K H3 e r v ∧ t'.toNat * w + r = t0.toNat :=
      fun v' r' H2 s2 o z p H3 s3 h3 => ⟨_, by omega, t / 2, w + w, r', v', p, _, rfl, by omega, rfl, sameT (sameT sm s2) s3, h3, hs.seq hs, o.mono s3, z⟩
    refine i2 (fun c2 => ?_) (fun c2 => ?_)
    · walk_at "rd"
      rcases hv with ⟨rfl, rfl⟩ | ⟨p, f, rfl, ⟨dp, hp⟩, hf⟩
      · refine iY rfl ?_
        walk_at "rd"
        refine fun p H3 s3 h3 => ?_
        walk_at "rd"
        refine r_I ⟨by decide, by decide⟩ ?_
        walk_at "rd"
        refine sq (.ref b) w H' sameR (.inr ⟨b, s, rfl, ⟨db, hb⟩, hs⟩) ?_ p H3 s3 h3
        have e1 : t.toNat = 2 * (t / 2).toNat + 1 := by omega
        rw [e1, Nat.add_zero] at hg
        rw [← hg, Nat.add_mul, Nat.mul_add, Nat.one_mul, Nat.mul_comm 2, Nat.mul_assoc, Nat.two_mul, Nat.mul_add]
      · refine iN (by intro z; cases z) ?_
        walk_at "rd"
        refine fun q H2 s2 h2 => ?_
        have hb2 := s2 _ _ hb
        walk_at "rd"
        refine fun p' H3 s3 h3 => ?_
        walk_at "rd"
        refine r_I ⟨by decide, by decide⟩ ?_
        walk_at "rd"
        refine sq (.ref q) (r + w) H2 s2 (.inr ⟨q, _, rfl, h2, hf.seq hs⟩) ?_ p' H3 s3 h3
        have e1 : t.toNat = 2 * (t / 2).toNat + 1 := by omega
        rw [e1] at hg
        rw [← hg, Nat.add_mul, Nat.mul_add, Nat.one_mul, Nat.mul_comm 2, Nat.mul_assoc, Nat.two_mul, Nat.mul_add]
        omega
    · walk_at "rd"
      refine fun p' H3 s3 h3 => ?_
      walk_at "rd"
      refine r_I ⟨by decide, by decide⟩ ?_
      walk_at "rd"
      refine sq v r H' sameR hv ?_ p' H3 s3 h3
      have e1 : t.toNat = 2 * (t / 2).toNat := by omega
      rw [e1] at hg
      rw [← hg, Nat.mul_add, Nat.mul_comm 2, Nat.mul_assoc, Nat.two_mul, Nat.mul_add]
  · have e0 : t = 0 := by omega
    subst e0
    rcases hv with ⟨rfl, rfl⟩ | ⟨p, f, rfl, hp, hf⟩
    · simp at hg
      omega
    · walk_at "rd"
      refine k p f H' sm hp ?_
      have z : r = t0.toNat := by simpa using hg
      rw [← z]
      exact hf
theorem use_pow {K : PySem.W.Frag} {H : Hp} {Q : VK} {E : XK} {a da : Addr} {e : Eff} {t : Int} (h : H a = some (.ins (He.ga K "Effect") da (effF e))) (ht : 0 < t) (he : e.Ok) (q : ∀ p g H', Same H H' → EffAt K H' p g → IsPow e t.toNat g → Q (.ref p) H') : spPow K [.ref a, .int t] H Q E := ⟨a, e, t, rfl, ⟨da, h⟩, ht, he, q⟩

end G57
end
section
set_option maxRecDepth 100000
set_option maxHeartbeats 4000000
namespace G57
open PySem PySem.Spec PyProof.Rows L2
/-! the walk's small steps: "rd" reads on as far as it can -/
local macro_rules | `(tactic| walk_at "fact") => `(tactic| fail)
local macro_rules | `(tactic| walk_at "rd1") => `(tactic| with_reducible first
  | (refine v_id ?_; first | refine r_var_0 ?_ | refine r_var_1 ?_ | refine r_var_2 ?_ | refine r_var_3 ?_ | refine r_var_4 ?_ | refine r_var_5 ?_ | refine r_var_6 ?_ | refine r_var_7 ?_ | refine r_var_8 ?_ | refine r_var_9 ?_ | refine r_var_10 ?_ | refine r_var_11 ?_ | refine r_var_12 ?_ | refine r_var_13 ?_ | refine r_var_14 ?_ | refine r_var_15 ?_ | refine r_var_16 ?_ | refine r_var_17 ?_ | refine r_var_18 ?_ | refine r_var_19 ?_ | refine r_var_20 ?_ | refine r_var_21 ?_ | refine r_var_22 ?_ | refine r_var_23 ?_ | refine r_var_24 ?_ | refine r_var_25 ?_ | refine r_var_26 ?_ | refine r_var_27 ?_ | refine r_var rfl ?_)
  | (refine s_id ?_; first | refine r_set_0 ?_ | refine r_set_1 ?_ | refine r_set_2 ?_ | refine r_set_3 ?_ | refine r_set_4 ?_ | refine r_set_5 ?_ | refine r_set_6 ?_ | refine r_set_7 ?_ | refine r_set_8 ?_ | refine r_set_9 ?_ | refine r_set_10 ?_ | refine r_set_11 ?_ | refine r_set_12 ?_ | refine r_set_13 ?_ | refine r_set_14 ?_ | refine r_set_15 ?_ | refine r_set_16 ?_ | refine r_set_17 ?_ | refine r_set_18 ?_ | refine r_set_19 ?_ | refine r_set_20 ?_ | refine r_set_21 ?_ | refine r_set_22 ?_ | refine r_set_23 ?_ | refine r_set_24 ?_ | refine r_set_25 ?_ | refine r_set_26 ?_ | refine r_set_27 ?_ | refine r_setU ?_)
  | refine r_c ?_
  | refine r_op ?_
  | refine r_I0 ?_
  | refine r_seq ?_
  | refine r_asg ?_
  | refine r_fld ?_
  | refine r_nil ?_
  | refine r_cons ?_
  | refine r_cb ?_
  | refine r_max ?_
  | refine r_min ?_
  | refine r_ret ?_
  | refine r_met ?_
  | refine r_call ?_
  | refine r_B ?_
  | refine r_test ?_
  | refine r_b' ?_
  | refine r_ifS ?_
  | refine r_if ?_
  | refine r_par ?_
  | refine r_par2 ?_
  | refine r_drop ?_
  | refine r_next ?_
  | refine r_make ?_
  | refine r_sfld ?_
  | refine r_int1 ?_
  | refine r_intb ?_
  | refine r_and ?_
  | refine r_or ?_
  | refine r_not ?_
  | refine r_chain ?_
  | refine r_isN ?_
  | refine r_notN ?_
  | refine r_un ?_
  | refine r_U ?_
  | refine r_par3 ?_
  | refine r_par33 ?_
  | refine r_tup ?_
  | refine r_lst ?_
  | refine r_prop ?_
  | refine r_bm ?_
  | refine r_bm0 ?_
  | refine r_andV ?_
  | refine r_orV ?_
  | refine r_notV ?_
  | refine r_asgG ?_
  | refine r_gname ?_
  | refine r_gcons ?_
  | refine r_gnil ?_
  | refine r_rng1 ?_
  | refine r_rng2 ?_
  | refine r_for ?_
  | refine r_lc1 ?_
  | refine r_lc2 ?_
  | refine r_lc3 ?_
  | refine r_lc ?_
  | refine r_while ?_
  | refine r_rev ?_
  | refine r_sl ?_
  | refine r_augS ?_
  | refine r_iL ?_
  | refine r_iT ?_
  | refine r_iE ?_
  | refine r_ipI ?_
  | refine r_aug rfl ?_
  | refine r_cval ?_
  | refine r_turnN ?_
  | refine iT ?_
  | refine iNT ?_
  | refine iNF ?_
  | refine iOF ?_
  | refine iF ?_
  | refine r_part ?_
  | refine r_pi ?_
  | refine r_gsub ?_
  | refine r_noPart ?_)
local macro_rules | `(tactic| walk_at "rd") => `(tactic| (repeat (first | walk_at "rd1" | walk_at "fact")))
local macro_rules | `(tactic| walk_at "plen") => `(tactic| (repeat (first | decide | refine putF_lt ?_)))
local macro_rules | `(tactic| walk_at "rs") => `(tactic| (repeat ((fail_if_success (with_reducible refine r_stop ?_)); (first | walk_at "rd1" | walk_at "fact"))))
def spNum : Sp := fun vs H Q _ => ∃ n lo hi : Int, vs = [.int n, .int lo, .int hi] ∧ lo ≤ n ∧ n ≤ hi ∧ Q .non H
theorem ok_validate_number {P : Program} {w : World} {K : PySem.W.Frag} {mg : Str → Option Value} {base : Heap} (T : Tx K mg) : C8.Cal P w K mg base 1 "validate_number" (spNum) [] := by
  refine cal_of (d := d_validate_number) (x := "validate_number") (fn_validate_number T) rfl rfl (fg_validate_number T) sc_validate_number (fun _ _ _ _ _ _ us hl => match us, hl with | [_, _, _], _ => rfl) (fun vs H Q E h => ?_) (fun cdv A outer s H vs Q E hr h => ?_)
  · obtain ⟨n, lo, hi, rfl, h1, h2, k⟩ := h
    rfl
  obtain ⟨n, lo, hi, rfl, h1, h2, k⟩ := h
  refine ⟨_, (pss_one (ps_if (pt_not (pt_chain op_le op_le (pv 1) (pv 0) (pv 2))) (pss_one ps_never) pss_nil)), ?_⟩
  try dsimp only [cxOf, Cx.nox, Cx.wish]
  repeat rw [st_cons]
  repeat rw [st_none]
  try rw [st_nn]
  walk_at "rd"
  refine iY h1 ?_
  walk_at "rd"
  refine iN' h2 ?_
  walk_at "rd"
  exact k
def spAms (K : PySem.W.Frag) : Sp := fun vs H Q _ => ∃ (s : Str) (a : Addr) (xs : List Int), vs = [.str s, .ref a] ∧ SqT K H a (xs.map V.int) ∧ xs.length ≤ 24 ∧ (∀ x ∈ xs, 0 ≤ x ∧ x ≤ 1000000000) ∧ ∀ H', Same H H' → Q .non H'
theorem ok_validate_amounts {P : Program} {w : World} {K : PySem.W.Frag} {mg : Str → Option Value} {base : Heap} (T : Tx K mg) : C8.Cal P w K mg base 1 "validate_amounts" (spAms K) [] := by
  refine cal_of (d := d_validate_amounts) (x := "validate_amounts") (fn_validate_amounts T) rfl rfl (fg_validate_amounts T) sc_validate_amounts (fun _ _ _ _ _ _ us hl => match us, hl with | [_, _], _ => rfl) (fun vs H Q E h => ?_) (fun cdv A outer s H vs Q E hr h => ?_)
  · obtain ⟨s, a, xs, rfl, hx, hl, hb, k⟩ := h
    rfl
  obtain ⟨s, a, xs, rfl, hx, hl, hb, k⟩ := h
  refine ⟨_, (pss_one (ps_for PassesOwn.never rfl (pi_enumT (by rfl) (fn_enumerate T) (pa_cons (pv 1) pa_nil)) (pg_tup (n := 2) (by rfl) (pgs_cons (pg_name (i := 2) sc_validate_amounts.nd rfl (Or.inl rfl)) (pgs_cons (pg_name (i := 3) sc_validate_amounts.nd rfl (Or.inl rfl)) pgs_nil))) (pss_one (ps_if (PW.pt (pw_or (pt_cmpR op_eqI (pv 2) (ClX.pe_cval (pe_glob (v := .ref (He.ga K "Bakery")) rfl (fg_Bakery T) rfl)) (nomark _)) (pw_or1 (pt_not (pt_chain op_le op_le pe_int (pv 3) (C8.pe_gc rfl (gc_int (fi_MAX_AMOUNT T)))))))) (pss_one ps_never) pss_nil)))), ?_⟩
  try dsimp only [cxOf, Cx.nox, Cx.wish]
  repeat rw [st_cons]
  repeat rw [st_none]
  try rw [st_nn]
  walk_at "rd"
  refine ⟨_, _, rfl, hx, ?_⟩
  refine fR_enumT (xs := xs.map V.int) (fun i σ H' => Same H H' ∧ ∃ x y, σ = [some (.str s), some (.ref a), x, y]) ⟨sameR, none, none, rfl⟩ (fun i σ H' p => same_sqT p.1 hx) ?_ (fun σ H' p => k H' p.1)
  rintro i x t σ H' hi ⟨sm, x1, x2, rfl⟩ ht
  obtain ⟨z, hz, rfl⟩ : ∃ z, xs[i]? = some z ∧ V.int z = x := by simpa using hi
  have lt : i < xs.length := (List.getElem?_eq_some_iff.mp hz).1
  obtain ⟨b0, b1⟩ := hb z (List.mem_of_getElem? hz)
  refine r_turnG ?_
  refine r_gtup (sqT_at upd_same) rfl ?_
  walk_at "rd"
  refine r_cvalR (fcv_Bakery_MAX_DAYS T) ?_
  walk_at "rd"
  refine iN (by omega) ?_
  walk_at "rd"
  refine iY b0 ?_
  walk_at "rd"
  refine iN' b1 ?_
  walk_at "rd"
  exact ⟨same_mut sm (none_of_same sm ht), _, _, rfl⟩
/-! ### a Bakery in the heap -/
def bakF (tb tw : Addr) (B : Bak) (r : List (Str × V)) : List (Str × V) := ("baking", .ref tb) :: ("wishes", .ref tw) :: ("days_kept", .int B.life) :: ("size", .int (B.n : Nat)) :: r
def bakMs : List Str := ["baked_on", "effect_of", "start_of", "stock", "missed", "thrown", "sold", "wished_before", "totals", "shelf", "with_life", "baking_more"]
def Rst (r : List (Str × V)) : Prop := (bakMs.all fun m => (r.lookup m).isNone) = true
def BakC (K : PySem.W.Frag) (H : Hp) (a : Addr) (B : Bak) : Prop := B.Ok ∧ ∃ dx tb tw r, H a = some (.ins (He.ga K "Bakery") dx (bakF tb tw B r)) ∧ Rst r ∧ SqT K H tb (B.bakes.map V.int) ∧ SqT K H tw (B.dems.map V.int)
theorem Rst.at {r : List (Str × V)} (h : Rst r) {m : Str} (hm : m ∈ bakMs) : r.lookup m = none := by
  have z := List.all_eq_true.mp h m hm
  exact Option.isNone_iff_eq_none.mp z
theorem bakF_no {tb tw : Addr} {B : Bak} {r : List (Str × V)} {m : Str} (h : Rst r) (hm : m ∈ bakMs) : (bakF tb tw B r).lookup m = none := by
  have z := h.at hm
  unfold bakF
  simp only [bakMs, List.mem_cons, List.not_mem_nil, or_false] at hm
  rcases hm with rfl | rfl | rfl | rfl | rfl | rfl | rfl | rfl | rfl | rfl | rfl | rfl <;> exact z
theorem lkB_baking {tb tw : Addr} {B : Bak} {r : List (Str × V)} : (bakF tb tw B r).lookup ("baking" : Str) = some (V.ref tb) := by kernel_rfl
theorem lkB_wishes {tb tw : Addr} {B : Bak} {r : List (Str × V)} : (bakF tb tw B r).lookup ("wishes" : Str) = some (V.ref tw) := by kernel_rfl
theorem lkB_days_kept {tb tw : Addr} {B : Bak} {r : List (Str × V)} : (bakF tb tw B r).lookup ("days_kept" : Str) = some (V.int B.life) := by kernel_rfl
theorem lkB_size {tb tw : Addr} {B : Bak} {r : List (Str × V)} : (bakF tb tw B r).lookup ("size" : Str) = some (V.int (B.n : Nat)) := by kernel_rfl
section
variable {K : PySem.W.Frag} {mg : Str → Option Value} (T : Tx K mg) {H : Hp} {a dx tb tw : Addr} {B : Bak} {r : List (Str × V)} {Q : VK} (h : H a = some (.ins (He.ga K "Bakery") dx (bakF tb tw B r)))
include T h
theorem fB_baking (q : Q (.ref tb) H) : FldR K "baking" Q (.ref a) H := r_fldR h (fc_Bakery T) (fna_Bakery_baking T) lkB_baking q
theorem fB_wishes (q : Q (.ref tw) H) : FldR K "wishes" Q (.ref a) H := r_fldR h (fc_Bakery T) (fna_Bakery_wishes T) lkB_wishes q
theorem fB_days_kept (q : Q (.int B.life) H) : FldR K "days_kept" Q (.ref a) H := r_fldR h (fc_Bakery T) (fna_Bakery_days_kept T) lkB_days_kept q
theorem fB_size (q : Q (.int (B.n : Nat)) H) : FldR K "size" Q (.ref a) H := r_fldR h (fc_Bakery T) (fna_Bakery_size T) lkB_size q
end
theorem mB {K : PySem.W.Frag} {σ : L2.St} {H : Hp} {Q : VK} {m : Str} {sp : Sp} {E : XK} {t : TA} {a dx tb tw : Addr} {B : Bak} {r : List (Str × V)} (h : H a = some (.ins (He.ga K "Bakery") dx (bakF tb tw B r))) (hr : Rst r) (hm : m ∈ bakMs) (q : t σ H fun vs H2 => sp (.ref a :: vs) H2 Q E) : MetR (He.ga K "Bakery") m sp [] E t σ Q (.ref a) H := r_metR h (bakF_no hr hm) q
def spBks (K : PySem.W.Frag) : Sp := fun vs H Q _ => ∃ a dx tb tw B r, vs = [.ref a] ∧ H a = some (.ins (He.ga K "Bakery") dx (bakF tb tw B r)) ∧ Q (.ref tb) H
def spDms (K : PySem.W.Frag) : Sp := fun vs H Q _ => ∃ a dx tb tw B r, vs = [.ref a] ∧ H a = some (.ins (He.ga K "Bakery") dx (bakF tb tw B r)) ∧ Q (.ref tw) H
def spLif (K : PySem.W.Frag) : Sp := fun vs H Q _ => ∃ a dx tb tw B r, vs = [.ref a] ∧ H a = some (.ins (He.ga K "Bakery") dx (bakF tb tw B r)) ∧ Q (.int B.life) H
local macro_rules | `(tactic| walk_at "fact") => `(tactic| with_reducible first
  | refine fB_baking ‹_› (by assumption) ?_
  | refine fB_wishes ‹_› (by assumption) ?_
  | refine fB_days_kept ‹_› (by assumption) ?_
  | refine fB_size ‹_› (by assumption) ?_
  | refine mB (by assumption) (by assumption) (by decide) ?_)
theorem ok_Bakery_bakes {P : Program} {w : World} {K : PySem.W.Frag} {mg : Str → Option Value} {base : Heap} (T : Tx K mg) : Prp P w K mg base 1 (He.ga K "Bakery") "bakes" (spBks K) := by
  refine prp_of (d := d_Bakery_bakes) (C := "Bakery") (f := "bakes") (fn_Bakery_bakes T) rfl rfl (fc_Bakery T) (fpr_Bakery_bakes T) sc_Bakery_bakes (fun _ _ _ _ _ _ us hl => match us, hl with | [_], _ => rfl) (fun vs H Q E h => ?_) (fun cdv A outer s H vs Q E hr h => ?_)
  · obtain ⟨a, dx, tb, tw, B, r, rfl, hB, k⟩ := h
    rfl
  obtain ⟨a, dx, tb, tw, B, r, rfl, hB, k⟩ := h
  refine ⟨_, (pss_one (ps_ret (pe_fld (pv 0) rfl))), ?_⟩
  try dsimp only [cxOf, Cx.nox, Cx.wish]
  repeat rw [st_cons]
  repeat rw [st_none]
  try rw [st_nn]
  walk_at "rd"
  exact k
theorem ok_Bakery_demands {P : Program} {w : World} {K : PySem.W.Frag} {mg : Str → Option Value} {base : Heap} (T : Tx K mg) : Prp P w K mg base 1 (He.ga K "Bakery") "demands" (spDms K) := by
  refine prp_of (d := d_Bakery_demands) (C := "Bakery") (f := "demands") (fn_Bakery_demands T) rfl rfl (fc_Bakery T) (fpr_Bakery_demands T) sc_Bakery_demands (fun _ _ _ _ _ _ us hl => match us, hl with | [_], _ => rfl) (fun vs H Q E h => ?_) (fun cdv A outer s H vs Q E hr h => ?_)
  · obtain ⟨a, dx, tb, tw, B, r, rfl, hB, k⟩ := h
    rfl
  obtain ⟨a, dx, tb, tw, B, r, rfl, hB, k⟩ := h
  refine ⟨_, (pss_one (ps_ret (pe_fld (pv 0) rfl))), ?_⟩
  try dsimp only [cxOf, Cx.nox, Cx.wish]
  repeat rw [st_cons]
  repeat rw [st_none]
  try rw [st_nn]
  walk_at "rd"
  exact k
theorem ok_Bakery_life {P : Program} {w : World} {K : PySem.W.Frag} {mg : Str → Option Value} {base : Heap} (T : Tx K mg) : Prp P w K mg base 1 (He.ga K "Bakery") "life" (spLif K) := by
  refine prp_of (d := d_Bakery_life) (C := "Bakery") (f := "life") (fn_Bakery_life T) rfl rfl (fc_Bakery T) (fpr_Bakery_life T) sc_Bakery_life (fun _ _ _ _ _ _ us hl => match us, hl with | [_], _ => rfl) (fun vs H Q E h => ?_) (fun cdv A outer s H vs Q E hr h => ?_)
  · obtain ⟨a, dx, tb, tw, B, r, rfl, hB, k⟩ := h
    rfl
  obtain ⟨a, dx, tb, tw, B, r, rfl, hB, k⟩ := h
  refine ⟨_, (pss_one (ps_ret (pe_fld (pv 0) rfl))), ?_⟩
  try dsimp only [cxOf, Cx.nox, Cx.wish]
  repeat rw [st_cons]
  repeat rw [st_none]
  try rw [st_nn]
  walk_at "rd"
  exact k
def spBkd (K : PySem.W.Frag) : Sp := fun vs H Q _ => ∃ (a : Addr) (B : Bak) (d : Int), vs = [.ref a, .int d] ∧ BakC K H a B ∧ Q (.int (B.bk d)) H
theorem ok_Bakery_baked_on {P : Program} {w : World} {K : PySem.W.Frag} {mg : Str → Option Value} {base : Heap} (T : Tx K mg) : C8.Met P w K mg base 1 (He.ga K "Bakery") "baked_on" (spBkd K) [] := by
  refine met_of (d := d_Bakery_baked_on) (C := "Bakery") (m := "baked_on") (fn_Bakery_baked_on T) rfl rfl (fc_Bakery T) (fme_Bakery_baked_on T) sc_Bakery_baked_on (fun _ _ _ _ _ _ us hl => match us, hl with | [_, _], _ => rfl) (fun vs H Q E h => ?_) (fun cdv A outer s H vs Q E hr h => ?_)
  · obtain ⟨a, B, d, rfl, ⟨ok, dx, tb, tw, r, hB, hq, hb, hw⟩, k⟩ := h
    rfl
  obtain ⟨a, B, d, rfl, ⟨ok, dx, tb, tw, r, hB, hq, hb, hw⟩, k⟩ := h
  refine ⟨_, (pss_one (ps_ret (pe_ifExp (pt_cmpR op_ge (pv 1) pe_int (nomark _)) (pe_ix ix_tup (pe_fld (pv 0) rfl) (pe_op op_mod (pe_callTy cq_int (by rfl) (fn_int T) bb_int (pa_cons (pv 1) pa_nil)) (pe_fld (pv 0) rfl)) (fun _ _ => rfl)) pe_int))), ?_⟩
  try dsimp only [cxOf, Cx.nox, Cx.wish]
  repeat rw [st_cons]
  repeat rw [st_none]
  try rw [st_nn]
  have n0 := ok.n0
  walk_at "rd"
  refine i2 (fun c => ?_) (fun c => ?_)
  · walk_at "rd"
    refine r_I (by omega) ?_
    refine r_ixT hb (ok.ix d).2.symm (by rw [List.getElem?_map, ok.bk_at c]; rfl) ?_
    exact k
  · walk_at "rd"
    unfold Bak.bk at k
    rw [if_neg c] at k
    exact k
def spEof (K : PySem.W.Frag) : Sp := fun vs H Q _ => ∃ (a : Addr) (B : Bak) (d : Int), vs = [.ref a, .int d] ∧ BakC K H a B ∧ ∀ p H', Same H H' → EffAt K H' p (B.eff d) → Q (.ref p) H'
theorem BakC.mono {K : PySem.W.Frag} {H H' : Hp} {a : Addr} {B : Bak} (h : BakC K H a B) (s : Same H H') : BakC K H' a B := by
  obtain ⟨ok, dx, tb, tw, r, hB, hq, hb, hw⟩ := h
  exact ⟨ok, dx, tb, tw, r, s _ _ hB, hq, same_sqT s hb, same_sqT s hw⟩
theorem ok_Bakery_effect_of {P : Program} {w : World} {K : PySem.W.Frag} {mg : Str → Option Value} {base : Heap} (T : Tx K mg) : C8.Met P w K mg base 4 (He.ga K "Bakery") "effect_of" (spEof K) [] := by
  have G_Bakery_baked_on := ok_Bakery_baked_on (P := P) (w := w) (base := base) T
  have G_day_effect := ok_day_effect (P := P) (w := w) (base := base) T
  refine met_of (d := d_Bakery_effect_of) (C := "Bakery") (m := "effect_of") (fn_Bakery_effect_of T) rfl rfl (fc_Bakery T) (fme_Bakery_effect_of T) sc_Bakery_effect_of (fun _ _ _ _ _ _ us hl => match us, hl with | [_, _], _ => rfl) (fun vs H Q E h => ?_) (fun cdv A outer s H vs Q E hr h => ?_)
  · obtain ⟨a, B, d, rfl, ⟨ok, dx, tb, tw, r, hB, hq, hb, hw⟩, k⟩ := h
    rfl
  obtain ⟨a, B, d, rfl, ⟨ok, dx, tb, tw, r, hB, hq, hb, hw⟩, k⟩ := h
  refine ⟨_, (pss_cons (ps_set (i := 3) sc_Bakery_effect_of.nd rfl (Or.inl rfl) (pe_callB (cr_sum rfl) (by rfl) (fn_sum T) bb_sum (pa_cons (pe_lc (own := [("age", 2)]) (by rfl) sc_Bakery_effect_of.nd (pi_range1 (by rfl) (fn_range T) (pa_cons (pe_op op_sub (pe_fld (pv 0) rfl) pe_int) pa_nil)) (blkOk_by (own := [("age", 2)]) (N := ["self", "day", "age", "kept"]) (sc := defScope s_Bakery_effect_of) (by decide +kernel)) (fun _ _ _ _ _ => (pg_name (i := 2) sc_Bakery_effect_of.nd rfl (Or.inl rfl))) (fun _ _ _ _ _ => pts_nil) (fun _ _ _ _ _ => by exact (C8.pe_mt G_Bakery_baked_on hr (by decide) (pv 0) (pa_cons (pe_op op_sub (pv 1) (pv 2)) pa_nil)))) pa_nil)))
      (pss_one (ps_ret (C8.pe_c G_day_effect hr (by decide) (by rfl) (pa_cons (C8.pe_mt G_Bakery_baked_on hr (by decide) (pv 0) (pa_cons (pv 1) pa_nil)) (pa_cons (pe_ix ix_tup (pe_fld (pv 0) rfl) (pe_op op_mod (pe_callTy cq_int (by rfl) (fn_int T) bb_int (pa_cons (pv 1) pa_nil)) (pe_fld (pv 0) rfl)) (fun _ _ => rfl)) (pa_cons (pv 3) pa_nil))))))), ?_⟩
  try dsimp only [cxOf, Cx.nox, Cx.wish]
  repeat rw [st_cons]
  repeat rw [st_none]
  try rw [st_nn]
  have n0 := ok.n0
  have l0 := ok.l0
  have l1 := ok.l1
  walk_at "rd"
  refine ⟨_, rfl, by omega, by omega, ?_⟩
  refine lcN_range (fun i v _ => v = .int (B.bk (d - (i : Nat)))) (fun _ _ => Stab.triv) (Nat.le_trans (show _ ≤ 100 by omega) (by decide)) (fun _ => rfl) (fun i H' Z hi sm z => ?_) fun D H' ys hD sm hl len hys => ?_
  · have hB2 := sm _ _ hB
    walk_at "rd"
    refine ⟨a, B, _, rfl, ⟨ok, dx, tb, tw, r, hB2, hq, same_sqT sm hb, same_sqT sm hw⟩, ?_⟩
    exact z _ _ sameR (by rw [Int.zero_add])
  · have hB2 := sm _ _ hB
    have hw2 := same_sqT sm hw
    walk_at "rd"
    refine r_sumL (sqL_at (by rw [hl, ints_of len hys])) ?_
    walk_at "rd"
    refine ⟨a, B, _, rfl, ⟨ok, dx, tb, tw, r, hB2, hq, same_sqT sm hb, hw2⟩, ?_⟩
    walk_at "rd"
    refine r_I (by omega) ?_
    refine r_ixT hw2 (ok.ix d).2.symm (by rw [List.getElem?_map, ok.wish_at d]; rfl) ?_
    walk_at "rd"
    exact ⟨_, _, _, rfl, fun p H2 s2 h2 => k p H2 (sameT sm s2) h2⟩

end G57
end
section
set_option maxRecDepth 100000
set_option maxHeartbeats 4000000
namespace G57
open PySem PySem.Spec PyProof.Rows L2
/-! the walk's small steps: "rd" reads on as far as it can -/
local macro_rules | `(tactic| walk_at "fact") => `(tactic| fail)
local macro_rules | `(tactic| walk_at "rd1") => `(tactic| with_reducible first
  | (refine v_id ?_; first | refine r_var_0 ?_ | refine r_var_1 ?_ | refine r_var_2 ?_ | refine r_var_3 ?_ | refine r_var_4 ?_ | refine r_var_5 ?_ | refine r_var_6 ?_ | refine r_var_7 ?_ | refine r_var_8 ?_ | refine r_var_9 ?_ | refine r_var_10 ?_ | refine r_var_11 ?_ | refine r_var_12 ?_ | refine r_var_13 ?_ | refine r_var_14 ?_ | refine r_var_15 ?_ | refine r_var_16 ?_ | refine r_var_17 ?_ | refine r_var_18 ?_ | refine r_var_19 ?_ | refine r_var_20 ?_ | refine r_var_21 ?_ | refine r_var_22 ?_ | refine r_var_23 ?_ | refine r_var_24 ?_ | refine r_var_25 ?_ | refine r_var_26 ?_ | refine r_var_27 ?_ | refine r_var rfl ?_)
  | (refine s_id ?_; first | refine r_set_0 ?_ | refine r_set_1 ?_ | refine r_set_2 ?_ | refine r_set_3 ?_ | refine r_set_4 ?_ | refine r_set_5 ?_ | refine r_set_6 ?_ | refine r_set_7 ?_ | refine r_set_8 ?_ | refine r_set_9 ?_ | refine r_set_10 ?_ | refine r_set_11 ?_ | refine r_set_12 ?_ | refine r_set_13 ?_ | refine r_set_14 ?_ | refine r_set_15 ?_ | refine r_set_16 ?_ | refine r_set_17 ?_ | refine r_set_18 ?_ | refine r_set_19 ?_ | refine r_set_20 ?_ | refine r_set_21 ?_ | refine r_set_22 ?_ | refine r_set_23 ?_ | refine r_set_24 ?_ | refine r_set_25 ?_ | refine r_set_26 ?_ | refine r_set_27 ?_ | refine r_setU ?_)
  | refine r_c ?_
  | refine r_op ?_
  | refine r_I0 ?_
  | refine r_seq ?_
  | refine r_asg ?_
  | refine r_fld ?_
  | refine r_nil ?_
  | refine r_cons ?_
  | refine r_cb ?_
  | refine r_max ?_
  | refine r_min ?_
  | refine r_ret ?_
  | refine r_met ?_
  | refine r_call ?_
  | refine r_B ?_
  | refine r_test ?_
  | refine r_b' ?_
  | refine r_ifS ?_
  | refine r_if ?_
  | refine r_par ?_
  | refine r_par2 ?_
  | refine r_drop ?_
  | refine r_next ?_
  | refine r_make ?_
  | refine r_sfld ?_
  | refine r_int1 ?_
  | refine r_intb ?_
  | refine r_and ?_
  | refine r_or ?_
  | refine r_not ?_
  | refine r_chain ?_
  | refine r_isN ?_
  | refine r_notN ?_
  | refine r_un ?_
  | refine r_U ?_
  | refine r_par3 ?_
  | refine r_par33 ?_
  | refine r_tup ?_
  | refine r_lst ?_
  | refine r_prop ?_
  | refine r_bm ?_
  | refine r_bm0 ?_
  | refine r_andV ?_
  | refine r_orV ?_
  | refine r_notV ?_
  | refine r_asgG ?_
  | refine r_gname ?_
  | refine r_gcons ?_
  | refine r_gnil ?_
  | refine r_rng1 ?_
  | refine r_rng2 ?_
  | refine r_for ?_
  | refine r_lc1 ?_
  | refine r_lc2 ?_
  | refine r_lc3 ?_
  | refine r_lc ?_
  | refine r_while ?_
  | refine r_rev ?_
  | refine r_sl ?_
  | refine r_augS ?_
  | refine r_iL ?_
  | refine r_iT ?_
  | refine r_iE ?_
  | refine r_ipI ?_
  | refine r_aug rfl ?_
  | refine r_cval ?_
  | refine r_turnN ?_
  | refine iT ?_
  | refine iNT ?_
  | refine iNF ?_
  | refine iOF ?_
  | refine iF ?_
  | refine r_part ?_
  | refine r_pi ?_
  | refine r_gsub ?_
  | refine r_noPart ?_)
local macro_rules | `(tactic| walk_at "rd") => `(tactic| (repeat (first | walk_at "rd1" | walk_at "fact")))
local macro_rules | `(tactic| walk_at "plen") => `(tactic| (repeat (first | decide | refine putF_lt ?_)))
local macro_rules | `(tactic| walk_at "rs") => `(tactic| (repeat ((fail_if_success (with_reducible refine r_stop ?_)); (first | walk_at "rd1" | walk_at "fact"))))
local macro_rules | `(tactic| walk_at "fact") => `(tactic| with_reducible first
  | refine mE (by assumption) (mlk_end _) ?_
  | refine mE (by assumption) (mlk_missed _) ?_
  | refine mE (by assumption) (mlk_thrown _) ?_
  | refine mE (by assumption) (mlk_followed _) ?_
  | refine use_end (by assumption) ?_
  | refine use_mis (by assumption) ?_
  | refine use_thr (by assumption) ?_
  | refine use_fol (by assumption) (by assumption) ?_
  | refine fB_baking ‹_› (by assumption) ?_
  | refine fB_wishes ‹_› (by assumption) ?_
  | refine fB_days_kept ‹_› (by assumption) ?_
  | refine fB_size ‹_› (by assumption) ?_
  | refine mB (by assumption) (by assumption) (by decide) ?_)
def spAft (K : PySem.W.Frag) : Sp := fun vs H Q _ => ∃ (a : Addr) (e : Eff) (s t : Int), vs = [.ref a, .int s, .int t] ∧ EffAt K H a e ∧ 0 ≤ t ∧ e.Ok ∧ ∀ H', Same H H' → Q (.int (itf e t.toNat s)) H'
theorem ok_after {P : Program} {w : World} {K : PySem.W.Frag} {mg : Str → Option Value} {base : Heap} (T : Tx K mg) : C8.Cal P w K mg base 5 "after" (spAft K) [] := by
  have G_power := ok_power (P := P) (w := w) (base := base) T
  have G_Effect_end := ok_Effect_end (P := P) (w := w) (base := base) T
  refine cal_of (d := d_after) (x := "after") (fn_after T) rfl rfl (fg_after T) sc_after (fun _ _ _ _ _ _ us hl => match us, hl with | [_, _, _], _ => rfl) (fun vs H Q E h => ?_) (fun cdv A outer s H vs Q E hr h => ?_)
  · obtain ⟨a, e, s, t, rfl, ⟨da, hE⟩, ht, he, k⟩ := h
    rfl
  obtain ⟨a, e, s, t, rfl, ⟨da, hE⟩, ht, he, k⟩ := h
  refine ⟨_, (pss_one (ps_ret (pe_ifExp (pt_cmpR op_gt (pv 2) pe_int (nomark _)) (C8.pe_mt G_Effect_end hr (by decide) (C8.pe_c G_power hr (by decide) (by rfl) (pa_cons (pv 0) (pa_cons (pv 2) pa_nil))) (pa_cons (pv 1) pa_nil)) (pv 1)))), ?_⟩
  try dsimp only [cxOf, Cx.nox, Cx.wish]
  repeat rw [st_cons]
  repeat rw [st_none]
  try rw [st_nn]
  walk_at "rd"
  refine i2 (fun c => ?_) (fun c => ?_)
  · walk_at "rd"
    refine use_pow (by assumption) c he fun p g H' sm ⟨dp, hp⟩ hg => ?_
    walk_at "rd"
    rw [hg.fin]
    exact k H' sm
  · walk_at "rd"
    have e0 : t = 0 := by omega
    subst e0
    exact k H sameR
def spRnd (K : PySem.W.Frag) : Sp := fun vs H Q _ => ∃ (a : Addr) (e : Eff) (s : Int) (r : Nat), vs = [.ref a, .int s] ∧ EffAt K H a e ∧ e.Ok ∧ Settle e s r ∧ ∀ H', Same H H' → Q (.int (r : Nat)) H'
theorem ok_rounds_to_settle {P : Program} {w : World} {K : PySem.W.Frag} {mg : Str → Option Value} {base : Heap} (T : Tx K mg) : C8.Cal P w K mg base 6 "rounds_to_settle" (spRnd K) [] := by
  have G_Effect_end := ok_Effect_end (P := P) (w := w) (base := base) T
  have G_after := ok_after (P := P) (w := w) (base := base) T
  refine cal_of (d := d_rounds_to_settle) (x := "rounds_to_settle") (fn_rounds_to_settle T) rfl rfl (fg_rounds_to_settle T) sc_rounds_to_settle (fun _ _ _ _ _ _ us hl => match us, hl with | [_, _], _ => rfl) (fun vs H Q E h => ?_) (fun cdv A outer s H vs Q E hr h => ?_)
  · obtain ⟨a, e, s, r, rfl, ⟨da, hE⟩, he, hs, k⟩ := h
    rfl
  obtain ⟨a, e, s, r, rfl, ⟨da, hE⟩, he, hs, k⟩ := h
  refine ⟨_, (pss_cons (ps_asg (pe_tup (pa_cons pe_int (pa_cons pe_int pa_nil))) (pg_tup (n := 2) (by rfl) (pgs_cons (pg_name (i := 2) sc_rounds_to_settle.nd rfl (Or.inl rfl)) (pgs_cons (pg_name (i := 3) sc_rounds_to_settle.nd rfl (Or.inl rfl)) pgs_nil))))
      (pss_cons (ps_while PassesOwn.never (pt_cmpR op_neI (C8.pe_mt G_Effect_end hr (by decide) (pv 0) (pa_cons (C8.pe_c G_after hr (by decide) (by rfl) (pa_cons (pv 0) (pa_cons (pv 1) (pa_cons (pv 3) pa_nil)))) pa_nil)) (C8.pe_c G_after hr (by decide) (by rfl) (pa_cons (pv 0) (pa_cons (pv 1) (pa_cons (pv 3) pa_nil)))) (nomark _)) (pss_one (ps_aug (i := 3) sc_rounds_to_settle.nd rfl (Or.inl rfl) pe_int ip_mul)))
      (pss_cons (ps_while PassesOwn.never (pt_cmpR op_lt (pv 2) (pv 3) (nomark _)) (pss_cons (ps_set (i := 4) sc_rounds_to_settle.nd rfl (Or.inl rfl) (pe_op op_fdiv (pe_op op_add (pv 2) (pv 3)) pe_int))
      (pss_cons (ps_set (i := 5) sc_rounds_to_settle.nd rfl (Or.inl rfl) (C8.pe_c G_after hr (by decide) (by rfl) (pa_cons (pv 0) (pa_cons (pv 1) (pa_cons (pv 4) pa_nil)))))
      (pss_one (ps_if (pt_cmpR op_eqI (C8.pe_mt G_Effect_end hr (by decide) (pv 0) (pa_cons (pv 5) pa_nil)) (pv 5) (nomark _)) (pss_one (ps_set (i := 3) sc_rounds_to_settle.nd rfl (Or.inl rfl) (pv 4))) (pss_one (ps_set (i := 2) sc_rounds_to_settle.nd rfl (Or.inl rfl) (pe_op op_add (pv 4) pe_int))))))))
      (pss_one (ps_ret (pv 2)))))), ?_⟩
  try dsimp only [cxOf, Cx.nox, Cx.wish]
  repeat rw [st_cons]
  repeat rw [st_none]
  try rw [st_nn]
  walk_at "rd"
  refine r_nwT (by decide) fun p hp => ?_
  walk_at "rd"
  refine r_gtup (sqT_at upd_same) rfl ?_
  walk_at "rd"
  refine ⟨fun m σ H' => ∃ (hi : Nat), σ = [some (.ref a), some (.int s), some (.int 0), some (.int (hi : Nat)), none, none] ∧ 0 < hi ∧ m = r - hi ∧ Same H H', ⟨_, 1, rfl, by decide, rfl, same_new hp⟩, ?_⟩
  rintro m σ H' ⟨hi, rfl, h0, rfl, sm⟩
  have hE2 := sm _ _ hE
  walk_at "rd"
  refine ⟨a, e, s, hi, rfl, ⟨da, hE2⟩, by omega, he, fun H2 s2 => ?_⟩
  have hE3 := s2 _ _ hE2
  walk_at "rd"
  refine ⟨a, e, s, hi, rfl, ⟨da, hE3⟩, by omega, he, fun H3 s3 => ?_⟩
  have sm3 := sameT sm (sameT s2 s3)
  have hE4 := s3 _ _ hE3
  have e1 : ((hi : Nat) : Int).toNat = hi := rfl
  rw [e1]
  walk_at "rd"
  refine i2n (fun c => ?_) (fun c => ?_)
  · refine r_turn ?_
    have lt : hi < r := by
      have z : ¬ r ≤ hi := fun z => c ((hs.iff hi).mpr z)
      omega
    walk_at "rd"
    refine ⟨_, _, rfl, rfl, .inr (by decide), ?_⟩
    walk_at "rd"
    exact ⟨_, (by omega : r - hi * 2 < r - hi), hi * 2, by simp, by omega, rfl, sm3⟩
  · have le := (hs.iff hi).mp c
    walk_at "rd"
    refine ⟨fun m σ H' => ∃ (lo hi : Nat) (x y : Option V), σ = [some (.ref a), some (.int s), some (.int (lo : Nat)), some (.int (hi : Nat)), x, y] ∧ lo ≤ r ∧ r ≤ hi ∧ m = hi - lo ∧ Same H H', ⟨_, 0, hi, _, _, rfl, by omega, le, rfl, sm3⟩, ?_⟩
    rintro m σ H' ⟨lo, hi, x, y, rfl, h1, h2, rfl, sm⟩
    have hE5 := sm _ _ hE
    walk_at "rd"
    refine i2 (fun c => ?_) (fun c => ?_)
    · refine r_turn ?_
      walk_at "rd"
      refine r_I ⟨by decide, by decide⟩ ?_
      walk_at "rd"
      have e2 : ((lo : Int) + hi) / 2 = (((lo + hi) / 2 : Nat) : Int) := by omega
      rw [e2]
      refine ⟨a, e, s, ((lo + hi) / 2 : Nat), rfl, ⟨da, hE5⟩, by omega, he, fun H6 s6 => ?_⟩
      have hE6 := s6 _ _ hE5
      have e3 : (((lo + hi) / 2 : Nat) : Int).toNat = (lo + hi) / 2 := rfl
      rw [e3]
      walk_at "rd"
      refine i2 (fun c2 => ?_) (fun c2 => ?_)
      · have le := (hs.iff _).mp c2
        walk_at "rd"
        exact ⟨_, (by omega : (lo + hi) / 2 - lo < hi - lo), lo, _, _, _, rfl, h1, le, rfl, sameT sm s6⟩
      · have nle : ¬ r ≤ (lo + hi) / 2 := fun z => c2 ((hs.iff _).mpr z)
        walk_at "rd"
        exact ⟨_, (by omega : hi - ((lo + hi) / 2 + 1) < hi - lo), (lo + hi) / 2 + 1, hi, _, _, rfl, by omega, h2, rfl, sameT sm s6⟩
    · have e2 : lo = r := by omega
      subst e2
      walk_at "rd"
      exact k H' sm
/-! ### a Bakery with its first days and its round -/
def bakR (te tr tp : Addr) (r : List (Str × V)) : List (Str × V) := ("early", .ref te) :: ("round", .ref tr) :: ("prefixes", .ref tp) :: r
theorem bakR_rst {te tr tp : Addr} {r : List (Str × V)} (h : Rst r) : Rst (bakR te tr tp r) := h
def PreAt (K : PySem.W.Frag) (H : Hp) (B : Bak) (k : Nat) (v : V) : Prop := ∃ p g, v = .ref p ∧ EffAt K H p g ∧ IsRun B B.last (k + 1) g
def Bak.earlyV (B : Bak) : List V := ((List.range (B.last + 1)).map B.st).map V.int
def BakM (K : PySem.W.Frag) (H : Hp) (a : Addr) (B : Bak) : Prop := B.Ok ∧ ∃ dx tb tw te tr tp r ps, H a = some (.ins (He.ga K "Bakery") dx (bakF tb tw B (bakR te tr tp r))) ∧ Rst r ∧ SqT K H tb (B.bakes.map V.int) ∧ SqT K H tw (B.dems.map V.int) ∧
  H te = some (.lst B.earlyV) ∧ H tp = some (.lst (.non :: ps)) ∧ ps.length = B.n ∧ ∀ (k : Nat) v, ps[k]? = some v → PreAt K H B k v
theorem BakM.c {K : PySem.W.Frag} {H : Hp} {a : Addr} {B : Bak} (h : BakM K H a B) : BakC K H a B := by
  obtain ⟨ok, dx, tb, tw, te, tr, tp, r, ps, hB, hq, hb, hw, _⟩ := h
  exact ⟨ok, dx, tb, tw, _, hB, bakR_rst hq, hb, hw⟩
theorem BakM.mono {K : PySem.W.Frag} {H H' : Hp} {a : Addr} {B : Bak} (h : BakM K H a B) (s : Same H H') : BakM K H' a B := by
  obtain ⟨ok, dx, tb, tw, te, tr, tp, r, ps, hB, hq, hb, hw, he, hp, hl, hps⟩ := h
  refine ⟨ok, dx, tb, tw, te, tr, tp, r, ps, s _ _ hB, hq, same_sqT s hb, same_sqT s hw, s _ _ he, s _ _ hp, hl, fun k v e => ?_⟩
  obtain ⟨p, g, z, q, i⟩ := hps k v e
  exact ⟨p, g, z, q.mono s, i⟩
theorem lkB_early {tb tw te tr tp : Addr} {B : Bak} {r : List (Str × V)} : (bakF tb tw B (bakR te tr tp r)).lookup ("early" : Str) = some (V.ref te) := by kernel_rfl
theorem lkB_round {tb tw te tr tp : Addr} {B : Bak} {r : List (Str × V)} : (bakF tb tw B (bakR te tr tp r)).lookup ("round" : Str) = some (V.ref tr) := by kernel_rfl
theorem lkB_prefixes {tb tw te tr tp : Addr} {B : Bak} {r : List (Str × V)} : (bakF tb tw B (bakR te tr tp r)).lookup ("prefixes" : Str) = some (V.ref tp) := by kernel_rfl
section
variable {K : PySem.W.Frag} {mg : Str → Option Value} (T : Tx K mg) {H : Hp} {a dx tb tw te tr tp : Addr} {B : Bak} {r : List (Str × V)} {Q : VK} (h : H a = some (.ins (He.ga K "Bakery") dx (bakF tb tw B (bakR te tr tp r))))
include T h
theorem fB_early (q : Q (.ref te) H) : FldR K "early" Q (.ref a) H := r_fldR h (fc_Bakery T) (fna_Bakery_early T) lkB_early q
theorem fB_round (q : Q (.ref tr) H) : FldR K "round" Q (.ref a) H := r_fldR h (fc_Bakery T) (fna_Bakery_round T) lkB_round q
theorem fB_prefixes (q : Q (.ref tp) H) : FldR K "prefixes" Q (.ref a) H := r_fldR h (fc_Bakery T) (fna_Bakery_prefixes T) lkB_prefixes q
end
local macro_rules | `(tactic| walk_at "fact") => `(tactic| with_reducible first
  | refine fB_early ‹_› (by assumption) ?_
  | refine fB_prefixes ‹_› (by assumption) ?_)
def spSta (K : PySem.W.Frag) : Sp := fun vs H Q _ => ∃ (a : Addr) (B : Bak) (d : Nat), vs = [.ref a, .int (d : Nat)] ∧ BakM K H a B ∧ ∀ H', Same H H' → Q (.int (B.st d)) H'
theorem ok_Bakery_start_of {P : Program} {w : World} {K : PySem.W.Frag} {mg : Str → Option Value} {base : Heap} (T : Tx K mg) : C8.Met P w K mg base 5 (He.ga K "Bakery") "start_of" (spSta K) [] := by
  have G_power := ok_power (P := P) (w := w) (base := base) T
  have G_Effect_end := ok_Effect_end (P := P) (w := w) (base := base) T
  refine met_of (d := d_Bakery_start_of) (C := "Bakery") (m := "start_of") (fn_Bakery_start_of T) rfl rfl (fc_Bakery T) (fme_Bakery_start_of T) sc_Bakery_start_of (fun _ _ _ _ _ _ us hl => match us, hl with | [_, _], _ => rfl) (fun vs H Q E h => ?_) (fun cdv A outer s H vs Q E hr h => ?_)
  · obtain ⟨a, B, d, rfl, ⟨ok, dx, tb, tw, te, tr, tp, r, ps, hB, hq, hb, hw, he, hp, hl, hps⟩, k⟩ := h
    rfl
  obtain ⟨a, B, d, rfl, ⟨ok, dx, tb, tw, te, tr, tp, r, ps, hB, hq, hb, hw, he, hp, hl, hps⟩, k⟩ := h
  refine ⟨_, (pss_cons (ps_set (i := 2) sc_Bakery_start_of.nd rfl (Or.inl rfl) (pe_op op_sub (pe_callB cq_len (by rfl) (fn_len T) bb_len (pa_cons (pe_fld (pv 0) rfl) pa_nil)) pe_int))
      (pss_cons (ps_if (pt_cmpR op_le (pv 1) (pv 2) (nomark _)) (pss_one (ps_ret (pe_ix ix_list (pe_fld (pv 0) rfl) (pv 1) (fun _ _ => rfl)))) pss_nil)
      (pss_cons (ps_par (i := 3) (j := 4) (by rfl) sc_Bakery_start_of.nd rfl rfl (by decide) rfl rfl (pa_cons (pe_op op_fdiv (pe_op op_sub (pv 1) (pv 2)) (pe_fld (pv 0) rfl)) (pa_cons (pe_op op_mod (pe_callTy cq_int (by rfl) (fn_int T) bb_int (pa_cons (pe_op op_sub (pv 1) (pv 2)) pa_nil)) (pe_fld (pv 0) rfl)) pa_nil)) (by rfl))
      (pss_cons (ps_set (i := 5) sc_Bakery_start_of.nd rfl (Or.inl rfl) (pe_ifExp (pt_cmpR op_gt (pv 3) pe_int (nomark _)) (C8.pe_mt G_Effect_end hr (by decide) (C8.pe_c G_power hr (by decide) (by rfl) (pa_cons (pe_ix ix_list (pe_fld (pv 0) rfl) (pe_un un_neg pe_int) (fun _ _ => rfl)) (pa_cons (pv 3) pa_nil))) (pa_cons (pe_ix ix_list (pe_fld (pv 0) rfl) (pv 2) (fun _ _ => rfl)) pa_nil)) (pe_ix ix_list (pe_fld (pv 0) rfl) (pv 2) (fun _ _ => rfl))))
      (pss_one (ps_ret (pe_ifExp (pt_cmpR op_gt (pv 4) pe_int (nomark _)) (C8.pe_mt G_Effect_end hr (by decide) (pe_ix ix_list (pe_fld (pv 0) rfl) (pv 4) (fun _ _ => rfl)) (pa_cons (pv 5) pa_nil)) (pv 5)))))))), ?_⟩
  try dsimp only [cxOf, Cx.nox, Cx.wish]
  repeat rw [st_cons]
  repeat rw [st_none]
  try rw [st_nn]
  have n0 := ok.n0
  have ev : ∀ j, j ≤ B.last → B.earlyV[j]? = some (V.int (B.st j)) := fun j hj => by
    unfold Bak.earlyV
    rw [List.getElem?_map, List.getElem?_map, List.getElem?_range (by omega)]
    rfl
  have el : ((B.earlyV.length : Nat) : Int) - 1 = (B.last : Nat) := by
    unfold Bak.earlyV
    simp
  walk_at "rd"
  refine r_lenL (sqL_at he) ?_
  walk_at "rd"
  rw [el]
  refine i2 (fun c => ?_) (fun c => ?_)
  · walk_at "rd"
    refine r_ixL (sqL_at he) rfl (ev d (by omega)) ?_
    exact k H sameR
  · obtain ⟨m, rfl⟩ : ∃ m, d = B.last + m := ⟨d - B.last, by omega⟩
    have em : ((B.last + m : Nat) : Int) - (B.last : Nat) = (m : Nat) := by omega
    have n1 := ok.n1
    walk_at "rd"
    rw [em]
    refine r_I ⟨by omega, by omega⟩ ?_
    walk_at "rd"
    rw [em]
    walk_at "rd"
    refine r_I (by omega) ?_
    walk_at "rd"
    have e1 : ((m : Nat) : Int) / (B.n : Nat) = ((m / B.n : Nat) : Int) := rfl
    have e2 : ((m : Nat) : Int) % (B.n : Nat) = ((m % B.n : Nat) : Int) := rfl
    have lt := Nat.mod_lt m n0
    have dm := Nat.div_add_mod m B.n
    rw [e1, e2]
    have key : ∀ H', Same H H' → Q (V.int (B.st (B.last + m))) H' := k
    have step : ∀ H', Same H H' → if decide (0 < ((m % B.n : Nat) : Int)) = true then
                  tMeth (He.ga K (Str.ofString "Effect")) (Str.ofString "end") (spEnd K) [] C8.E0
                      (tOp (rIxL K) (tFld K (tVar 0) (Str.ofString "prefixes")) (tVar 4)) (tCons (tVar 5) tNil)
          [some (.ref a), some (.int (B.last + m : Nat)), some (.int (B.last : Nat)), some (.int (m / B.n : Nat)), some (.int (m % B.n : Nat)), some (.int (B.st (B.last + m / B.n * B.n)))] H' Q else
                    tVar 5
          [some (.ref a), some (.int (B.last + m : Nat)), some (.int (B.last : Nat)), some (.int (m / B.n : Nat)), some (.int (m % B.n : Nat)), some (.int (B.st (B.last + m / B.n * B.n)))] H' Q := fun H' sm => by
      have hB2 := sm _ _ hB
      refine i2 (fun c => ?_) (fun c => ?_)
      · obtain ⟨v, hv⟩ : ∃ v, ps[m % B.n - 1]? = some v := ⟨_, List.getElem?_eq_getElem (by omega)⟩
        obtain ⟨p, g, rfl, ⟨dg, hg⟩, hr⟩ := hps _ _ hv
        have hg2 := sm _ _ hg
        walk_at "rd"
        refine r_ixL (sqL_at (sm _ _ hp)) rfl (j := m % B.n) (v := .ref p) ?_ ?_
        · have e3 : m % B.n = m % B.n - 1 + 1 := by omega
          rw [e3]
          exact hv
        walk_at "rd"
        have q := hr.later ok.last_ge (m / B.n)
        have e4 : g.fin (B.st (B.last + m / B.n * B.n)) = B.st (B.last + m) := by
          rw [q.fin, ← st_rf]
          congr 1
          rw [Nat.mul_comm] at dm
          omega
        rw [e4]
        exact key H' sm
      · walk_at "rd"
        have e4 : B.last + m / B.n * B.n = B.last + m := by
          rw [Nat.mul_comm] at dm
          omega
        rw [e4]
        exact key H' sm
    refine i2 (fun c2 => ?_) (fun c2 => ?_)
    · obtain ⟨v, hv⟩ : ∃ v, ps[B.n - 1]? = some v := ⟨_, List.getElem?_eq_getElem (by omega)⟩
      obtain ⟨p, g, rfl, ⟨dg, hg⟩, hr⟩ := hps _ _ hv
      walk_at "rd"
      refine r_ixLa (sqL_at hp) (v := .ref p) (at_m1 ?_) ?_
      · show (V.non :: ps)[ps.length + 1 - 1]? = _
        have e3 : ps.length + 1 - 1 = B.n - 1 + 1 := by omega
        rw [e3]
        exact hv
      walk_at "rd"
      refine use_pow hg (by omega) hr.ok fun p g2 H' sm ⟨dp, hp2⟩ hg2 => ?_
      have hB2 := sm _ _ hB
      walk_at "rd"
      refine r_ixL (sqL_at (sm _ _ he)) rfl (ev _ (Nat.le_refl _)) ?_
      walk_at "rd"
      have e3 : B.n - 1 + 1 = B.n := by omega
      rw [e3] at hr
      have e4 : g2.fin (B.st B.last) = B.st (B.last + m / B.n * B.n) := by
        rw [hg2.fin]
        exact (hr.rounds ok.last_ge (m / B.n)).1
      rw [e4]
      exact step H' sm
    · walk_at "rd"
      refine r_ixL (sqL_at he) rfl (ev _ (Nat.le_refl _)) ?_
      have e5 : m / B.n = 0 := Nat.le_zero.mp (Nat.not_lt.mp fun z => c2 (Int.ofNat_lt.mpr z))
      have z := step H sameR
      rw [e5, Nat.zero_mul] at z
      rw [e5]
      walk_at "rd"
      exact z
/-- the pair that tells when a bakery settles and its long run -/
def SetAt (K : PySem.W.Frag) (H : Hp) (B : Bak) (p : Addr) : Prop := ∃ (q : Addr) (D R : Nat), H p = some (.tup [.int (D : Nat), .ref q]) ∧ H q = some (.tup [.int (B.dems.sum - B.sm R B.n), .int (B.sm R B.n), .int (B.sh R B.n)]) ∧ Settled B D ∧ B.last ≤ R ∧ D ≤ R
theorem SetAt.mono {K : PySem.W.Frag} {H H' : Hp} {B : Bak} {p : Addr} (h : SetAt K H B p) (s : Same H H') : SetAt K H' B p :=
  let ⟨q, D, R, h1, h2, h3⟩ := h; ⟨q, D, R, s _ _ h1, s _ _ h2, h3⟩
def spSet (K : PySem.W.Frag) : Sp := fun vs H Q _ => ∃ (a : Addr) (B : Bak), vs = [.ref a] ∧ BakM K H a B ∧ ∀ p H', Same H H' → SetAt K H' B p → Q (.ref p) H'
theorem ok_settled_of {P : Program} {w : World} {K : PySem.W.Frag} {mg : Str → Option Value} {base : Heap} (T : Tx K mg) : C8.Cal P w K mg base 7 "settled_of" (spSet K) [] := by
  have G_rounds_to_settle := ok_rounds_to_settle (P := P) (w := w) (base := base) T
  have G_Bakery_start_of := ok_Bakery_start_of (P := P) (w := w) (base := base) T
  have G_Effect_missed := ok_Effect_missed (P := P) (w := w) (base := base) T
  have G_Effect_thrown := ok_Effect_thrown (P := P) (w := w) (base := base) T
  have G_Bakery_demands := ok_Bakery_demands (P := P) (w := w) (base := base) T
  refine cal_of (d := d_settled_of) (x := "settled_of") (fn_settled_of T) rfl rfl (fg_settled_of T) sc_settled_of (fun _ _ _ _ _ _ us hl => match us, hl with | [_], _ => rfl) (fun vs H Q E h => ?_) (fun cdv A outer s H vs Q E hr h => ?_)
  · obtain ⟨a, B, rfl, hM, k⟩ := h
    rfl
  obtain ⟨a, B, rfl, hM, k⟩ := h
  refine ⟨_, (pss_cons (ps_par (i := 1) (j := 2) (by rfl) sc_settled_of.nd rfl rfl (by decide) rfl rfl (pa_cons (pe_op op_sub (pe_callB cq_len (by rfl) (fn_len T) bb_len (pa_cons (pe_fld (pv 0) rfl) pa_nil)) pe_int) (pa_cons (pe_ix ix_list (pe_fld (pv 0) rfl) (pe_un un_neg pe_int) (fun _ _ => rfl)) pa_nil)) (by rfl))
      (pss_cons (ps_set (i := 3) sc_settled_of.nd rfl (Or.inl rfl) (pe_op op_add (pv 1) (pe_op op_mul (C8.pe_c G_rounds_to_settle hr (by decide) (by rfl) (pa_cons (pv 2) (pa_cons (pe_ix ix_list (pe_fld (pv 0) rfl) (pv 1) (fun _ _ => rfl)) pa_nil))) (pe_fld (pv 0) rfl))))
      (pss_cons (ps_set (i := 4) sc_settled_of.nd rfl (Or.inl rfl) (C8.pe_mt G_Bakery_start_of hr (by decide) (pv 0) (pa_cons (pv 3) pa_nil)))
      (pss_cons (ps_par (i := 5) (j := 6) (by rfl) sc_settled_of.nd rfl rfl (by decide) rfl rfl (pa_cons (C8.pe_mt G_Effect_missed hr (by decide) (pv 2) (pa_cons (pv 4) pa_nil)) (pa_cons (C8.pe_mt G_Effect_thrown hr (by decide) (pv 2) (pa_cons (pv 4) pa_nil)) pa_nil)) (by rfl))
      (pss_cons (ps_while PassesOwn.never (PW.pt (pw_and (pt_cmpR op_gt (pv 3) pe_int (nomark _)) (pw_and1 (pt_cmpR op_eqI (C8.pe_mt G_Bakery_start_of hr (by decide) (pv 0) (pa_cons (pe_op op_sub (pv 3) pe_int) pa_nil)) (C8.pe_mt G_Bakery_start_of hr (by decide) (pv 0) (pa_cons (pe_op op_add (pe_op op_sub (pv 3) pe_int) (pe_fld (pv 0) rfl)) pa_nil)) (nomark _))))) (pss_one (ps_aug (i := 3) sc_settled_of.nd rfl (Or.inl rfl) pe_int ip_sub)))
      (pss_one (ps_ret (pe_tup (pa_cons (pv 3) (pa_cons (pe_tup (pa_cons (pe_op op_sub (pe_callB (cr_sumT rfl) (by rfl) (fn_sum T) bb_sum (pa_cons (pe_pr G_Bakery_demands hr (by decide) (pv 0)) pa_nil)) (pv 5)) (pa_cons (pv 5) (pa_cons (pv 6) pa_nil)))) pa_nil)))))))))), ?_⟩
  try dsimp only [cxOf, Cx.nox, Cx.wish]
  repeat rw [st_cons]
  repeat rw [st_none]
  try rw [st_nn]
  obtain ⟨ok, dx, tb, tw, te, tr, tp, r, ps, hB, hq, hb, hw, he, hp, hl, hps⟩ := id hM
  have n0 := ok.n0
  have hq' : Rst (bakR te tr tp r) := bakR_rst hq
  have n1 := ok.n1
  have ev : ∀ j, j ≤ B.last → B.earlyV[j]? = some (V.int (B.st j)) := fun j hj => by
    unfold Bak.earlyV
    rw [List.getElem?_map, List.getElem?_map, List.getElem?_range (by omega)]
    rfl
  have el : ((B.earlyV.length : Nat) : Int) - 1 = (B.last : Nat) := by
    unfold Bak.earlyV
    simp
  obtain ⟨v, hv⟩ : ∃ v, ps[B.n - 1]? = some v := ⟨_, List.getElem?_eq_getElem (by omega)⟩
  obtain ⟨p, g, rfl, ⟨dg, hg⟩, hr⟩ := hps _ _ hv
  have e3 : B.n - 1 + 1 = B.n := by omega
  rw [e3] at hr
  obtain ⟨rr, hrr⟩ := settle_ex hr.ok (B.st B.last)
  have rd := hr.rounds ok.last_ge rr
  have later := hr.later ok.last_ge rr
  have fix : B.st (B.last + rr * B.n + B.n) = B.st (B.last + rr * B.n) := by
    have z := hrr.1
    rw [rd.1] at z
    rw [later.fin] at z
    rw [st_rf B (B.last + rr * B.n)]
    exact z
  have per := settles_from (Nat.le_trans ok.last_ge (Nat.le_add_right _ (rr * B.n))) fix
  walk_at "rd"
  refine r_lenL (sqL_at he) ?_
  walk_at "rd"
  rw [el]
  refine r_ixLa (sqL_at hp) (v := .ref p) (at_m1 ?_) ?_
  · show (V.non :: ps)[ps.length + 1 - 1]? = _
    have e4 : ps.length + 1 - 1 = B.n - 1 + 1 := by omega
    rw [e4]
    exact hv
  walk_at "rd"
  refine r_ixL (sqL_at he) rfl (ev _ (Nat.le_refl _)) ?_
  walk_at "rd"
  refine ⟨p, g, _, rr, rfl, ⟨dg, hg⟩, hr.ok, hrr, fun H1 s1 => ?_⟩
  have hB1 := s1 _ _ hB
  walk_at "rd"
  refine r_I (.inr (by omega)) ?_
  have e5 : ((B.last : Nat) : Int) + ((rr : Nat) : Int) * (B.n : Nat) = ((B.last + rr * B.n : Nat) : Int) := by
    rw [Int.natCast_add, Int.natCast_mul]
  walk_at "rd"
  rw [e5]
  refine ⟨a, B, _, rfl, hM.mono s1, fun H2 s2 => ?_⟩
  have s02 := sameT s1 s2
  have hg2 := s02 _ _ hg
  walk_at "rd"
  generalize hR : B.last + rr * B.n = R at *
  have em : g.mis (B.st R) = B.sm R B.n := by rw [later.mis, rm_sm]
  have et : g.thr (B.st R) = B.sh R B.n := by rw [later.thr, rt_sh]
  rw [em, et]
  refine ⟨fun m σ H' => ∃ (d : Nat), σ = [some (.ref a), some (.int (B.last : Nat)), some (.ref p), some (.int (d : Nat)), some (.int (B.st R)), some (.int (B.sm R B.n)), some (.int (B.sh R B.n))] ∧ d ≤ R ∧ m = d ∧ Same H H' ∧ ∀ j, d ≤ j → B.st (j + B.n) = B.st j, ⟨_, R, rfl, Nat.le_refl _, rfl, s02, per⟩, ?_⟩
  rintro d σ H' ⟨d', rfl, dR, rfl, sm, hd⟩
  have hB3 := sm _ _ hB
  have done : ∀ H', Same H H' → (0 < d → B.st (d - 1 + B.n) ≠ B.st (d - 1)) → tRet (tTup (tCons (tVar 3) (tCons (tTup (tCons (tOp (rI0 fun i j => V.int (i - j)) (tCB (rSumT K) (tCons (tProp (He.ga K "Bakery") (spDms K) [] C8.E0 (tVar 0)) tNil)) (tVar 5)) (tCons (tVar 5) (tCons (tVar 6) tNil)))) tNil)))
      { nx := fun x H' => Q V.non H', rt := Q } [some (.ref a), some (.int (B.last : Nat)), some (.ref p), some (.int (d : Nat)), some (.int (B.st R)), some (.int (B.sm R B.n)), some (.int (B.sh R B.n))] H' := fun H' sm hne => by
    have hB3 := sm _ _ hB
    walk_at "rd"
    refine r_propR hB3 ?_
    refine ⟨a, dx, tb, tw, B, _, rfl, hB3, ?_⟩
    walk_at "rd"
    refine r_sumT (same_sqT sm hw) ?_
    walk_at "rd"
    refine r_nwT (Nat.le_of_ble_eq_true rfl) fun q hq => ?_
    walk_at "rd"
    refine r_nwT (Nat.le_of_ble_eq_true rfl) fun q2 hq2 => ?_
    refine k _ _ (sameT sm (sameT (same_new hq) (same_new hq2))) ⟨q, d, R, upd_same, ?_, ⟨hd, hne⟩, by omega, dR⟩
    exact same_new hq2 _ _ upd_same
  walk_at "rd"
  refine i2 (fun c => ?_) (fun c => ?_)
  · walk_at "rd"
    have e6 : ((d : Nat) : Int) - 1 = ((d - 1 : Nat) : Int) := by omega
    rw [e6]
    refine ⟨a, B, _, rfl, hM.mono sm, fun H4 s4 => ?_⟩
    have hB4 := s4 _ _ hB3
    have sm4 := sameT sm s4
    walk_at "rd"
    have e7 : ((d : Nat) : Int) - 1 + (B.n : Nat) = ((d - 1 + B.n : Nat) : Int) := by omega
    rw [e7]
    refine ⟨a, B, _, rfl, hM.mono sm4, fun H5 s5 => ?_⟩
    have sm5 := sameT sm4 s5
    walk_at "rd"
    refine i2 (fun c2 => ?_) (fun c2 => ?_)
    · refine r_turn ?_
      walk_at "rd"
      rw [e6]
      refine ⟨_, (by omega : d - 1 < d), d - 1, rfl, by omega, rfl, sm5, fun j hj => ?_⟩
      by_cases ej : j = d - 1
      · subst ej
        exact c2.symm
      · exact hd j (by omega)
    · exact done H5 sm5 fun _ z => c2 z.symm
  · exact done H' sm fun z => absurd (Int.ofNat_lt.mpr z) c

end G57
end
section
set_option maxRecDepth 100000
set_option maxHeartbeats 4000000
namespace G57
open PySem PySem.Spec PyProof.Rows L2
/-! the walk's small steps: "rd" reads on as far as it can -/
local macro_rules | `(tactic| walk_at "fact") => `(tactic| fail)
local macro_rules | `(tactic| walk_at "rd1") => `(tactic| with_reducible first
  | (refine v_id ?_; first | refine r_var_0 ?_ | refine r_var_1 ?_ | refine r_var_2 ?_ | refine r_var_3 ?_ | refine r_var_4 ?_ | refine r_var_5 ?_ | refine r_var_6 ?_ | refine r_var_7 ?_ | refine r_var_8 ?_ | refine r_var_9 ?_ | refine r_var_10 ?_ | refine r_var_11 ?_ | refine r_var_12 ?_ | refine r_var_13 ?_ | refine r_var_14 ?_ | refine r_var_15 ?_ | refine r_var_16 ?_ | refine r_var_17 ?_ | refine r_var_18 ?_ | refine r_var_19 ?_ | refine r_var_20 ?_ | refine r_var_21 ?_ | refine r_var_22 ?_ | refine r_var_23 ?_ | refine r_var_24 ?_ | refine r_var_25 ?_ | refine r_var_26 ?_ | refine r_var_27 ?_ | refine r_var rfl ?_)
  | (refine s_id ?_; first | refine r_set_0 ?_ | refine r_set_1 ?_ | refine r_set_2 ?_ | refine r_set_3 ?_ | refine r_set_4 ?_ | refine r_set_5 ?_ | refine r_set_6 ?_ | refine r_set_7 ?_ | refine r_set_8 ?_ | refine r_set_9 ?_ | refine r_set_10 ?_ | refine r_set_11 ?_ | refine r_set_12 ?_ | refine r_set_13 ?_ | refine r_set_14 ?_ | refine r_set_15 ?_ | refine r_set_16 ?_ | refine r_set_17 ?_ | refine r_set_18 ?_ | refine r_set_19 ?_ | refine r_set_20 ?_ | refine r_set_21 ?_ | refine r_set_22 ?_ | refine r_set_23 ?_ | refine r_set_24 ?_ | refine r_set_25 ?_ | refine r_set_26 ?_ | refine r_set_27 ?_ | refine r_setU ?_)
  | refine r_c ?_
  | refine r_op ?_
  | refine r_I0 ?_
  | refine r_seq ?_
  | refine r_asg ?_
  | refine r_fld ?_
  | refine r_nil ?_
  | refine r_cons ?_
  | refine r_cb ?_
  | refine r_max ?_
  | refine r_min ?_
  | refine r_ret ?_
  | refine r_met ?_
  | refine r_call ?_
  | refine r_B ?_
  | refine r_test ?_
  | refine r_b' ?_
  | refine r_ifS ?_
  | refine r_if ?_
  | refine r_par ?_
  | refine r_par2 ?_
  | refine r_drop ?_
  | refine r_next ?_
  | refine r_make ?_
  | refine r_sfld ?_
  | refine r_int1 ?_
  | refine r_intb ?_
  | refine r_and ?_
  | refine r_or ?_
  | refine r_not ?_
  | refine r_chain ?_
  | refine r_isN ?_
  | refine r_notN ?_
  | refine r_un ?_
  | refine r_U ?_
  | refine r_par3 ?_
  | refine r_par33 ?_
  | refine r_tup ?_
  | refine r_lst ?_
  | refine r_prop ?_
  | refine r_bm ?_
  | refine r_bm0 ?_
  | refine r_andV ?_
  | refine r_orV ?_
  | refine r_notV ?_
  | refine r_asgG ?_
  | refine r_gname ?_
  | refine r_gcons ?_
  | refine r_gnil ?_
  | refine r_rng1 ?_
  | refine r_rng2 ?_
  | refine r_for ?_
  | refine r_lc1 ?_
  | refine r_lc2 ?_
  | refine r_lc3 ?_
  | refine r_lc ?_
  | refine r_while ?_
  | refine r_rev ?_
  | refine r_sl ?_
  | refine r_augS ?_
  | refine r_iL ?_
  | refine r_iT ?_
  | refine r_iE ?_
  | refine r_ipI ?_
  | refine r_aug rfl ?_
  | refine r_cval ?_
  | refine r_turnN ?_
  | refine iT ?_
  | refine iNT ?_
  | refine iNF ?_
  | refine iOF ?_
  | refine iF ?_
  | refine r_part ?_
  | refine r_pi ?_
  | refine r_gsub ?_
  | refine r_noPart ?_)
local macro_rules | `(tactic| walk_at "rd") => `(tactic| (repeat (first | walk_at "rd1" | walk_at "fact")))
local macro_rules | `(tactic| walk_at "plen") => `(tactic| (repeat (first | decide | refine putF_lt ?_)))
local macro_rules | `(tactic| walk_at "rs") => `(tactic| (repeat ((fail_if_success (with_reducible refine r_stop ?_)); (first | walk_at "rd1" | walk_at "fact"))))
local macro_rules | `(tactic| walk_at "fact") => `(tactic| with_reducible first
  | refine mE (by assumption) (mlk_end _) ?_
  | refine mE (by assumption) (mlk_missed _) ?_
  | refine mE (by assumption) (mlk_thrown _) ?_
  | refine mE (by assumption) (mlk_followed _) ?_
  | refine use_end (by assumption) ?_
  | refine use_mis (by assumption) ?_
  | refine use_thr (by assumption) ?_
  | refine use_fol (by assumption) (by assumption) ?_
  | refine fB_baking ‹_› (by assumption) ?_
  | refine fB_wishes ‹_› (by assumption) ?_
  | refine fB_days_kept ‹_› (by assumption) ?_
  | refine fB_size ‹_› (by assumption) ?_
  | refine fB_early ‹_› (by assumption) ?_
  | refine fB_round ‹_› (by assumption) ?_
  | refine fB_prefixes ‹_› (by assumption) ?_
  | refine mB (by assumption) (by assumption) (by decide) ?_)
/-- a Bakery, whole; te, tp its two lists -/
def BakAtF (K : PySem.W.Frag) (H : Hp) (a : Addr) (B : Bak) (te tp : Addr) : Prop := B.Ok ∧ ∃ dx tb tw tr ts ps, H a = some (.ins (He.ga K "Bakery") dx (bakF tb tw B (bakR te tr tp [("settled", .ref ts)]))) ∧ SqT K H tb (B.bakes.map V.int) ∧ SqT K H tw (B.dems.map V.int) ∧
  H te = some (.lst B.earlyV) ∧ H tp = some (.lst (.non :: ps)) ∧ ps.length = B.n ∧ (∀ (k : Nat) v, ps[k]? = some v → PreAt K H B k v) ∧ SetAt K H B ts
def BakAt (K : PySem.W.Frag) (H : Hp) (a : Addr) (B : Bak) : Prop := B.Ok ∧ ∃ dx tb tw te tr tp ts ps, H a = some (.ins (He.ga K "Bakery") dx (bakF tb tw B (bakR te tr tp [("settled", .ref ts)]))) ∧ SqT K H tb (B.bakes.map V.int) ∧ SqT K H tw (B.dems.map V.int) ∧
  H te = some (.lst B.earlyV) ∧ H tp = some (.lst (.non :: ps)) ∧ ps.length = B.n ∧ (∀ (k : Nat) v, ps[k]? = some v → PreAt K H B k v) ∧ SetAt K H B ts
theorem BakAtF.at {K : PySem.W.Frag} {H : Hp} {a : Addr} {B : Bak} {te tp : Addr} (h : BakAtF K H a B te tp) : BakAt K H a B := by
  obtain ⟨ok, dx, tb, tw, tr, ts, ps, h⟩ := h
  exact ⟨ok, dx, tb, tw, te, tr, tp, ts, ps, h⟩
theorem BakAtF.mono {K : PySem.W.Frag} {H H' : Hp} {a : Addr} {B : Bak} {te tp : Addr} (h : BakAtF K H a B te tp) (s : Same H H') : BakAtF K H' a B te tp := by
  obtain ⟨ok, dx, tb, tw, tr, ts, ps, hB, hb, hw, he, hp, hl, hps, hs⟩ := h
  refine ⟨ok, dx, tb, tw, tr, ts, ps, s _ _ hB, same_sqT s hb, same_sqT s hw, s _ _ he, s _ _ hp, hl, fun k v e => ?_, hs.mono s⟩
  obtain ⟨p, g, z, q, i⟩ := hps k v e
  exact ⟨p, g, z, q.mono s, i⟩
/-- a Bakery outlives draws -/
theorem BakAtF.sd {K : PySem.W.Frag} {H H' : Hp} {a : Addr} {B : Bak} {te tp h l : Addr} (b : BakAtF K H a B te tp) (s : SameD h l H H') (hat : Hat H h l) (n1 : te ≠ h ∧ te ≠ l) (n2 : tp ≠ h ∧ tp ≠ l) : BakAtF K H' a B te tp := by
  obtain ⟨ok, dx, tb, tw, tr, ts, ps, hB, hb, hw, he, hp, hl, hps, q, D, R, h1, h2, h3⟩ := b
  have ins : ∀ {p C dx : Addr} {fs : List (Str × V)}, H p = some (.ins C dx fs) → H' p = some (.ins C dx fs) := fun {p C dx fs} e => by
    obtain ⟨m, c, ys, e1, e2, _⟩ := hat
    refine s p _ (fun z => ?_) (fun z => ?_) e
    · subst z
      rw [e] at e1
      cases e1
    · subst z
      rw [e] at e2
      cases e2
  refine ⟨ok, dx, tb, tw, tr, ts, ps, ins hB, s.sqT hat hb, s.sqT hat hw, s _ _ n1.1 n1.2 he, s _ _ n2.1 n2.2 hp, hl, fun k v e => ?_, q, D, R, s.tup hat h1, s.tup hat h2, h3⟩
  obtain ⟨p, g, z, ⟨dg, q⟩, i⟩ := hps k v e
  exact ⟨p, g, z, ⟨dg, ins q⟩, i⟩
theorem rst_settled {ts : Addr} : Rst [("settled", V.ref ts)] := by
  show (bakMs.all fun m => (List.lookup m [(("settled" : Str), V.ref ts)]).isNone) = true
  kernel_rfl
theorem BakAt.m {K : PySem.W.Frag} {H : Hp} {a : Addr} {B : Bak} (h : BakAt K H a B) : BakM K H a B := by
  obtain ⟨ok, dx, tb, tw, te, tr, tp, ts, ps, hB, hb, hw, he, hp, hl, hps, _⟩ := h
  exact ⟨ok, dx, tb, tw, te, tr, tp, _, ps, hB, rst_settled, hb, hw, he, hp, hl, hps⟩
theorem BakAt.mono {K : PySem.W.Frag} {H H' : Hp} {a : Addr} {B : Bak} (h : BakAt K H a B) (s : Same H H') : BakAt K H' a B := by
  obtain ⟨ok, dx, tb, tw, te, tr, tp, ts, ps, hB, hb, hw, he, hp, hl, hps, hs⟩ := h
  refine ⟨ok, dx, tb, tw, te, tr, tp, ts, ps, s _ _ hB, same_sqT s hb, same_sqT s hw, s _ _ he, s _ _ hp, hl, fun k v e => ?_, hs.mono s⟩
  obtain ⟨p, g, z, q, i⟩ := hps k v e
  exact ⟨p, g, z, q.mono s, i⟩
theorem eff_ne {K : PySem.W.Frag} {H : Hp} {q p dx tb tw C : Addr} {B : Bak} {r : List (Str × V)} {e : Eff} (h : EffAt K H q e) (hp : H p = some (.ins C dx (bakF tb tw B r))) : q ≠ p := fun z => by
  obtain ⟨dq, h⟩ := h
  subst z
  rw [hp] at h
  have z2 := congrArg (fun o => match o with | some (HO.ins _ _ ((f, _) :: _)) => f | _ => "") h
  exact absurd z2 (by show ¬ (("baking" : Str) = ("shift" : Str)); decide)
theorem tup_ne {H : Hp} {q p dx C : Addr} {fs : List (Str × V)} {xs : List V} (h : H q = some (.tup xs)) (hp : H p = some (.ins C dx fs)) : q ≠ p := fun z => by
  subst z
  rw [hp] at h
  cases h
def spBakInit (K : PySem.W.Frag) : Sp := fun vs H Q _ => ∃ (p dx tb tw : Addr) (B : Bak), vs = [.ref p, .ref tb, .ref tw, .int B.life] ∧ H p = some (.ins (He.ga K "Bakery") dx []) ∧ SqT K H tb (B.bakes.map V.int) ∧ SqT K H tw (B.dems.map V.int) ∧ B.Ok ∧
  ∀ H' te tp, SameX p H H' → H te = none → H tp = none → BakAtF K H' p B te tp → Q .non H'
theorem sqT_sameX {K : PySem.W.Frag} {H H' : Hp} {p dx C : Addr} {fs : List (Str × V)} {a : Addr} {xs : List V} (hp : H p = some (.ins C dx fs)) (s : SameX p H H') (h : SqT K H a xs) : SqT K H' a xs := by
  have ne : ∀ o : HO, H a = some o → (∀ C dx fs, o ≠ .ins C dx fs) → a ≠ p := fun o e n z => by
    subst z
    rw [hp] at e
    exact n _ _ _ (Option.some.inj e).symm
  rcases h with (h | ⟨o, h⟩) | h
  · exact .inl (.inl (s _ _ (ne _ h fun _ _ _ z => by cases z) h))
  · exact .inl (.inr ⟨o, s _ _ (ne _ h fun _ _ _ z => by cases z) h⟩)
  · exact .inr h
theorem lkB_early1 {tb tw te : Addr} {B : Bak} {r : List (Str × V)} : (bakF tb tw B (("early", .ref te) :: r)).lookup ("early" : Str) = some (V.ref te) := by kernel_rfl
theorem fB_early1 {K : PySem.W.Frag} {mg : Str → Option Value} (T : Tx K mg) {H : Hp} {a dx tb tw te : Addr} {B : Bak} {r : List (Str × V)} {Q : VK} (h : H a = some (.ins (He.ga K "Bakery") dx (bakF tb tw B (("early", .ref te) :: r)))) (q : Q (.ref te) H) : FldR K "early" Q (.ref a) H := r_fldR h (fc_Bakery T) (fna_Bakery_early T) lkB_early1 q
theorem rst_0 : Rst [] := rfl
theorem rst_1 {te : Addr} : Rst [("early", V.ref te)] := by
  show (bakMs.all fun m => (List.lookup m [(("early" : Str), V.ref te)]).isNone) = true
  kernel_rfl
theorem rst_2 {te tr : Addr} : Rst [("early", V.ref te), ("round", V.ref tr)] := by
  show (bakMs.all fun m => (List.lookup m [(("early" : Str), V.ref te), (("round" : Str), V.ref tr)]).isNone) = true
  kernel_rfl
def Bak.earlyN (B : Bak) (j : Nat) : List V := ((List.range (j + 1)).map B.st).map V.int
theorem earlyN_len (B : Bak) (j : Nat) : (B.earlyN j).length = j + 1 := by
  unfold Bak.earlyN
  simp
theorem earlyN_next (B : Bak) (j : Nat) : B.earlyN j ++ [V.int (B.st (j + 1))] = B.earlyN (j + 1) := by
  unfold Bak.earlyN
  rw [List.range_succ (n := j + 1)]
  simp
theorem earlyN_at (B : Bak) (j : Nat) : (B.earlyN j)[(B.earlyN j).length - 1]? = some (V.int (B.st j)) := by
  rw [earlyN_len]
  unfold Bak.earlyN
  simp
local macro_rules | `(tactic| walk_at "fact") => `(tactic| with_reducible first
  | refine fB_early1 ‹_› (by assumption) ?_
  | refine r_tyL (sqL_at (by assumption)) ?_
  | refine r_lenL (sqL_at (by assumption)) ?_)
theorem ok_Bakery_init {P : Program} {w : World} {K : PySem.W.Frag} {mg : Str → Option Value} {base : Heap} (T : Tx K mg) : C8.Mak P w K mg base 8 "Bakery" (He.ga K "Bakery") (spBakInit K) [] := by
  have G_validate_amounts := ok_validate_amounts (P := P) (w := w) (base := base) T
  have G_Bakery_effect_of := ok_Bakery_effect_of (P := P) (w := w) (base := base) T
  have G_Effect_end := ok_Effect_end (P := P) (w := w) (base := base) T
  have G_Effect_followed := ok_Effect_followed (P := P) (w := w) (base := base) T
  have G_settled_of := ok_settled_of (P := P) (w := w) (base := base) T
  refine mak_of (d := d_Bakery_init) (C := "Bakery") (fn_Bakery_init T) rfl rfl (fg_Bakery T) (fmk_Bakery T) sc_Bakery_init (fun _ _ _ _ _ _ us hl => match us, hl with | [_, _, _, _], _ => rfl) (fun vs H Q E h => ?_) (fun cdv A outer s H vs Q E hr h => ?_)
  · obtain ⟨p, dx, tb, tw, B, rfl, hp, hb, hw, ok, k⟩ := h
    rfl
  obtain ⟨p, dx, tb, tw, B, rfl, hp, hb, hw, ok, k⟩ := h
  refine ⟨_, (pss_cons (ps_expr (C8.pe_c G_validate_amounts hr (by decide) (by rfl) (pa_cons pe_str (pa_cons (pv 1) pa_nil))))
      (pss_cons (ps_if (pt_cmpR (op_eqD hr.units) (pv 1) (pe_tup pa_nil) (nomark _)) (pss_one ps_never) pss_nil)
      (pss_cons (ps_expr (C8.pe_c G_validate_amounts hr (by decide) (by rfl) (pa_cons pe_str (pa_cons (pv 2) pa_nil))))
      (pss_cons (ps_if (pt_cmpR op_neI (pe_callB cq_len (by rfl) (fn_len T) bb_len (pa_cons (pv 2) pa_nil)) (pe_callB cq_len (by rfl) (fn_len T) bb_len (pa_cons (pv 1) pa_nil)) (nomark _)) (pss_one ps_never) pss_nil)
      (pss_cons (ps_if (pt_not (pt_chain op_le op_le pe_int (pv 3) (ClX.pe_cval (pe_glob (v := .ref (He.ga K "Bakery")) rfl (fg_Bakery T) rfl)))) (pss_one ps_never) pss_nil)
      (pss_cons (ps_fld (pv 0) (pv 1) rfl)
      (pss_cons (ps_fld (pv 0) (pv 2) rfl)
      (pss_cons (ps_fld (pv 0) (pv 3) rfl)
      (pss_cons (ps_fld (pv 0) (pe_callB cq_len (by rfl) (fn_len T) bb_len (pa_cons (pv 1) pa_nil)) rfl)
      (pss_cons (ps_fld (pv 0) (pe_lst (pa_cons pe_int pa_nil)) rfl)
      (pss_cons (ps_while PassesOwn.never (PW.pt (pw_or (pt_cmpR op_lt (pe_callB cq_len (by rfl) (fn_len T) bb_len (pa_cons (pe_fld (pv 0) rfl) pa_nil)) (pv 3) (nomark _)) (pw_or1 (pt_cmpR op_neI (pe_op op_mod (pe_callTy cq_int (by rfl) (fn_int T) bb_int (pa_cons (pe_op op_sub (pe_callB cq_len (by rfl) (fn_len T) bb_len (pa_cons (pe_fld (pv 0) rfl) pa_nil)) pe_int) pa_nil)) (pe_fld (pv 0) rfl)) pe_int (nomark _))))) (pss_one (ps_expr (pe_bm PySem.F.plainAttrs_list PySem.F.slot_list_append PySem.F.type_list_append mt_append (pe_fld (pv 0) rfl) (pa_cons (C8.pe_mt G_Effect_end hr (by decide) (C8.pe_mt G_Bakery_effect_of hr (by decide) (pv 0) (pa_cons (pe_op op_sub (pe_callB cq_len (by rfl) (fn_len T) bb_len (pa_cons (pe_fld (pv 0) rfl) pa_nil)) pe_int) pa_nil)) (pa_cons (pe_ix ix_list (pe_fld (pv 0) rfl) (pe_un un_neg pe_int) (fun _ _ => rfl)) pa_nil)) pa_nil)))))
      (pss_cons (ps_fld (pv 0) (pe_lc (own := [("day", 4)]) (by rfl) sc_Bakery_init.nd (pi_range1 (by rfl) (fn_range T) (pa_cons (pe_fld (pv 0) rfl) pa_nil)) (blkOk_by (own := [("day", 4)]) (N := ["self", "bakes", "demands", "life", "day", "effect", "last"]) (sc := defScope s_Bakery_init) (by decide +kernel)) (fun _ _ _ _ _ => (pg_name (i := 4) sc_Bakery_init.nd rfl (Or.inl rfl))) (fun _ _ _ _ _ => pts_nil) (fun _ _ _ _ _ => by exact (C8.pe_mt G_Bakery_effect_of hr (by decide) (pv 0) (pa_cons (pe_op op_add (pe_op op_sub (pe_callB (callK (K := K) rfl cq_len) (by rfl) (fn_len T) bb_len (pa_cons (pe_fldK (K := K) rfl (pv 0) rfl) pa_nil)) pe_int) (pv 4)) pa_nil)))) rfl)
      (pss_cons (ps_fld (pv 0) (pe_lst (pa_cons pe_non pa_nil)) rfl)
      (pss_cons (ps_for PassesOwn.never rfl (pi_list (pe_fld (pv 0) rfl)) (pg_name (i := 5) sc_Bakery_init.nd rfl (Or.inl rfl)) (pss_cons (ps_set (i := 6) sc_Bakery_init.nd rfl (Or.inl rfl) (pe_ix ix_list (pe_fld (pv 0) rfl) (pe_un un_neg pe_int) (fun _ _ => rfl)))
      (pss_one (ps_expr (pe_bm PySem.F.plainAttrs_list PySem.F.slot_list_append PySem.F.type_list_append mt_append (pe_fld (pv 0) rfl) (pa_cons (pe_ifExp (pt_cmp (pc_isN (pv 6))) (pv 5) (C8.pe_mt G_Effect_followed hr (by decide) (pv 6) (pa_cons (pv 5) pa_nil))) pa_nil))))))
      (pss_one (ps_fld (pv 0) (C8.pe_c G_settled_of hr (by decide) (by rfl) (pa_cons (pv 0) pa_nil)) rfl)))))))))))))))), ?_⟩
  try dsimp only [cxOf, Cx.nox, Cx.wish]
  repeat rw [st_cons]
  repeat rw [st_none]
  try rw [st_nn]
  have n0 := ok.n0
  have n1 := ok.n1
  walk_at "rd"
  refine ⟨_, tb, B.bakes, rfl, hb, n1, ok.b, fun H1 s1 => ?_⟩
  walk_at "rd"
  refine r_nwT (Nat.le_of_ble_eq_true rfl) fun q hq => ?_
  have s2 := sameT s1 (same_new hq (o := .tup []))
  generalize hH2 : upd H1 q (.tup []) = H2 at s2 ⊢
  refine r_eqTI (ns := B.bakes) (ms := []) (same_sqT s2 hb) (sqT_at (by rw [← hH2]; exact upd_same)) ?_
  walk_at "rd"
  have nn : ¬ B.bakes = [] := fun z => by
    unfold Bak.n at n0
    rw [z] at n0
    exact absurd n0 (by decide)
  refine iN nn ?_
  walk_at "rd"
  refine ⟨_, tw, B.dems, rfl, same_sqT s2 hw, by rw [ok.m]; exact n1, ok.d, fun H3 s3 => ?_⟩
  have s03 := sameT s2 s3
  clear hH2
  walk_at "rd"
  refine r_lenT (same_sqT s03 hw) ?_
  walk_at "rd"
  refine r_lenT (same_sqT s03 hb) ?_
  walk_at "rd"
  refine iN' (by rw [List.length_map, List.length_map, ok.m]; rfl) ?_
  walk_at "rd"
  refine iY ok.l0 ?_
  walk_at "rd"
  refine r_cvalR (fcv_Bakery_MAX_LIFE T) ?_
  walk_at "rd"
  refine iN' ok.l1 ?_
  walk_at "rd"
  have hp3 := s03 _ _ hp
  have hb3 := same_sqT s03 hb
  have hw3 := same_sqT s03 hw
  have x3 : SameX p H H3 := SameX.of s03
  refine r_sfldR hp3 (fc_Bakery T) (fna_Bakery_baking T) (by decide) ?_
  walk_at "rd"
  refine r_sfldU (fc_Bakery T) (fna_Bakery_wishes T) (by walk_at "plen") ?_
  walk_at "rd"
  refine r_sfldU (fc_Bakery T) (fna_Bakery_days_kept T) (by walk_at "plen") ?_
  walk_at "rd"
  refine r_lenT (sqT_sameX hp3 (SameX.at (SameX.of sameR)) hb3) ?_
  walk_at "rd"
  refine r_sfldU (fc_Bakery T) (fna_Bakery_size T) (by walk_at "plen") ?_
  walk_at "rd"
  have e4 : putF "size" (V.int ((B.bakes.map V.int).length : Nat)) (putF "days_kept" (.int B.life) (putF "wishes" (.ref tw) (putF "baking" (.ref tb) []))) = bakF tb tw B [] := by
    rw [List.length_map]
    kernel_rfl
  rw [e4]
  have x4 : SameX p H (upd H3 p (.ins (He.ga K "Bakery") dx (bakF tb tw B []))) := x3.at
  have hp4 : (upd H3 p (.ins (He.ga K "Bakery") dx (bakF tb tw B []))) p = some (.ins (He.ga K "Bakery") dx (bakF tb tw B [])) := upd_same
  generalize upd H3 p (.ins (He.ga K "Bakery") dx (bakF tb tw B [])) = H4 at x4 hp4 ⊢
  refine r_nwL (Nat.le_of_ble_eq_true rfl) fun te hte => ?_
  have ntp : te ≠ p := fun z => by
    subst z
    rw [hp4] at hte
    cases hte
  have hte0 : H te = none := x4.none ntp hte
  have hp5 : (upd H4 te (.lst [.int 0])) p = some (.ins (He.ga K "Bakery") dx (bakF tb tw B [])) := by
    rw [upd_ne ntp.symm]
    exact hp4
  have x5 : SameX p H (upd H4 te (.lst [.int 0])) := x4.mut hte0
  have h5 : (upd H4 te (.lst [.int 0])) te = some (.lst (B.earlyN 0)) := upd_same
  generalize upd H4 te (.lst [.int 0]) = H5 at x5 hp5 h5 ⊢
  walk_at "rd"
  refine r_sfldR hp5 (fc_Bakery T) (fna_Bakery_early T) (by show 4 < 1000; decide) ?_
  have e6 : putF "early" (V.ref te) (bakF tb tw B []) = bakF tb tw B [("early", .ref te)] := by kernel_rfl
  rw [e6]
  walk_at "rd"
  refine ⟨fun m σ H' => ∃ j, j ≤ B.last ∧ m = B.last - j ∧ σ = [some (.ref p), some (.ref tb), some (.ref tw), some (.int B.life), none, none, none] ∧ H' p = some (.ins (He.ga K "Bakery") dx (bakF tb tw B [("early", .ref te)])) ∧ H' te = some (.lst (B.earlyN j)) ∧ SameX p H H', ⟨_, 0, Nat.zero_le _, rfl, rfl, upd_same, by rw [upd_ne ntp]; exact h5, x5.at⟩, ?_⟩
  rintro m σ H' ⟨j, hj, rfl, rfl, hpJ, hteJ, xJ⟩
  have hr1 := rst_1 (te := te)
  have hbJ := sqT_sameX hp xJ hb
  have hwJ := sqT_sameX hp xJ hw
  have el := earlyN_len B j
  have lg := ok.last_ge
  have l0 := ok.l0
  have l1 := ok.l1
  walk_at "rd"
  rw [el]
  by_cases ej : j = B.last
  · subst ej
    refine iN (by omega) ?_
    walk_at "rd"
    rw [el]
    have e7 : ((B.last + 1 : Nat) : Int) - 1 = (B.last : Nat) := by omega
    rw [e7]
    refine r_I (by omega) ?_
    walk_at "rd"
    have e8 : ((B.last : Nat) : Int) % (B.n : Nat) = 0 := by
      have z := ok.last_mod
      omega
    refine iN' e8 ?_
    walk_at "rd"
    refine ⟨_, rfl, by omega, by omega, ?_⟩
    refine lcN_range (fun i v H' => ∃ q, v = .ref q ∧ EffAt K H' q (B.eff ((B.last + i : Nat) : Int))) (fun _ _ => Stab.ex fun _ => Stab.and Stab.triv Stab.eff) (Nat.le_trans (show _ ≤ 100 by omega) (by decide)) (fun _ => rfl) (fun i H' Z hi sm z => ?_) fun tr H6 ys htr sm htr6 len hys => ?_
    · have hpI := sm _ _ hpJ
      have hteI := sm _ _ hteJ
      walk_at "rd"
      rw [el, e7, Int.zero_add]
      refine ⟨p, B, ((B.last : Nat) : Int) + (i : Nat), rfl, ⟨ok, dx, tb, tw, _, hpI, hr1, same_sqT sm hbJ, same_sqT sm hwJ⟩, fun q H2 s2 hq2 => ?_⟩
      exact z _ _ s2 ⟨q, rfl, hq2⟩
    have hp6 := sm _ _ hpJ
    have hte6 := sm _ _ hteJ
    have x6 := xJ.tr sm
    have ntr : tr ≠ p := fun z => by
      subst z
      rw [hpJ] at htr
      cases htr
    have hys0 : ∀ (i : Nat) (y : V), ys[i]? = some y → ∃ q, y = .ref q ∧ q ≠ p ∧ EffAt K H6 q (B.eff ((B.last + i : Nat) : Int)) := fun i y e => by
      obtain ⟨q, e1, dq, e2⟩ := hys i y e
      refine ⟨q, e1, fun z => ?_, dq, e2⟩
      subst z
      rw [hp6] at e2
      have z2 := congrArg (fun o => match o with | some (HO.ins _ _ ((f, _) :: _)) => f | _ => "") e2
      exact absurd z2 (by show ¬ (("baking" : Str) = ("shift" : Str)); decide)
    walk_at "rd"
    refine r_sfldR hp6 (fc_Bakery T) (fna_Bakery_round T) (by show 5 < 1000; decide) ?_
    have e9 : putF "round" (V.ref tr) (bakF tb tw B [("early", .ref te)]) = bakF tb tw B [("early", .ref te), ("round", .ref tr)] := by kernel_rfl
    rw [e9]
    have nte : te ≠ tr := fun z => by
      subst z
      rw [hteJ] at htr
      cases htr
    have hp7 : (upd H6 p (.ins (He.ga K "Bakery") dx (bakF tb tw B [("early", .ref te), ("round", .ref tr)]))) p = some (.ins (He.ga K "Bakery") dx (bakF tb tw B [("early", .ref te), ("round", .ref tr)])) := upd_same
    have x7 : SameX p H (upd H6 p (.ins (He.ga K "Bakery") dx (bakF tb tw B [("early", .ref te), ("round", .ref tr)]))) := x6.at
    have hte7 : (upd H6 p (.ins (He.ga K "Bakery") dx (bakF tb tw B [("early", .ref te), ("round", .ref tr)]))) te = some (.lst (B.earlyN B.last)) := by
      rw [upd_ne ntp]
      exact hte6
    have htr7 : (upd H6 p (.ins (He.ga K "Bakery") dx (bakF tb tw B [("early", .ref te), ("round", .ref tr)]))) tr = some (.lst ys) := by
      rw [upd_ne ntr]
      exact htr6
    have hys7 : ∀ (i : Nat) (y : V), ys[i]? = some y → ∃ q, y = .ref q ∧ q ≠ p ∧ EffAt K (upd H6 p (.ins (He.ga K "Bakery") dx (bakF tb tw B [("early", .ref te), ("round", .ref tr)]))) q (B.eff ((B.last + i : Nat) : Int)) := fun i y e => by
      obtain ⟨q, e1, nq, dq, e2⟩ := hys0 i y e
      exact ⟨q, e1, nq, dq, by rw [upd_ne nq]; exact e2⟩
    generalize upd H6 p (.ins (He.ga K "Bakery") dx (bakF tb tw B [("early", .ref te), ("round", .ref tr)])) = H7 at hp7 x7 hte7 htr7 hys7 ⊢
    walk_at "rd"
    refine r_nwL (Nat.le_of_ble_eq_true rfl) fun tp htp => ?_
    have ntp2 : tp ≠ p := fun z => by
      subst z
      rw [hp7] at htp
      cases htp
    have htp0 : H tp = none := x7.none ntp2 htp
    have s8 : Same H7 (upd H7 tp (.lst [.non])) := same_new htp
    have htp8 : (upd H7 tp (.lst [.non])) tp = some (.lst [.non]) := upd_same
    generalize upd H7 tp (.lst [.non]) = H8 at s8 htp8 ⊢
    walk_at "rd"
    refine r_sfldR (s8 _ _ hp7) (fc_Bakery T) (fna_Bakery_prefixes T) (by show 6 < 1000; decide) ?_
    have e10 : putF "prefixes" (V.ref tp) (bakF tb tw B [("early", .ref te), ("round", .ref tr)]) = bakF tb tw B (bakR te tr tp []) := by kernel_rfl
    rw [e10]
    have hp9 : (upd H8 p (.ins (He.ga K "Bakery") dx (bakF tb tw B (bakR te tr tp [])))) p = some (.ins (He.ga K "Bakery") dx (bakF tb tw B (bakR te tr tp []))) := upd_same
    have x9 : SameX p H (upd H8 p (.ins (He.ga K "Bakery") dx (bakF tb tw B (bakR te tr tp [])))) := (x7.tr s8).at
    have hte9 : (upd H8 p (.ins (He.ga K "Bakery") dx (bakF tb tw B (bakR te tr tp [])))) te = some (.lst (B.earlyN B.last)) := by
      rw [upd_ne ntp]
      exact s8 _ _ hte7
    have htr9 : (upd H8 p (.ins (He.ga K "Bakery") dx (bakF tb tw B (bakR te tr tp [])))) tr = some (.lst ys) := by
      rw [upd_ne ntr]
      exact s8 _ _ htr7
    have htp9 : (upd H8 p (.ins (He.ga K "Bakery") dx (bakF tb tw B (bakR te tr tp [])))) tp = some (.lst [.non]) := by
      rw [upd_ne ntp2]
      exact htp8
    have hys9 : ∀ (i : Nat) (y : V), ys[i]? = some y → ∃ q, y = .ref q ∧ q ≠ p ∧ EffAt K (upd H8 p (.ins (He.ga K "Bakery") dx (bakF tb tw B (bakR te tr tp [])))) q (B.eff ((B.last + i : Nat) : Int)) := fun i y e => by
      obtain ⟨q, e1, nq, dq, e2⟩ := hys7 i y e
      exact ⟨q, e1, nq, dq, by rw [upd_ne nq]; exact s8 _ _ e2⟩
    have ntep : te ≠ tp := fun z => by
      subst z
      rw [hte7] at htp
      cases htp
    have ntrp : tr ≠ tp := fun z => by
      subst z
      rw [htr7] at htp
      cases htp
    generalize upd H8 p (.ins (He.ga K "Bakery") dx (bakF tb tw B (bakR te tr tp []))) = H9 at hp9 x9 hte9 htr9 htp9 hys9 ⊢
    walk_at "rd"
    refine ⟨_, rfl, ⟨_, sqL_at htr9⟩, ?_⟩
    refine fR_list (xs := ys) (fun i σ H' => ∃ (x y : Option V) (ps : List V), σ = [some (.ref p), some (.ref tb), some (.ref tw), some (.int B.life), none, x, y] ∧ H' p = some (.ins (He.ga K "Bakery") dx (bakF tb tw B (bakR te tr tp []))) ∧ H' te = some (.lst (B.earlyN B.last)) ∧ H' tr = some (.lst ys) ∧
      H' tp = some (.lst (.non :: ps)) ∧ ps.length = i ∧ (∀ (k : Nat) v, ps[k]? = some v → PreAt K H' B k v) ∧ SameX p H H' ∧ ∀ (i : Nat) (y : V), ys[i]? = some y → ∃ q, y = .ref q ∧ EffAt K H' q (B.eff ((B.last + i : Nat) : Int)))
      ⟨none, none, [], rfl, hp9, hte9, htr9, htp9, rfl, fun k v e => by simp at e, x9, fun i y e => let ⟨q, e1, _, e2⟩ := hys9 i y e; ⟨q, e1, e2⟩⟩ (fun i σ H' _ w => let ⟨_, _, _, _, _, _, h, _⟩ := w; sqL_at h) ?_ ?_
    · rintro i v σ H' hv ⟨x, y, ps, rfl, hpA, hteA, htrA, htpA, pl, hps, xA, hysA⟩
      obtain ⟨q, rfl, dq, hq⟩ := hysA i v hv
      have il : i < ys.length := (List.getElem?_eq_some_iff.mp hv).1
      have fin2 : ∀ (nv : V) (H2 : Hp) (y : Option V), Same H' H2 → PreAt K H2 B i nv → ∃ (x y' : Option V) (ps' : List V), [some (V.ref p), some (.ref tb), some (.ref tw), some (.int B.life), none, some (V.ref q), y] = [some (.ref p), some (.ref tb), some (.ref tw), some (.int B.life), none, x, y'] ∧ (upd H2 tp (.lst ((.non :: ps) ++ [nv]))) p = some (.ins (He.ga K "Bakery") dx (bakF tb tw B (bakR te tr tp []))) ∧ (upd H2 tp (.lst ((.non :: ps) ++ [nv]))) te = some (.lst (B.earlyN B.last)) ∧ (upd H2 tp (.lst ((.non :: ps) ++ [nv]))) tr = some (.lst ys) ∧
          (upd H2 tp (.lst ((.non :: ps) ++ [nv]))) tp = some (.lst (.non :: ps')) ∧ ps'.length = i + 1 ∧ (∀ (k : Nat) v, ps'[k]? = some v → PreAt K (upd H2 tp (.lst ((.non :: ps) ++ [nv]))) B k v) ∧ SameX p H (upd H2 tp (.lst ((.non :: ps) ++ [nv]))) ∧ ∀ (i : Nat) (y : V), ys[i]? = some y → ∃ q, y = .ref q ∧ EffAt K (upd H2 tp (.lst ((.non :: ps) ++ [nv]))) q (B.eff ((B.last + i : Nat) : Int)) := fun nv H2 y s2 pre => by
        have e2 := s2 _ _ htpA
        refine ⟨_, y, ps ++ [nv], rfl, by rw [upd_ne ntp2.symm]; exact s2 _ _ hpA, by rw [upd_ne ntep]; exact s2 _ _ hteA, by rw [upd_ne ntrp]; exact s2 _ _ htrA, upd_same, by simp [pl], fun k v e => ?_, (xA.tr s2).mut htp0, fun i y e => ?_⟩
        · have old : PreAt K H2 B k v := by
            rcases Nat.lt_trichotomy k ps.length with lt | eq | gt
            · rw [List.getElem?_append_left lt] at e
              obtain ⟨q, g, e1, e2, e3⟩ := hps k v e
              exact ⟨q, g, e1, e2.mono s2, e3⟩
            · subst eq
              rw [List.getElem?_append_right (Nat.le_refl _)] at e
              simp at e
              subst e
              rw [pl]
              exact pre
            · rw [List.getElem?_eq_none (by simp; omega)] at e
              cases e
          obtain ⟨q, g, e1, e3, e4⟩ := old
          exact ⟨q, g, e1, Stab.eff.2 _ _ _ _ e3 e2, e4⟩
        · obtain ⟨q, e1, e3⟩ := hysA i y e
          exact ⟨q, e1, Stab.eff.2 _ _ _ _ (e3.mono s2) e2⟩
      have n1 := ok.n1
      have ylen : ys.length = B.n := by
        rw [len]
        omega
      walk_at "rd"
      cases i with
      | zero =>
        have pe : ps = [] := List.eq_nil_of_length_eq_zero pl
        subst pe
        refine r_ixLa (sqL_at htpA) (v := .non) (at_m1 rfl) ?_
        walk_at "rd"
        refine iY rfl ?_
        walk_at "rd"
        refine r_append htpA (by show 1 < 100000; decide) ?_
        exact fin2 (.ref q) H' _ sameR ⟨q, _, rfl, ⟨dq, hq⟩, isRun_one ok _⟩
      | succ i =>
        obtain ⟨v, hv2⟩ : ∃ v, ps[i]? = some v := ⟨_, List.getElem?_eq_getElem (by omega)⟩
        obtain ⟨q2, g, rfl, ⟨d2, hq2⟩, hrun⟩ := hps _ _ hv2
        refine r_ixLa (sqL_at htpA) (v := .ref q2) (at_m1 ?_) ?_
        · show (V.non :: ps)[ps.length + 1 - 1]? = _
          rw [pl]
          exact hv2
        walk_at "rd"
        refine iN (by intro z; cases z) ?_
        walk_at "rd"
        refine fun q3 H2 s2 hq3 => ?_
        walk_at "rd"
        refine r_append (s2 _ _ htpA) (by show ps.length + 1 < 100000; omega) ?_
        exact fin2 (.ref q3) H2 _ s2 ⟨q3, _, rfl, hq3, hrun.next ok⟩
    · rintro σ H' ⟨x, y, ps, rfl, hpA, hteA, htrA, htpA, pl, hps, xA, hysA⟩
      have n1 := ok.n1
      have ylen : ys.length = B.n := by
        rw [len]
        omega
      walk_at "rd"
      refine ⟨p, B, rfl, ⟨ok, dx, tb, tw, te, tr, tp, [], ps, hpA, rst_0, sqT_sameX hp xA hb, sqT_sameX hp xA hw, hteA, htpA, pl.trans ylen, hps⟩, fun ts H2 s2 hset => ?_⟩
      have hpB := s2 _ _ hpA
      walk_at "rd"
      refine r_sfldR hpB (fc_Bakery T) (fna_Bakery_settled T) (by show 7 < 1000; decide) ?_
      have e11 : putF "settled" (V.ref ts) (bakF tb tw B (bakR te tr tp [])) = bakF tb tw B (bakR te tr tp [("settled", .ref ts)]) := by kernel_rfl
      rw [e11]
      have xB : SameX p H (upd H2 p (.ins (He.ga K "Bakery") dx (bakF tb tw B (bakR te tr tp [("settled", .ref ts)])))) := (xA.tr s2).at
      refine k _ te tp xB hte0 htp0 ⟨ok, dx, tb, tw, tr, ts, ps, upd_same, sqT_sameX hp xB hb, sqT_sameX hp xB hw, ?_, ?_, pl.trans ylen, fun k v e => ?_, ?_⟩
      · rw [upd_ne ntp]
        exact s2 _ _ hteA
      · rw [upd_ne ntp2]
        exact s2 _ _ htpA
      · obtain ⟨q, g, e1, e2, e3⟩ := hps k v e
        have e4 := e2.mono s2
        obtain ⟨dq, e5⟩ := e4
        exact ⟨q, g, e1, ⟨dq, by rw [upd_ne (eff_ne ⟨dq, e5⟩ hpB)]; exact e5⟩, e3⟩
      · obtain ⟨q, D, R, h1, h2, h3⟩ := hset
        exact ⟨q, D, R, by rw [upd_ne (tup_ne h1 hpB)]; exact h1, by rw [upd_ne (tup_ne h2 hpB)]; exact h2, h3⟩
  · have lt : j < B.last := by omega
    refine i2 (fun c => ?_) (fun c => ?_)
    rotate_left
    · walk_at "rd"
      rw [el]
      have e7 : ((j + 1 : Nat) : Int) - 1 = (j : Nat) := by omega
      rw [e7]
      refine r_I (by omega) ?_
      walk_at "rd"
      refine i2n (fun _ => ?_) (fun z => ?_)
      rotate_left
      · have z2 := ok.last_min (j := j) (by omega) (by omega)
        omega
      walk_at "rd"
      refine r_turn ?_
      walk_at "rd"
      rw [el]
      refine ⟨p, B, _, rfl, ⟨ok, dx, tb, tw, _, hpJ, hr1, hbJ, hwJ⟩, fun q H2 s2 hq2 => ?_⟩
      have e9 : ((j + 1 : Nat) : Int) - 1 = (j : Nat) := by omega
      rw [e9] at hq2
      obtain ⟨dq, hq2⟩ := hq2
      have hpK := s2 _ _ hpJ
      have hteK := s2 _ _ hteJ
      walk_at "rd"
      refine r_ixLa (sqL_at hteK) (at_m1 (earlyN_at B j)) ?_
      walk_at "rd"
      refine r_append hteK (by rw [el]; have := ok.last_lt; omega) ?_
      refine ⟨_, (by omega : B.last - (j + 1) < B.last - j), j + 1, lt, rfl, rfl, by rw [upd_ne ntp.symm]; exact hpK, ?_, (xJ.tr s2).mut hte0⟩
      rw [← earlyN_next]
      exact upd_same
    walk_at "rd"
    refine r_turn ?_
    walk_at "rd"
    rw [el]
    refine ⟨p, B, _, rfl, ⟨ok, dx, tb, tw, _, hpJ, hr1, hbJ, hwJ⟩, fun q H2 s2 hq2 => ?_⟩
    have e9 : ((j + 1 : Nat) : Int) - 1 = (j : Nat) := by omega
    rw [e9] at hq2
    obtain ⟨dq, hq2⟩ := hq2
    have hpK := s2 _ _ hpJ
    have hteK := s2 _ _ hteJ
    walk_at "rd"
    refine r_ixLa (sqL_at hteK) (at_m1 (earlyN_at B j)) ?_
    walk_at "rd"
    refine r_append hteK (by rw [el]; have := ok.last_lt; omega) ?_
    refine ⟨_, (by omega : B.last - (j + 1) < B.last - j), j + 1, lt, rfl, rfl, by rw [upd_ne ntp.symm]; exact hpK, ?_, (xJ.tr s2).mut hte0⟩
    rw [← earlyN_next]
    exact upd_same
/-- a new Bakery, for a caller; its lists are new -/
theorem use_BakeryF {K : PySem.W.Frag} {H : Hp} {Q : VK} {E : XK} {tb tw : Addr} {B : Bak} {l : Int} (hl : l = B.life) (hb : SqT K H tb (B.bakes.map V.int)) (hw : SqT K H tw (B.dems.map V.int)) (ok : B.Ok) (q : ∀ p H' te tp, Same H H' → H te = none → H tp = none → BakAtF K H' p B te tp → Q (.ref p) H') : MakR (He.ga K "Bakery") (spBakInit K) E Q [.ref tb, .ref tw, .int l] H := by
  intro x dx hx hd ne
  subst hl
  have s1 : Same H (upd (upd H dx (.own x)) x (.ins (He.ga K "Bakery") dx [])) := fun b o hb => by
    rw [upd_ne (ne_of_none hb hx), upd_ne (ne_of_none hb hd)]
    exact hb
  refine ⟨x, dx, tb, tw, B, rfl, upd_same, same_sqT s1 hb, same_sqT s1 hw, ok, fun H' te tp xs n1 n2 h => ⟨rfl, q x H' te tp (fun b o hb => ?_) (none_of_same s1 n1) (none_of_same s1 n2) h⟩⟩
  exact xs b o (ne_of_none hb hx) (s1 b o hb)
theorem use_Bakery {K : PySem.W.Frag} {H : Hp} {Q : VK} {E : XK} {tb tw : Addr} {B : Bak} {l : Int} (hl : l = B.life) (hb : SqT K H tb (B.bakes.map V.int)) (hw : SqT K H tw (B.dems.map V.int)) (ok : B.Ok) (q : ∀ p H', Same H H' → BakAt K H' p B → Q (.ref p) H') : MakR (He.ga K "Bakery") (spBakInit K) E Q [.ref tb, .ref tw, .int l] H :=
  use_BakeryF hl hb hw ok fun p H' _ _ s _ _ h => q p H' s h.at

end G57
end
section
set_option maxRecDepth 100000
set_option maxHeartbeats 4000000
namespace G57
open PySem PySem.Spec PyProof.Rows L2
/-! the walk's small steps: "rd" reads on as far as it can -/
local macro_rules | `(tactic| walk_at "fact") => `(tactic| fail)
local macro_rules | `(tactic| walk_at "rd1") => `(tactic| with_reducible first
  | (refine v_id ?_; first | refine r_var_0 ?_ | refine r_var_1 ?_ | refine r_var_2 ?_ | refine r_var_3 ?_ | refine r_var_4 ?_ | refine r_var_5 ?_ | refine r_var_6 ?_ | refine r_var_7 ?_ | refine r_var_8 ?_ | refine r_var_9 ?_ | refine r_var_10 ?_ | refine r_var_11 ?_ | refine r_var_12 ?_ | refine r_var_13 ?_ | refine r_var_14 ?_ | refine r_var_15 ?_ | refine r_var_16 ?_ | refine r_var_17 ?_ | refine r_var_18 ?_ | refine r_var_19 ?_ | refine r_var_20 ?_ | refine r_var_21 ?_ | refine r_var_22 ?_ | refine r_var_23 ?_ | refine r_var_24 ?_ | refine r_var_25 ?_ | refine r_var_26 ?_ | refine r_var_27 ?_ | refine r_var rfl ?_)
  | (refine s_id ?_; first | refine r_set_0 ?_ | refine r_set_1 ?_ | refine r_set_2 ?_ | refine r_set_3 ?_ | refine r_set_4 ?_ | refine r_set_5 ?_ | refine r_set_6 ?_ | refine r_set_7 ?_ | refine r_set_8 ?_ | refine r_set_9 ?_ | refine r_set_10 ?_ | refine r_set_11 ?_ | refine r_set_12 ?_ | refine r_set_13 ?_ | refine r_set_14 ?_ | refine r_set_15 ?_ | refine r_set_16 ?_ | refine r_set_17 ?_ | refine r_set_18 ?_ | refine r_set_19 ?_ | refine r_set_20 ?_ | refine r_set_21 ?_ | refine r_set_22 ?_ | refine r_set_23 ?_ | refine r_set_24 ?_ | refine r_set_25 ?_ | refine r_set_26 ?_ | refine r_set_27 ?_ | refine r_setU ?_)
  | refine r_c ?_
  | refine r_op ?_
  | refine r_I0 ?_
  | refine r_seq ?_
  | refine r_asg ?_
  | refine r_fld ?_
  | refine r_nil ?_
  | refine r_cons ?_
  | refine r_cb ?_
  | refine r_max ?_
  | refine r_min ?_
  | refine r_ret ?_
  | refine r_met ?_
  | refine r_call ?_
  | refine r_B ?_
  | refine r_test ?_
  | refine r_b' ?_
  | refine r_ifS ?_
  | refine r_if ?_
  | refine r_par ?_
  | refine r_par2 ?_
  | refine r_drop ?_
  | refine r_next ?_
  | refine r_make ?_
  | refine r_sfld ?_
  | refine r_int1 ?_
  | refine r_intb ?_
  | refine r_and ?_
  | refine r_or ?_
  | refine r_not ?_
  | refine r_chain ?_
  | refine r_isN ?_
  | refine r_notN ?_
  | refine r_un ?_
  | refine r_U ?_
  | refine r_par3 ?_
  | refine r_par33 ?_
  | refine r_tup ?_
  | refine r_lst ?_
  | refine r_prop ?_
  | refine r_bm ?_
  | refine r_bm0 ?_
  | refine r_andV ?_
  | refine r_orV ?_
  | refine r_notV ?_
  | refine r_asgG ?_
  | refine r_gname ?_
  | refine r_gcons ?_
  | refine r_gnil ?_
  | refine r_rng1 ?_
  | refine r_rng2 ?_
  | refine r_for ?_
  | refine r_lc1 ?_
  | refine r_lc2 ?_
  | refine r_lc3 ?_
  | refine r_lc ?_
  | refine r_while ?_
  | refine r_rev ?_
  | refine r_sl ?_
  | refine r_augS ?_
  | refine r_iL ?_
  | refine r_iT ?_
  | refine r_iE ?_
  | refine r_ipI ?_
  | refine r_aug rfl ?_
  | refine r_cval ?_
  | refine r_turnN ?_
  | refine iT ?_
  | refine iNT ?_
  | refine iNF ?_
  | refine iOF ?_
  | refine iF ?_
  | refine r_part ?_
  | refine r_pi ?_
  | refine r_gsub ?_
  | refine r_noPart ?_)
local macro_rules | `(tactic| walk_at "rd") => `(tactic| (repeat (first | walk_at "rd1" | walk_at "fact")))
local macro_rules | `(tactic| walk_at "plen") => `(tactic| (repeat (first | decide | refine putF_lt ?_)))
local macro_rules | `(tactic| walk_at "rs") => `(tactic| (repeat ((fail_if_success (with_reducible refine r_stop ?_)); (first | walk_at "rd1" | walk_at "fact"))))
local macro_rules | `(tactic| walk_at "fact") => `(tactic| with_reducible first
  | refine mE (by assumption) (mlk_end _) ?_
  | refine mE (by assumption) (mlk_missed _) ?_
  | refine mE (by assumption) (mlk_thrown _) ?_
  | refine use_end (by assumption) ?_
  | refine use_mis (by assumption) ?_
  | refine use_thr (by assumption) ?_
  | refine fB_baking ‹_› (by assumption) ?_
  | refine fB_wishes ‹_› (by assumption) ?_
  | refine fB_days_kept ‹_› (by assumption) ?_
  | refine fB_size ‹_› (by assumption) ?_
  | refine fB_early ‹_› (by assumption) ?_
  | refine fB_round ‹_› (by assumption) ?_
  | refine fB_prefixes ‹_› (by assumption) ?_
  | refine mB (by assumption) (by assumption) (by decide) ?_
  | refine r_tyL (sqL_at (by assumption)) ?_
  | refine r_lenL (sqL_at (by assumption)) ?_)
def spStk (K : PySem.W.Frag) : Sp := fun vs H Q _ => ∃ (a : Addr) (B : Bak) (d : Nat), vs = [.ref a, .int (d : Nat)] ∧ BakM K H a B ∧ d ≤ 1000000000000000000 ∧ ∀ H', Same H H' → Q (.int (B.st d)) H'
theorem ok_Bakery_stock {P : Program} {w : World} {K : PySem.W.Frag} {mg : Str → Option Value} {base : Heap} (T : Tx K mg) : C8.Met P w K mg base 6 (He.ga K "Bakery") "stock" (spStk K) [] := by
  have G_validate_number := ok_validate_number (P := P) (w := w) (base := base) T
  have G_Bakery_start_of := ok_Bakery_start_of (P := P) (w := w) (base := base) T
  refine met_of (d := d_Bakery_stock) (C := "Bakery") (m := "stock") (fn_Bakery_stock T) rfl rfl (fc_Bakery T) (fme_Bakery_stock T) sc_Bakery_stock (fun _ _ _ _ _ _ us hl => match us, hl with | [_, _], _ => rfl) (fun vs H Q E h => ?_) (fun cdv A outer s H vs Q E hr h => ?_)
  · obtain ⟨a, B, d, rfl, hM, hd, k⟩ := h
    rfl
  obtain ⟨a, B, d, rfl, hM, hd, k⟩ := h
  refine ⟨_, (pss_cons (ps_expr (C8.pe_c G_validate_number hr (by decide) (by rfl) (pa_cons (pv 1) (pa_cons pe_int (pa_cons (C8.pe_gc rfl (gc_int (fi_MAX_DAY T))) pa_nil)))))
      (pss_one (ps_ret (C8.pe_mt G_Bakery_start_of hr (by decide) (pv 0) (pa_cons (pv 1) pa_nil))))), ?_⟩
  try dsimp only [cxOf, Cx.nox, Cx.wish]
  repeat rw [st_cons]
  repeat rw [st_none]
  try rw [st_nn]
  obtain ⟨ok, dx, tb, tw, te, tr, tp, r, ps, hB, hq, hb, hw, he, hp, hl, hps⟩ := id hM
  have hq' : Rst (bakR te tr tp r) := bakR_rst hq
  walk_at "rd"
  refine ⟨_, _, _, rfl, by omega, by omega, ?_⟩
  walk_at "rd"
  exact ⟨a, B, d, rfl, hM, k⟩
def spMsd (K : PySem.W.Frag) : Sp := fun vs H Q _ => ∃ (a : Addr) (B : Bak) (d : Nat), vs = [.ref a, .int (d : Nat)] ∧ BakM K H a B ∧ d ≤ 1000000000000000000 ∧ ∀ H', Same H H' → Q (.int (B.ms d)) H'
theorem ok_Bakery_missed {P : Program} {w : World} {K : PySem.W.Frag} {mg : Str → Option Value} {base : Heap} (T : Tx K mg) : C8.Met P w K mg base 6 (He.ga K "Bakery") "missed" (spMsd K) [] := by
  have G_validate_number := ok_validate_number (P := P) (w := w) (base := base) T
  have G_Bakery_effect_of := ok_Bakery_effect_of (P := P) (w := w) (base := base) T
  have G_Effect_missed := ok_Effect_missed (P := P) (w := w) (base := base) T
  have G_Bakery_start_of := ok_Bakery_start_of (P := P) (w := w) (base := base) T
  refine met_of (d := d_Bakery_missed) (C := "Bakery") (m := "missed") (fn_Bakery_missed T) rfl rfl (fc_Bakery T) (fme_Bakery_missed T) sc_Bakery_missed (fun _ _ _ _ _ _ us hl => match us, hl with | [_, _], _ => rfl) (fun vs H Q E h => ?_) (fun cdv A outer s H vs Q E hr h => ?_)
  · obtain ⟨a, B, d, rfl, hM, hd, k⟩ := h
    rfl
  obtain ⟨a, B, d, rfl, hM, hd, k⟩ := h
  refine ⟨_, (pss_cons (ps_expr (C8.pe_c G_validate_number hr (by decide) (by rfl) (pa_cons (pv 1) (pa_cons pe_int (pa_cons (C8.pe_gc rfl (gc_int (fi_MAX_DAY T))) pa_nil)))))
      (pss_one (ps_ret (C8.pe_mt G_Effect_missed hr (by decide) (C8.pe_mt G_Bakery_effect_of hr (by decide) (pv 0) (pa_cons (pv 1) pa_nil)) (pa_cons (C8.pe_mt G_Bakery_start_of hr (by decide) (pv 0) (pa_cons (pv 1) pa_nil)) pa_nil))))), ?_⟩
  try dsimp only [cxOf, Cx.nox, Cx.wish]
  repeat rw [st_cons]
  repeat rw [st_none]
  try rw [st_nn]
  obtain ⟨ok, dx, tb, tw, te, tr, tp, r, ps, hB, hq, hb, hw, he, hp, hl, hps⟩ := id hM
  have hq' : Rst (bakR te tr tp r) := bakR_rst hq
  walk_at "rd"
  refine ⟨_, _, _, rfl, by omega, by omega, ?_⟩
  walk_at "rd"
  refine ⟨a, B, _, rfl, hM.c, fun q H1 s1 ⟨dq, hq1⟩ => ?_⟩
  have hB1 := s1 _ _ hB
  walk_at "rd"
  refine ⟨a, B, d, rfl, hM.mono s1, fun H2 s2 => ?_⟩
  have hq2 := s2 _ _ hq1
  walk_at "rd"
  exact k H2 (sameT s1 s2)
def spThn (K : PySem.W.Frag) : Sp := fun vs H Q _ => ∃ (a : Addr) (B : Bak) (d : Nat), vs = [.ref a, .int (d : Nat)] ∧ BakM K H a B ∧ d ≤ 1000000000000000000 ∧ ∀ H', Same H H' → Q (.int (B.th d)) H'
theorem ok_Bakery_thrown {P : Program} {w : World} {K : PySem.W.Frag} {mg : Str → Option Value} {base : Heap} (T : Tx K mg) : C8.Met P w K mg base 6 (He.ga K "Bakery") "thrown" (spThn K) [] := by
  have G_validate_number := ok_validate_number (P := P) (w := w) (base := base) T
  have G_Bakery_effect_of := ok_Bakery_effect_of (P := P) (w := w) (base := base) T
  have G_Effect_thrown := ok_Effect_thrown (P := P) (w := w) (base := base) T
  have G_Bakery_start_of := ok_Bakery_start_of (P := P) (w := w) (base := base) T
  refine met_of (d := d_Bakery_thrown) (C := "Bakery") (m := "thrown") (fn_Bakery_thrown T) rfl rfl (fc_Bakery T) (fme_Bakery_thrown T) sc_Bakery_thrown (fun _ _ _ _ _ _ us hl => match us, hl with | [_, _], _ => rfl) (fun vs H Q E h => ?_) (fun cdv A outer s H vs Q E hr h => ?_)
  · obtain ⟨a, B, d, rfl, hM, hd, k⟩ := h
    rfl
  obtain ⟨a, B, d, rfl, hM, hd, k⟩ := h
  refine ⟨_, (pss_cons (ps_expr (C8.pe_c G_validate_number hr (by decide) (by rfl) (pa_cons (pv 1) (pa_cons pe_int (pa_cons (C8.pe_gc rfl (gc_int (fi_MAX_DAY T))) pa_nil)))))
      (pss_one (ps_ret (C8.pe_mt G_Effect_thrown hr (by decide) (C8.pe_mt G_Bakery_effect_of hr (by decide) (pv 0) (pa_cons (pv 1) pa_nil)) (pa_cons (C8.pe_mt G_Bakery_start_of hr (by decide) (pv 0) (pa_cons (pv 1) pa_nil)) pa_nil))))), ?_⟩
  try dsimp only [cxOf, Cx.nox, Cx.wish]
  repeat rw [st_cons]
  repeat rw [st_none]
  try rw [st_nn]
  obtain ⟨ok, dx, tb, tw, te, tr, tp, r, ps, hB, hq, hb, hw, he, hp, hl, hps⟩ := id hM
  have hq' : Rst (bakR te tr tp r) := bakR_rst hq
  walk_at "rd"
  refine ⟨_, _, _, rfl, by omega, by omega, ?_⟩
  walk_at "rd"
  refine ⟨a, B, _, rfl, hM.c, fun q H1 s1 ⟨dq, hq1⟩ => ?_⟩
  have hB1 := s1 _ _ hB
  walk_at "rd"
  refine ⟨a, B, d, rfl, hM.mono s1, fun H2 s2 => ?_⟩
  have hq2 := s2 _ _ hq1
  walk_at "rd"
  exact k H2 (sameT s1 s2)
def spSld (K : PySem.W.Frag) : Sp := fun vs H Q _ => ∃ (a : Addr) (B : Bak) (d : Nat), vs = [.ref a, .int (d : Nat)] ∧ BakM K H a B ∧ d ≤ 1000000000000000000 ∧ ∀ H', Same H H' → Q (.int (B.wish (d : Nat) - B.ms d)) H'
theorem ok_Bakery_sold {P : Program} {w : World} {K : PySem.W.Frag} {mg : Str → Option Value} {base : Heap} (T : Tx K mg) : C8.Met P w K mg base 7 (He.ga K "Bakery") "sold" (spSld K) [] := by
  have G_Bakery_missed := ok_Bakery_missed (P := P) (w := w) (base := base) T
  refine met_of (d := d_Bakery_sold) (C := "Bakery") (m := "sold") (fn_Bakery_sold T) rfl rfl (fc_Bakery T) (fme_Bakery_sold T) sc_Bakery_sold (fun _ _ _ _ _ _ us hl => match us, hl with | [_, _], _ => rfl) (fun vs H Q E h => ?_) (fun cdv A outer s H vs Q E hr h => ?_)
  · obtain ⟨a, B, d, rfl, hM, hd, k⟩ := h
    rfl
  obtain ⟨a, B, d, rfl, hM, hd, k⟩ := h
  refine ⟨_, (pss_one (ps_ret (pe_op op_sub (pe_ix ix_tup (pe_fld (pv 0) rfl) (pe_op op_mod (pe_callTy cq_int (by rfl) (fn_int T) bb_int (pa_cons (pv 1) pa_nil)) (pe_fld (pv 0) rfl)) (fun _ _ => rfl)) (C8.pe_mt G_Bakery_missed hr (by decide) (pv 0) (pa_cons (pv 1) pa_nil))))), ?_⟩
  try dsimp only [cxOf, Cx.nox, Cx.wish]
  repeat rw [st_cons]
  repeat rw [st_none]
  try rw [st_nn]
  obtain ⟨ok, dx, tb, tw, te, tr, tp, r, ps, hB, hq, hb, hw, he, hp, hl, hps⟩ := id hM
  have hq' : Rst (bakR te tr tp r) := bakR_rst hq
  have n0 := ok.n0
  walk_at "rd"
  refine r_I (by omega) ?_
  refine r_ixT hw (ok.ix _).2.symm (by rw [List.getElem?_map, ok.wish_at]; rfl) ?_
  walk_at "rd"
  refine ⟨a, B, d, rfl, hM, hd, fun H2 s2 => ?_⟩
  walk_at "rd"
  exact k H2 s2
def spWsb (K : PySem.W.Frag) : Sp := fun vs H Q _ => ∃ (a : Addr) (B : Bak) (d : Nat), vs = [.ref a, .int (d : Nat)] ∧ BakM K H a B ∧ ∀ H', Same H H' → Q (.int (B.ws d)) H'
theorem ok_Bakery_wished_before {P : Program} {w : World} {K : PySem.W.Frag} {mg : Str → Option Value} {base : Heap} (T : Tx K mg) : C8.Met P w K mg base 1 (He.ga K "Bakery") "wished_before" (spWsb K) [] := by
  refine met_of (d := d_Bakery_wished_before) (C := "Bakery") (m := "wished_before") (fn_Bakery_wished_before T) rfl rfl (fc_Bakery T) (fme_Bakery_wished_before T) sc_Bakery_wished_before (fun _ _ _ _ _ _ us hl => match us, hl with | [_, _], _ => rfl) (fun vs H Q E h => ?_) (fun cdv A outer s H vs Q E hr h => ?_)
  · obtain ⟨a, B, d, rfl, hM, k⟩ := h
    rfl
  obtain ⟨a, B, d, rfl, hM, k⟩ := h
  refine ⟨_, (pss_cons (ps_set (i := 2) sc_Bakery_wished_before.nd rfl (Or.inl rfl) (pe_op op_mod (pe_callTy cq_int (by rfl) (fn_int T) bb_int (pa_cons (pv 1) pa_nil)) (pe_fld (pv 0) rfl)))
      (pss_one (ps_ret (pe_op op_add (pe_op op_mul (pe_op op_fdiv (pv 1) (pe_fld (pv 0) rfl)) (pe_callB (cr_sumT rfl) (by rfl) (fn_sum T) bb_sum (pa_cons (pe_fld (pv 0) rfl) pa_nil))) (pe_callB (cr_sumT rfl) (by rfl) (fn_sum T) bb_sum (pa_cons (pe_slice sl_tupA (pe_fld (pv 0) rfl) po_none (po_some (pv 2))) pa_nil)))))), ?_⟩
  try dsimp only [cxOf, Cx.nox, Cx.wish]
  repeat rw [st_cons]
  repeat rw [st_none]
  try rw [st_nn]
  obtain ⟨ok, dx, tb, tw, te, tr, tp, r, ps, hB, hq, hb, hw, he, hp, hl, hps⟩ := id hM
  have n0 := ok.n0
  have n1 := ok.n1
  walk_at "rd"
  refine r_I (by omega) ?_
  walk_at "rd"
  refine r_I ⟨by omega, by omega⟩ ?_
  walk_at "rd"
  refine r_sumT hw ?_
  have ds := ok.dsum
  refine r_I (.inr (by omega)) ?_
  walk_at "rd"
  refine r_slA hw fun q H2 s2 hq2 => ?_
  have e1 : ((d : Nat) : Int) % (B.n : Nat) = ((d % B.n : Nat) : Int) := rfl
  rw [e1, cutV_take, ← List.map_take] at hq2
  walk_at "rd"
  refine r_sumT hq2 ?_
  walk_at "rd"
  have e2 : ((d : Nat) : Int) / (B.n : Nat) = ((d / B.n : Nat) : Int) := rfl
  rw [e2, ws_eq ok]
  exact k H2 s2
/-- an Effect that leads from the day s to the day e behind the last early one -/
def Stage (K : PySem.W.Frag) (H : Hp) (B : Bak) (v : V) (s e : Nat) : Prop := ∃ p g, v = .ref p ∧ EffAt K H p g ∧ g.fin (B.st (B.last + s)) = B.st (B.last + e) ∧ B.sm 0 (B.last + s) + g.mis (B.st (B.last + s)) = B.sm 0 (B.last + e) ∧ B.sh 0 (B.last + s) + g.thr (B.st (B.last + s)) = B.sh 0 (B.last + e)
def spTot (K : PySem.W.Frag) : Sp := fun vs H Q _ => ∃ (a : Addr) (B : Bak) (d : Nat), vs = [.ref a, .int (d : Nat)] ∧ BakM K H a B ∧ d ≤ 1000000000000000000 ∧ ∀ p H', Same H H' → H' p = some (.tup [.int (B.ws d - B.sm 0 d), .int (B.sm 0 d), .int (B.sh 0 d)]) → Q (.ref p) H'
theorem ok_Bakery_totals {P : Program} {w : World} {K : PySem.W.Frag} {mg : Str → Option Value} {base : Heap} (T : Tx K mg) : C8.Met P w K mg base 5 (He.ga K "Bakery") "totals" (spTot K) [] := by
  have G_validate_number := ok_validate_number (P := P) (w := w) (base := base) T
  have G_Bakery_effect_of := ok_Bakery_effect_of (P := P) (w := w) (base := base) T
  have G_Effect_missed := ok_Effect_missed (P := P) (w := w) (base := base) T
  have G_Effect_thrown := ok_Effect_thrown (P := P) (w := w) (base := base) T
  have G_power := ok_power (P := P) (w := w) (base := base) T
  have G_Effect_end := ok_Effect_end (P := P) (w := w) (base := base) T
  have G_Bakery_wished_before := ok_Bakery_wished_before (P := P) (w := w) (base := base) T
  refine met_of (d := d_Bakery_totals) (C := "Bakery") (m := "totals") (fn_Bakery_totals T) rfl rfl (fc_Bakery T) (fme_Bakery_totals T) sc_Bakery_totals (fun _ _ _ _ _ _ us hl => match us, hl with | [_, _], _ => rfl) (fun vs H Q E h => ?_) (fun cdv A outer s H vs Q E hr h => ?_)
  · obtain ⟨a, B, d, rfl, hM, hd, k⟩ := h
    rfl
  obtain ⟨a, B, d, rfl, hM, hd, k⟩ := h
  refine ⟨_, (pss_cons (ps_expr (C8.pe_c G_validate_number hr (by decide) (by rfl) (pa_cons (pv 1) (pa_cons pe_int (pa_cons (C8.pe_gc rfl (gc_int (fi_MAX_DAY T))) pa_nil)))))
      (pss_cons (ps_par3 (i := 2) (j := 3) (l := 4) (by rfl) sc_Bakery_totals.nd rfl rfl rfl (by decide) (by decide) (by decide) rfl rfl rfl (pa_cons (pe_op op_sub (pe_callB cq_len (by rfl) (fn_len T) bb_len (pa_cons (pe_fld (pv 0) rfl) pa_nil)) pe_int) (pa_cons pe_int (pa_cons pe_int pa_nil))) (by rfl))
      (pss_cons (ps_for PassesOwn.never rfl (pi_range1 (by rfl) (fn_range T) (pa_cons (pe_callB (cq_min2 rfl) (by rfl) (fn_min T) bb_min (pa_cons (pv 1) (pa_cons (pv 2) pa_nil))) pa_nil)) (pg_name (i := 5) sc_Bakery_totals.nd rfl (Or.inl rfl)) (pss_cons (ps_aug (i := 3) sc_Bakery_totals.nd rfl (Or.inl rfl) (C8.pe_mt G_Effect_missed hr (by decide) (C8.pe_mt G_Bakery_effect_of hr (by decide) (pv 0) (pa_cons (pv 5) pa_nil)) (pa_cons (pe_ix ix_list (pe_fld (pv 0) rfl) (pv 5) (fun _ _ => rfl)) pa_nil)) ip_add)
      (pss_one (ps_aug (i := 4) sc_Bakery_totals.nd rfl (Or.inl rfl) (C8.pe_mt G_Effect_thrown hr (by decide) (C8.pe_mt G_Bakery_effect_of hr (by decide) (pv 0) (pa_cons (pv 5) pa_nil)) (pa_cons (pe_ix ix_list (pe_fld (pv 0) rfl) (pv 5) (fun _ _ => rfl)) pa_nil)) ip_add))))
      (pss_cons (ps_par (i := 6) (j := 7) (by rfl) sc_Bakery_totals.nd rfl rfl (by decide) rfl rfl (pa_cons (pe_op op_fdiv (pe_callB (cq_max2 rfl) (by rfl) (fn_max T) bb_max (pa_cons pe_int (pa_cons (pe_op op_sub (pv 1) (pv 2)) pa_nil))) (pe_fld (pv 0) rfl)) (pa_cons (pe_op op_mod (pe_callTy cq_int (by rfl) (fn_int T) bb_int (pa_cons (pe_callB (cq_max2 rfl) (by rfl) (fn_max T) bb_max (pa_cons pe_int (pa_cons (pe_op op_sub (pv 1) (pv 2)) pa_nil))) pa_nil)) (pe_fld (pv 0) rfl)) pa_nil)) (by rfl))
      (pss_cons (ps_set (i := 8) sc_Bakery_totals.nd rfl (Or.inl rfl) (pe_ix ix_list (pe_fld (pv 0) rfl) (pv 2) (fun _ _ => rfl)))
      (pss_cons (ps_for PassesOwn.never rfl (pi_list (pe_op op_cat (pe_ifExp (pt_cmpR op_gt (pv 6) pe_int (nomark _)) (pe_lst (pa_cons (C8.pe_c G_power hr (by decide) (by rfl) (pa_cons (pe_ix ix_list (pe_fld (pv 0) rfl) (pe_un un_neg pe_int) (fun _ _ => rfl)) (pa_cons (pv 6) pa_nil))) pa_nil)) (pe_lst pa_nil)) (pe_slice sl_list (pe_slice sl_list (pe_fld (pv 0) rfl) (po_some pe_int) po_none) (po_some (pe_op op_sub (pv 7) pe_int)) (po_some (pv 7))))) (pg_name (i := 9) sc_Bakery_totals.nd rfl (Or.inl rfl)) (pss_one (ps_par3 (i := 3) (j := 4) (l := 8) (by rfl) sc_Bakery_totals.nd rfl rfl rfl (by decide) (by decide) (by decide) rfl rfl rfl (pa_cons (pe_op op_add (pv 3) (C8.pe_mt G_Effect_missed hr (by decide) (pv 9) (pa_cons (pv 8) pa_nil))) (pa_cons (pe_op op_add (pv 4) (C8.pe_mt G_Effect_thrown hr (by decide) (pv 9) (pa_cons (pv 8) pa_nil))) (pa_cons (C8.pe_mt G_Effect_end hr (by decide) (pv 9) (pa_cons (pv 8) pa_nil)) pa_nil))) (by rfl))))
      (pss_one (ps_ret (pe_tup (pa_cons (pe_op op_sub (C8.pe_mt G_Bakery_wished_before hr (by decide) (pv 0) (pa_cons (pv 1) pa_nil)) (pv 3)) (pa_cons (pv 3) (pa_cons (pv 4) pa_nil)))))))))))), ?_⟩
  try dsimp only [cxOf, Cx.nox, Cx.wish]
  repeat rw [st_cons]
  repeat rw [st_none]
  try rw [st_nn]
  obtain ⟨ok, dx, tb, tw, te, tr, tp, r, ps, hB, hq, hb, hw, he, hp, hl, hps⟩ := id hM
  have hq' : Rst (bakR te tr tp r) := bakR_rst hq
  have n0 := ok.n0
  have n1 := ok.n1
  have el : ((B.earlyV.length : Nat) : Int) - 1 = (B.last : Nat) := by
    unfold Bak.earlyV
    simp
  walk_at "rd"
  refine ⟨_, _, _, rfl, by omega, by omega, ?_⟩
  walk_at "rd"
  rw [el]
  obtain ⟨m, i0, hm, hi⟩ : ∃ m i0 : Nat, max 0 (((d : Nat) : Int) - (B.last : Nat)) = (m : Nat) ∧ min ((d : Nat) : Int) (B.last : Nat) = (i0 : Nat) := ⟨d - B.last, min d B.last, by omega, by omega⟩
  have dm := Nat.div_add_mod m B.n
  have ml := Nat.mod_lt m n0
  rw [hi]
  refine ⟨_, rfl, by omega, by omega, ?_⟩
  have i0l : i0 ≤ B.last := by omega
  refine fR_range (fun i σ H' => Same H H' ∧ ∃ x : Option V, σ = [some (.ref a), some (.int (d : Nat)), some (.int (B.last : Nat)), some (.int (B.sm 0 i)), some (.int (B.sh 0 i)), x, none, none, none, none]) ⟨sameR, none, rfl⟩ ?_ ?_
  · rintro i σ H' hi' ⟨sm, x, rfl⟩
    have ilt : i < i0 := by omega
    have hB1 := sm _ _ hB
    have he1 := sm _ _ he
    have ev : B.earlyV[i]? = some (V.int (B.st i)) := by
      unfold Bak.earlyV
      rw [List.getElem?_map, List.getElem?_map, List.getElem?_range (by omega)]
      rfl
    walk_at "rd"
    refine ⟨a, B, _, rfl, (hM.mono sm).c, fun q H2 s2 ⟨dq, hq2⟩ => ?_⟩
    have hB2 := s2 _ _ hB1
    have he2 := s2 _ _ he1
    walk_at "rd"
    refine r_ixL (sqL_at he2) (by rw [Int.zero_add]) ev ?_
    walk_at "rd"
    refine ⟨a, B, _, rfl, (hM.mono (sameT sm s2)).c, fun q H3 s3 ⟨dq, hq3⟩ => ?_⟩
    have hB3 := s3 _ _ hB2
    have he3 := s3 _ _ he2
    walk_at "rd"
    refine r_ixL (sqL_at he3) (by rw [Int.zero_add]) ev ?_
    walk_at "rd"
    rw [Int.zero_add]
    refine ⟨sameT (sameT sm s2) s3, some (.int (i : Nat)), ?_⟩
    have z1 : B.sm 0 (i + 1) = B.sm 0 i + (B.eff (i : Nat)).mis (B.st i) := by
      show B.sm 0 i + B.ms (0 + i) = _
      rw [Nat.zero_add]
      rfl
    have z2 : B.sh 0 (i + 1) = B.sh 0 i + (B.eff (i : Nat)).thr (B.st i) := by
      show B.sh 0 i + B.th (0 + i) = _
      rw [Nat.zero_add]
      rfl
    rw [z1, z2]
  · rintro σ H' ⟨sm, x, rfl⟩
    have hB1 := sm _ _ hB
    have he1 := sm _ _ he
    have hp1 := sm _ _ hp
    have ev : B.earlyV[B.last]? = some (V.int (B.st B.last)) := by
      unfold Bak.earlyV
      rw [List.getElem?_map, List.getElem?_map, List.getElem?_range (by omega)]
      rfl
    have ei : (((i0 : Nat) : Int)).toNat = i0 := rfl
    rw [ei]
    have e1 : ((m : Nat) : Int) / (B.n : Nat) = ((m / B.n : Nat) : Int) := rfl
    have e2 : ((m : Nat) : Int) % (B.n : Nat) = ((m % B.n : Nat) : Int) := rfl
    walk_at "rd"
    rw [hm]
    refine r_I ⟨by omega, by omega⟩ ?_
    walk_at "rd"
    rw [hm]
    refine r_I (by omega) ?_
    walk_at "rd"
    rw [e1, e2]
    refine r_ixL (sqL_at he1) rfl ev ?_
    walk_at "rd"
    have tail : ∀ (L : Addr) (xs : List V) (H2 : Hp) (of : Nat → Nat) (t1 t2 : Int), Same H H2 → H2 L = some (.lst xs) → of 0 = 0 → of xs.length = m → (∀ (i : Nat) v, xs[i]? = some v → Stage K H2 B v (of i) (of (i + 1))) →
        ForR (Itl K L) (gName 9) (tPar3 3 4 8
        (tCons (tOp (rI0 fun i j => V.int (i + j)) (tVar 3) (tMeth (He.ga K "Effect") "missed" (spMis K) [] C8.E0 (tVar 9) (tCons (tVar 8) tNil)))
          (tCons (tOp (rI0 fun i j => V.int (i + j)) (tVar 4) (tMeth (He.ga K "Effect") "thrown" (spThr K) [] C8.E0 (tVar 9) (tCons (tVar 8) tNil)))
            (tCons (tMeth (He.ga K "Effect") "end" (spEnd K) [] C8.E0 (tVar 9) (tCons (tVar 8) tNil)) tNil))))
        { nx := tRet (tTup (tCons (tOp (rI0 fun i j => V.int (i - j)) (tMeth (He.ga K "Bakery") "wished_before" (spWsb K) [] C8.E0 (tVar 0) (tCons (tVar 1) tNil)) (tVar 3)) (tCons (tVar 3) (tCons (tVar 4) tNil)))) ({ nx := fun _ H' => Q V.non H', rt := Q } : Ends),
          rt := ({ nx := fun _ H' => Q V.non H', rt := Q } : Ends).rt }
        [some (.ref a), some (.int (d : Nat)), some (.int (B.last : Nat)), some (.int (B.sm 0 i0)), some (.int (B.sh 0 i0)), x, some (.int t1), some (.int t2), some (.int (B.st B.last)), none] H2 := fun L xs H2 of t1 t2 s2 hL of0 ofm items => by
      refine fR_list (xs := xs) (fun i σ H' => ∃ y : Option V, σ = [some (.ref a), some (.int (d : Nat)), some (.int (B.last : Nat)), some (.int (B.sm 0 i0 + (B.sm 0 (B.last + of i) - B.sm 0 B.last))), some (.int (B.sh 0 i0 + (B.sh 0 (B.last + of i) - B.sh 0 B.last))), x, some (.int t1), some (.int t2), some (.int (B.st (B.last + of i))), y] ∧ H' = H2) ⟨none, ?_, rfl⟩ (fun i σ H' _ w => let ⟨_, _, e⟩ := w; by rw [e]; exact sqL_at hL) ?_ ?_
      · rw [of0]
        simp
      · rintro i v σ H' hv ⟨y, rfl, rfl⟩
        obtain ⟨p, g, rfl, ⟨dg, hg⟩, h1, h2, h3⟩ := items i v hv
        walk_at "rd"
        refine ⟨some (.ref p), ?_, rfl⟩
        rw [h1, ← h2, ← h3]
        have z1 : B.sm 0 i0 + (B.sm 0 (B.last + of i) - B.sm 0 B.last) + g.mis (B.st (B.last + of i)) = B.sm 0 i0 + (B.sm 0 (B.last + of i) + g.mis (B.st (B.last + of i)) - B.sm 0 B.last) := by omega
        have z2 : B.sh 0 i0 + (B.sh 0 (B.last + of i) - B.sh 0 B.last) + g.thr (B.st (B.last + of i)) = B.sh 0 i0 + (B.sh 0 (B.last + of i) + g.thr (B.st (B.last + of i)) - B.sh 0 B.last) := by omega
        rw [z1, z2]
      · rintro σ H' ⟨y, rfl, rfl⟩
        rw [ofm]
        have fin : B.sm 0 i0 + (B.sm 0 (B.last + m) - B.sm 0 B.last) = B.sm 0 d ∧ B.sh 0 i0 + (B.sh 0 (B.last + m) - B.sh 0 B.last) = B.sh 0 d := by
          by_cases z : m = 0
          · have e : i0 = d := by omega
            rw [z, e]
            constructor <;> (rw [Nat.add_zero]; omega)
          · have e : i0 = B.last := by omega
            have e2 : B.last + m = d := by omega
            rw [e, e2]
            constructor <;> omega
        rw [fin.1, fin.2]
        have hB2 := s2 _ _ hB
        walk_at "rd"
        refine ⟨a, B, d, rfl, hM.mono s2, fun H3 s3 => ?_⟩
        walk_at "rd"
        refine r_nwT (Nat.le_of_ble_eq_true rfl) fun q hq => ?_
        exact k q _ (sameT (sameT s2 s3) (same_new hq)) upd_same
    have lps : (V.non :: ps).length = B.n + 1 := by
      rw [List.length_cons, hl]
    have cut1 : cutV (V.non :: ps) (some 1) none = ps := cutV_drop (xs := V.non :: ps) 1
    have cut2 : cutV ps (some (((m % B.n : Nat) : Int) - 1)) (some ((m % B.n : Nat) : Int)) = if m % B.n = 0 then [] else [ps.getD (m % B.n - 1) .non] := by
      by_cases z : m % B.n = 0
      · rw [z, if_pos rfl]
        unfold cutV
        have e : HT.sIx ps.length ps.length (some ((0 : Nat) : Int)) = 0 := by
          rw [HT.sIx_nat]
          omega
        rw [e, Nat.zero_sub, List.take_zero]
      · rw [if_neg z]
        have e : ((m % B.n : Nat) : Int) - 1 = ((m % B.n - 1 : Nat) : Int) := by omega
        rw [e, cutV_mid _ _ (by omega)]
        have lt : m % B.n - 1 < ps.length := by omega
        refine List.ext_getElem (by simp; omega) fun i h1 h2 => ?_
        simp at h2
        subst h2
        simp [List.getD_eq_getElem?_getD, lt]
    have rest : ∀ (H2 : Hp), Same H H2 → m % B.n ≠ 0 → Stage K H2 B (ps.getD (m % B.n - 1) .non) (m / B.n * B.n) m := fun H2 s2 z => by
      obtain ⟨v, hv⟩ : ∃ v, ps[m % B.n - 1]? = some v := ⟨_, List.getElem?_eq_getElem (by omega)⟩
      obtain ⟨p, g, rfl, hg, hr⟩ := hps _ _ hv
      have e3 : m % B.n - 1 + 1 = m % B.n := by omega
      rw [e3] at hr
      have q := hr.later ok.last_ge (m / B.n)
      have e4 : B.last + m / B.n * B.n + m % B.n = B.last + m := by
        rw [Nat.mul_comm] at dm
        omega
      refine ⟨p, g, by rw [List.getD_eq_getElem?_getD, hv]; rfl, hg.mono s2, ?_, ?_, ?_⟩
      · rw [q.fin, ← st_rf, e4]
      · rw [q.mis, rm_sm, ← e4, sm_add B 0 (B.last + m / B.n * B.n) (m % B.n), Nat.zero_add]
      · rw [q.thr, rt_sh, ← e4, sh_add B 0 (B.last + m / B.n * B.n) (m % B.n), Nat.zero_add]
    refine i2 (fun c => ?_) (fun c => ?_)
    · obtain ⟨v, hv⟩ : ∃ v, ps[B.n - 1]? = some v := ⟨_, List.getElem?_eq_getElem (by omega)⟩
      obtain ⟨p, g, rfl, ⟨dg, hg⟩, hr⟩ := hps _ _ hv
      have hg1 := sm _ _ hg
      walk_at "rd"
      refine r_ixLa (sqL_at hp1) (v := .ref p) (at_m1 ?_) ?_
      · show (V.non :: ps)[ps.length + 1 - 1]? = _
        have e4 : ps.length + 1 - 1 = B.n - 1 + 1 := by omega
        rw [e4]
        exact hv
      walk_at "rd"
      refine use_pow hg1 c hr.ok fun p2 g2 H2 s2 ⟨dp, hp2⟩ hg2 => ?_
      have s02 := sameT sm s2
      walk_at "rd"
      refine r_nwL (Nat.le_of_ble_eq_true rfl) fun l1 hl1 => ?_
      have s3 := sameT s02 (same_new hl1 (o := .lst [.ref p2]))
      have h31 : (upd H2 l1 (.lst [.ref p2])) l1 = some (.lst [.ref p2]) := upd_same
      have hp23 := (same_new hl1 (o := .lst [.ref p2])) _ _ hp2
      generalize upd H2 l1 (.lst [.ref p2]) = H3 at s3 h31 hp23 ⊢
      have hB3 := s3 _ _ hB
      walk_at "rd"
      refine r_slL (sqL_at (s3 _ _ hp)) fun l2 hl2 => ?_
      rw [cut1]
      have s4 := sameT s3 (same_new hl2 (o := .lst ps))
      have h41 := (same_new hl2 (o := .lst ps)) _ _ h31
      have hp24 := (same_new hl2 (o := .lst ps)) _ _ hp23
      have h42 : (upd H3 l2 (.lst ps)) l2 = some (.lst ps) := upd_same
      generalize upd H3 l2 (.lst ps) = H4 at s4 h41 hp24 h42 ⊢
      walk_at "rd"
      refine r_slL (sqL_at h42) fun l3 hl3 => ?_
      rw [cut2]
      generalize hY : (if m % B.n = 0 then [] else [ps.getD (m % B.n - 1) V.non]) = Y
      have s5 := sameT s4 (same_new hl3 (o := .lst Y))
      have h51 := (same_new hl3 (o := .lst Y)) _ _ h41
      have hp25 := (same_new hl3 (o := .lst Y)) _ _ hp24
      have h53 : (upd H4 l3 (.lst Y)) l3 = some (.lst Y) := upd_same
      generalize upd H4 l3 (.lst Y) = H5 at s5 h51 hp25 h53 ⊢
      have Yl : Y.length ≤ 1 := by
        rw [← hY]
        split <;> simp
      refine r_cat h51 h53 (Nat.le_trans (show _ ≤ 2 by simp; omega) (by decide)) fun l4 hl4 => ?_
      have s6 := sameT s5 (same_new hl4 (o := .lst ([.ref p2] ++ Y)))
      have hp26 := (same_new hl4 (o := .lst ([.ref p2] ++ Y))) _ _ hp25
      refine ⟨_, rfl, ⟨_, sqL_at upd_same⟩, ?_⟩
      have e3 : B.n - 1 + 1 = B.n := by omega
      rw [e3] at hr
      have rd := hr.rounds ok.last_ge (m / B.n)
      have e5 : (((m / B.n : Nat) : Int)).toNat = m / B.n := rfl
      rw [e5] at hg2
      have whole : Stage K (upd H5 l4 (.lst ([.ref p2] ++ Y))) B (.ref p2) 0 (m / B.n * B.n) := by
        refine ⟨p2, g2, rfl, ⟨dp, hp26⟩, ?_, ?_, ?_⟩
        · rw [hg2.fin]
          exact rd.1
        · rw [hg2.mis, Nat.add_zero, rd.2.1, sm_add B 0 B.last (m / B.n * B.n), Nat.zero_add]
        · rw [hg2.thr, Nat.add_zero, rd.2.2, sh_add B 0 B.last (m / B.n * B.n), Nat.zero_add]
      by_cases z : m % B.n = 0
      · have ey : Y = [] := by rw [← hY, if_pos z]
        subst ey
        have em : m / B.n * B.n = m := by
          rw [Nat.mul_comm] at dm
          omega
        rw [em] at whole
        exact tail l4 ([.ref p2] ++ []) _ (fun i => if i = 0 then 0 else m) _ _ s6 upd_same rfl rfl fun i v e => by
          cases i with
          | zero =>
            have ev2 : v = .ref p2 := by simpa using e.symm
            rw [ev2]
            exact whole
          | succ i => simp at e
      · have ey : Y = [ps.getD (m % B.n - 1) V.non] := by rw [← hY, if_neg z]
        subst ey
        exact tail l4 ([.ref p2] ++ [ps.getD (m % B.n - 1) V.non]) _ (fun i => if i = 0 then 0 else if i = 1 then m / B.n * B.n else m) _ _ s6 upd_same rfl rfl fun i v e => by
          cases i with
          | zero =>
            have ev2 : v = .ref p2 := by simpa using e.symm
            rw [ev2]
            exact whole
          | succ i =>
            cases i with
            | zero =>
              have ev2 : v = ps.getD (m % B.n - 1) V.non := by simpa using e.symm
              rw [ev2]
              exact rest _ s6 z
            | succ i => simp at e
    · have mz : m / B.n = 0 := Nat.le_zero.mp (Nat.not_lt.mp fun z => c (Int.ofNat_lt.mpr z))
      walk_at "rd"
      refine r_nwL (Nat.le_of_ble_eq_true rfl) fun l1 hl1 => ?_
      have s3 := sameT sm (same_new hl1 (o := .lst []))
      have h31 : (upd H' l1 (.lst [])) l1 = some (.lst []) := upd_same
      generalize upd H' l1 (.lst []) = H3 at s3 h31 ⊢
      have hB3 := s3 _ _ hB
      walk_at "rd"
      refine r_slL (sqL_at (s3 _ _ hp)) fun l2 hl2 => ?_
      rw [cut1]
      have s4 := sameT s3 (same_new hl2 (o := .lst ps))
      have h41 := (same_new hl2 (o := .lst ps)) _ _ h31
      have h42 : (upd H3 l2 (.lst ps)) l2 = some (.lst ps) := upd_same
      generalize upd H3 l2 (.lst ps) = H4 at s4 h41 h42 ⊢
      walk_at "rd"
      refine r_slL (sqL_at h42) fun l3 hl3 => ?_
      rw [cut2]
      generalize hY : (if m % B.n = 0 then [] else [ps.getD (m % B.n - 1) V.non]) = Y
      have s5 := sameT s4 (same_new hl3 (o := .lst Y))
      have h51 := (same_new hl3 (o := .lst Y)) _ _ h41
      have h53 : (upd H4 l3 (.lst Y)) l3 = some (.lst Y) := upd_same
      generalize upd H4 l3 (.lst Y) = H5 at s5 h51 h53 ⊢
      have Yl : Y.length ≤ 1 := by
        rw [← hY]
        split <;> simp
      refine r_cat h51 h53 (Nat.le_trans (show _ ≤ 2 by simp; omega) (by decide)) fun l4 hl4 => ?_
      have s6 := sameT s5 (same_new hl4 (o := .lst ([] ++ Y)))
      refine ⟨_, rfl, ⟨_, sqL_at upd_same⟩, ?_⟩
      by_cases z : m % B.n = 0
      · have ey : Y = [] := by rw [← hY, if_pos z]
        subst ey
        have em : m = 0 := by
          rw [mz] at dm
          omega
        exact tail l4 ([] ++ []) _ (fun i => 0) _ _ s6 upd_same rfl em.symm fun i v e => by simp at e
      · have ey : Y = [ps.getD (m % B.n - 1) V.non] := by rw [← hY, if_neg z]
        subst ey
        exact tail l4 ([] ++ [ps.getD (m % B.n - 1) V.non]) _ (fun i => if i = 0 then 0 else m) _ _ s6 upd_same rfl rfl fun i v e => by
          cases i with
          | zero =>
            have ev2 : v = ps.getD (m % B.n - 1) V.non := by simpa using e.symm
            rw [ev2]
            have q := rest _ s6 z
            rw [mz, Nat.zero_mul] at q
            exact q
          | succ i => simp at e
def spShf (K : PySem.W.Frag) : Sp := fun vs H Q _ => ∃ (a : Addr) (B : Bak) (d : Nat), vs = [.ref a, .int (d : Nat)] ∧ BakM K H a B ∧ d ≤ 1000000000000000000 ∧ ∀ p vs H', Same H H' → H' p = some (.lst vs) → Pairs H' vs (B.shelf d) → Q (.ref p) H'
theorem ok_Bakery_shelf {P : Program} {w : World} {K : PySem.W.Frag} {mg : Str → Option Value} {base : Heap} (T : Tx K mg) : C8.Met P w K mg base 6 (He.ga K "Bakery") "shelf" (spShf K) [] := by
  have G_validate_number := ok_validate_number (P := P) (w := w) (base := base) T
  have G_Bakery_start_of := ok_Bakery_start_of (P := P) (w := w) (base := base) T
  have G_Bakery_baked_on := ok_Bakery_baked_on (P := P) (w := w) (base := base) T
  refine met_of (d := d_Bakery_shelf) (C := "Bakery") (m := "shelf") (fn_Bakery_shelf T) rfl rfl (fc_Bakery T) (fme_Bakery_shelf T) sc_Bakery_shelf (fun _ _ _ _ _ _ us hl => match us, hl with | [_, _], _ => rfl) (fun vs H Q E h => ?_) (fun cdv A outer s H vs Q E hr h => ?_)
  · obtain ⟨a, B, d, rfl, hM, hd, k⟩ := h
    rfl
  obtain ⟨a, B, d, rfl, hM, hd, k⟩ := h
  refine ⟨_, (pss_cons (ps_expr (C8.pe_c G_validate_number hr (by decide) (by rfl) (pa_cons (pv 1) (pa_cons pe_int (pa_cons (C8.pe_gc rfl (gc_int (fi_MAX_DAY T))) pa_nil)))))
      (pss_cons (ps_par (i := 2) (j := 3) (by rfl) sc_Bakery_shelf.nd rfl rfl (by decide) rfl rfl (pa_cons (C8.pe_mt G_Bakery_start_of hr (by decide) (pv 0) (pa_cons (pv 1) pa_nil)) (pa_cons (pe_lst pa_nil) pa_nil)) (by rfl))
      (pss_cons (ps_for PassesOwn.never rfl (pi_range2 (by rfl) (fn_range T) (pa_cons pe_int (pa_cons (pe_fld (pv 0) rfl) pa_nil))) (pg_name (i := 4) sc_Bakery_shelf.nd rfl (Or.inl rfl)) (pss_cons (ps_set (i := 5) sc_Bakery_shelf.nd rfl (Or.inl rfl) (pe_callB (cq_min2 rfl) (by rfl) (fn_min T) bb_min (pa_cons (pv 2) (pa_cons (C8.pe_mt G_Bakery_baked_on hr (by decide) (pv 0) (pa_cons (pe_op op_sub (pv 1) (pv 4)) pa_nil)) pa_nil))))
      (pss_cons (ps_aug (i := 2) sc_Bakery_shelf.nd rfl (Or.inl rfl) (pv 5) ip_sub)
      (pss_one (ps_if (pt_cmpR op_gt (pv 5) pe_int (nomark _)) (pss_one (ps_expr (pe_bm PySem.F.plainAttrs_list PySem.F.slot_list_append PySem.F.type_list_append mt_append (pv 3) (pa_cons (pe_tup (pa_cons (pe_op op_sub (pv 1) (pv 4)) (pa_cons (pv 5) pa_nil))) pa_nil)))) pss_nil)))))
      (pss_one (ps_ret (pe_revL (pv 3))))))), ?_⟩
  try dsimp only [cxOf, Cx.nox, Cx.wish]
  repeat rw [st_cons]
  repeat rw [st_none]
  try rw [st_nn]
  obtain ⟨ok, dx, tb, tw, te, tr, tp, r, ps, hB, hq, hb, hw, he, hp, hl, hps⟩ := id hM
  have hq' : Rst (bakR te tr tp r) := bakR_rst hq
  walk_at "rd"
  refine ⟨_, _, _, rfl, by omega, by omega, ?_⟩
  walk_at "rd"
  refine ⟨a, B, d, rfl, hM, fun H1 s1 => ?_⟩
  have l0 := ok.l0
  have l1 := ok.l1
  walk_at "rd"
  refine r_nwL (Nat.le_of_ble_eq_true rfl) fun f hf => ?_
  have hf0 : H f = none := none_of_same s1 hf
  have hB2 := (same_new hf (o := .lst [])) _ _ (s1 _ _ hB)
  walk_at "rd"
  refine ⟨_, _, rfl, by omega, ?_⟩
  refine fR_range (fun i σ H' => ∃ (vs : List V) (x y : Option V), σ = [some (.ref a), some (.int (d : Nat)), some (.int (B.sg d i).1), some (.ref f), x, y] ∧ Same H H' ∧ H' f = some (.lst vs) ∧ Pairs H' vs (B.sg d i).2) ⟨[], _, _, rfl, same_mut s1 hf0, upd_same, rfl, fun i v z e => by simp at e⟩ ?_ ?_
  · rintro i σ H' hi ⟨vs, x, y, rfl, sm, hfv, hlen, hpr⟩
    have hB3 := sm _ _ hB
    walk_at "rd"
    refine ⟨a, B, _, rfl, (hM.mono sm).c, ?_⟩
    walk_at "rd"
    have sz : (B.sg d (i + 1)) = ((B.sg d i).1 - min (B.sg d i).1 (B.bk ((d : Int) - (1 + (i : Nat)))), if 0 < min (B.sg d i).1 (B.bk ((d : Int) - (1 + (i : Nat)))) then (B.sg d i).2 ++ [((d : Int) - (1 + (i : Nat)), min (B.sg d i).1 (B.bk ((d : Int) - (1 + (i : Nat)))))] else (B.sg d i).2) := rfl
    refine i2 (fun c => ?_) (fun c => ?_)
    · rw [sz, if_pos c]
      walk_at "rd"
      refine r_nwT (Nat.le_of_ble_eq_true rfl) fun q hq => ?_
      have hfq : (upd H' q (.tup [.int ((d : Int) - (1 + (i : Nat))), .int (min (B.sg d i).1 (B.bk ((d : Int) - (1 + (i : Nat)))))])) f = some (.lst vs) := (same_new hq) _ _ hfv
      walk_at "rd"
      refine r_append hfq (by have := sg_len B d i; omega) ?_
      refine ⟨_, _, _, rfl, same_mut (sameT sm (same_new hq)) hf0, upd_same, by simp [hlen], fun j v z e1 e2 => ?_⟩
      have nqf : q ≠ f := fun z => by
        subst z
        rw [hfv] at hq
        cases hq
      rcases Nat.lt_trichotomy j vs.length with lt | eq | gt
      · rw [List.getElem?_append_left lt] at e1
        rw [List.getElem?_append_left (by omega)] at e2
        obtain ⟨p, e3, e4⟩ := hpr j v z e1 e2
        exact ⟨p, e3, Stab.tup.2 _ _ _ _ (Stab.tup.1 _ _ e4 (same_new hq)) hfq⟩
      · subst eq
        rw [List.getElem?_append_right (Nat.le_refl _)] at e1
        rw [List.getElem?_append_right (by omega)] at e2
        simp at e1
        simp [hlen] at e2
        subst e1 e2
        exact ⟨q, rfl, by rw [upd_ne nqf]; exact upd_same⟩
      · rw [List.getElem?_eq_none (by simp; omega)] at e1
        cases e1
    · rw [sz, if_neg c]
      walk_at "rd"
      exact ⟨vs, _, _, rfl, sm, hfv, hlen, hpr⟩
  · rintro σ H' ⟨vs, x, y, rfl, sm, hfv, hlen, hpr⟩
    walk_at "rd"
    refine r_revL (sqL_at hfv) fun p hp2 => ?_
    have z : Pairs (upd H' p (.lst vs.reverse)) vs.reverse (B.shelf d) := by
      refine ⟨by unfold Bak.shelf; simp [hlen], fun i v z e1 e2 => ?_⟩
      have lt : i < vs.length := by
        have := (List.getElem?_eq_some_iff.mp e1).1
        simpa using this
      unfold Bak.shelf at e2
      rw [List.getElem?_reverse lt] at e1
      rw [List.getElem?_reverse (by omega), ← hlen] at e2
      obtain ⟨q, e3, e4⟩ := hpr _ v z e1 e2
      exact ⟨q, e3, same_new hp2 _ _ e4⟩
    exact k p _ _ (sameT sm (same_new hp2)) upd_same z

end G57
end
section
set_option maxRecDepth 100000
set_option maxHeartbeats 4000000
namespace G57
open PySem PySem.Spec PyProof.Rows L2
/-! the walk's small steps: "rd" reads on as far as it can -/
local macro_rules | `(tactic| walk_at "fact") => `(tactic| fail)
local macro_rules | `(tactic| walk_at "rd1") => `(tactic| with_reducible first
  | (refine v_id ?_; first | refine r_var_0 ?_ | refine r_var_1 ?_ | refine r_var_2 ?_ | refine r_var_3 ?_ | refine r_var_4 ?_ | refine r_var_5 ?_ | refine r_var_6 ?_ | refine r_var_7 ?_ | refine r_var_8 ?_ | refine r_var_9 ?_ | refine r_var_10 ?_ | refine r_var_11 ?_ | refine r_var_12 ?_ | refine r_var_13 ?_ | refine r_var_14 ?_ | refine r_var_15 ?_ | refine r_var_16 ?_ | refine r_var_17 ?_ | refine r_var_18 ?_ | refine r_var_19 ?_ | refine r_var_20 ?_ | refine r_var_21 ?_ | refine r_var_22 ?_ | refine r_var_23 ?_ | refine r_var_24 ?_ | refine r_var_25 ?_ | refine r_var_26 ?_ | refine r_var_27 ?_ | refine r_var rfl ?_)
  | (refine s_id ?_; first | refine r_set_0 ?_ | refine r_set_1 ?_ | refine r_set_2 ?_ | refine r_set_3 ?_ | refine r_set_4 ?_ | refine r_set_5 ?_ | refine r_set_6 ?_ | refine r_set_7 ?_ | refine r_set_8 ?_ | refine r_set_9 ?_ | refine r_set_10 ?_ | refine r_set_11 ?_ | refine r_set_12 ?_ | refine r_set_13 ?_ | refine r_set_14 ?_ | refine r_set_15 ?_ | refine r_set_16 ?_ | refine r_set_17 ?_ | refine r_set_18 ?_ | refine r_set_19 ?_ | refine r_set_20 ?_ | refine r_set_21 ?_ | refine r_set_22 ?_ | refine r_set_23 ?_ | refine r_set_24 ?_ | refine r_set_25 ?_ | refine r_set_26 ?_ | refine r_set_27 ?_ | refine r_setU ?_)
  | refine r_c ?_
  | refine r_op ?_
  | refine r_I0 ?_
  | refine r_seq ?_
  | refine r_asg ?_
  | refine r_fld ?_
  | refine r_nil ?_
  | refine r_cons ?_
  | refine r_cb ?_
  | refine r_max ?_
  | refine r_min ?_
  | refine r_ret ?_
  | refine r_met ?_
  | refine r_call ?_
  | refine r_B ?_
  | refine r_test ?_
  | refine r_b' ?_
  | refine r_ifS ?_
  | refine r_if ?_
  | refine r_par ?_
  | refine r_par2 ?_
  | refine r_drop ?_
  | refine r_next ?_
  | refine r_make ?_
  | refine r_sfld ?_
  | refine r_int1 ?_
  | refine r_intb ?_
  | refine r_and ?_
  | refine r_or ?_
  | refine r_not ?_
  | refine r_chain ?_
  | refine r_isN ?_
  | refine r_notN ?_
  | refine r_un ?_
  | refine r_U ?_
  | refine r_par3 ?_
  | refine r_par33 ?_
  | refine r_tup ?_
  | refine r_lst ?_
  | refine r_prop ?_
  | refine r_bm ?_
  | refine r_bm0 ?_
  | refine r_andV ?_
  | refine r_orV ?_
  | refine r_notV ?_
  | refine r_asgG ?_
  | refine r_gname ?_
  | refine r_gcons ?_
  | refine r_gnil ?_
  | refine r_rng1 ?_
  | refine r_rng2 ?_
  | refine r_for ?_
  | refine r_lc1 ?_
  | refine r_lc2 ?_
  | refine r_lc3 ?_
  | refine r_lc ?_
  | refine r_while ?_
  | refine r_rev ?_
  | refine r_sl ?_
  | refine r_augS ?_
  | refine r_iL ?_
  | refine r_iT ?_
  | refine r_iE ?_
  | refine r_ipI ?_
  | refine r_aug rfl ?_
  | refine r_cval ?_
  | refine r_turnN ?_
  | refine iT ?_
  | refine iNT ?_
  | refine iNF ?_
  | refine iOF ?_
  | refine iF ?_
  | refine r_part ?_
  | refine r_pi ?_
  | refine r_gsub ?_
  | refine r_noPart ?_)
local macro_rules | `(tactic| walk_at "rd") => `(tactic| (repeat (first | walk_at "rd1" | walk_at "fact")))
local macro_rules | `(tactic| walk_at "plen") => `(tactic| (repeat (first | decide | refine putF_lt ?_)))
local macro_rules | `(tactic| walk_at "rs") => `(tactic| (repeat ((fail_if_success (with_reducible refine r_stop ?_)); (first | walk_at "rd1" | walk_at "fact"))))
theorem lkB_settled {tb tw te tr tp ts : Addr} {B : Bak} : (bakF tb tw B (bakR te tr tp [("settled", .ref ts)])).lookup ("settled" : Str) = some (V.ref ts) := by kernel_rfl
local macro_rules | `(tactic| walk_at "fact") => `(tactic| with_reducible first
  | refine fB_baking ‹_› (by assumption) ?_
  | refine fB_wishes ‹_› (by assumption) ?_
  | refine fB_days_kept ‹_› (by assumption) ?_
  | refine fB_size ‹_› (by assumption) ?_
  | refine mB (by assumption) (by assumption) (by decide) ?_)
def spSdy (K : PySem.W.Frag) : Sp := fun vs H Q _ => ∃ (a : Addr) (B : Bak), vs = [.ref a] ∧ BakAt K H a B ∧ ∀ D : Nat, Settled B D → Q (.int (D : Nat)) H
theorem ok_Bakery_settled_day {P : Program} {w : World} {K : PySem.W.Frag} {mg : Str → Option Value} {base : Heap} (T : Tx K mg) : Prp P w K mg base 1 (He.ga K "Bakery") "settled_day" (spSdy K) := by
  refine prp_of (d := d_Bakery_settled_day) (C := "Bakery") (f := "settled_day") (fn_Bakery_settled_day T) rfl rfl (fc_Bakery T) (fpr_Bakery_settled_day T) sc_Bakery_settled_day (fun _ _ _ _ _ _ us hl => match us, hl with | [_], _ => rfl) (fun vs H Q E h => ?_) (fun cdv A outer s H vs Q E hr h => ?_)
  · obtain ⟨a, B, rfl, ⟨ok, dx, tb, tw, te, tr, tp, ts, ps, hB, hb, hw, he, hp, hl, hps, q, D, R, h1, h2, h3, _⟩, k⟩ := h
    rfl
  obtain ⟨a, B, rfl, ⟨ok, dx, tb, tw, te, tr, tp, ts, ps, hB, hb, hw, he, hp, hl, hps, q, D, R, h1, h2, h3, _⟩, k⟩ := h
  refine ⟨_, (pss_one (ps_ret (pe_ix ix_tup (pe_fld (pv 0) rfl) pe_int (fun _ _ => rfl)))), ?_⟩
  try dsimp only [cxOf, Cx.nox, Cx.wish]
  repeat rw [st_cons]
  repeat rw [st_none]
  try rw [st_nn]
  walk_at "rd"
  refine r_fldR hB (fc_Bakery T) (fna_Bakery_settled T) lkB_settled ?_
  walk_at "rd"
  refine r_ixT (sqT_at h1) (j := 0) rfl rfl ?_
  exact k D h3
/-- the sums over a round from a settled day on -/
def spLrn (K : PySem.W.Frag) : Sp := fun vs H Q _ => ∃ (a : Addr) (B : Bak), vs = [.ref a] ∧ BakAt K H a B ∧ ∀ (q : Addr) (D R : Nat), Settled B D → B.last ≤ R → D ≤ R → H q = some (.tup [.int (B.dems.sum - B.sm R B.n), .int (B.sm R B.n), .int (B.sh R B.n)]) → Q (.ref q) H
theorem ok_Bakery_long_run {P : Program} {w : World} {K : PySem.W.Frag} {mg : Str → Option Value} {base : Heap} (T : Tx K mg) : Prp P w K mg base 1 (He.ga K "Bakery") "long_run" (spLrn K) := by
  refine prp_of (d := d_Bakery_long_run) (C := "Bakery") (f := "long_run") (fn_Bakery_long_run T) rfl rfl (fc_Bakery T) (fpr_Bakery_long_run T) sc_Bakery_long_run (fun _ _ _ _ _ _ us hl => match us, hl with | [_], _ => rfl) (fun vs H Q E h => ?_) (fun cdv A outer s H vs Q E hr h => ?_)
  · obtain ⟨a, B, rfl, ⟨ok, dx, tb, tw, te, tr, tp, ts, ps, hB, hb, hw, he, hp, hl, hps, q, D, R, h1, h2, h3, h4, h5⟩, k⟩ := h
    rfl
  obtain ⟨a, B, rfl, ⟨ok, dx, tb, tw, te, tr, tp, ts, ps, hB, hb, hw, he, hp, hl, hps, q, D, R, h1, h2, h3, h4, h5⟩, k⟩ := h
  refine ⟨_, (pss_one (ps_ret (pe_ix ix_tup (pe_fld (pv 0) rfl) pe_int (fun _ _ => rfl)))), ?_⟩
  try dsimp only [cxOf, Cx.nox, Cx.wish]
  repeat rw [st_cons]
  repeat rw [st_none]
  try rw [st_nn]
  walk_at "rd"
  refine r_fldR hB (fc_Bakery T) (fna_Bakery_settled T) lkB_settled ?_
  walk_at "rd"
  refine r_ixT (sqT_at h1) (j := 1) rfl rfl ?_
  exact k q D R h3 h4 h5 h2
def spLiv (K : PySem.W.Frag) : Sp := fun vs H Q _ => ∃ (a : Addr) (B : Bak) (l : Int), vs = [.ref a, .int l] ∧ BakC K H a B ∧ (B.liv l).Ok ∧ ∀ p H' te tp, Same H H' → H te = none → H tp = none → BakAtF K H' p (B.liv l) te tp → Q (.ref p) H'
theorem ok_Bakery_with_life {P : Program} {w : World} {K : PySem.W.Frag} {mg : Str → Option Value} {base : Heap} (T : Tx K mg) : C8.Met P w K mg base 10 (He.ga K "Bakery") "with_life" (spLiv K) [] := by
  have G_Bakery := ok_Bakery_init (P := P) (w := w) (base := base) T
  refine met_of (d := d_Bakery_with_life) (C := "Bakery") (m := "with_life") (fn_Bakery_with_life T) rfl rfl (fc_Bakery T) (fme_Bakery_with_life T) sc_Bakery_with_life (fun _ _ _ _ _ _ us hl => match us, hl with | [_, _], _ => rfl) (fun vs H Q E h => ?_) (fun cdv A outer s H vs Q E hr h => ?_)
  · obtain ⟨a, B, l, rfl, ⟨ok, dx, tb, tw, r, hB, hq, hb, hw⟩, okl, k⟩ := h
    rfl
  obtain ⟨a, B, l, rfl, ⟨ok, dx, tb, tw, r, hB, hq, hb, hw⟩, okl, k⟩ := h
  refine ⟨_, (pss_one (ps_ret (C8.pe_mk G_Bakery hr (by decide) (by rfl) (pa_cons (pe_fld (pv 0) rfl) (pa_cons (pe_fld (pv 0) rfl) (pa_cons (pv 1) pa_nil)))))), ?_⟩
  try dsimp only [cxOf, Cx.nox, Cx.wish]
  repeat rw [st_cons]
  repeat rw [st_none]
  try rw [st_nn]
  walk_at "rd"
  exact use_BakeryF (B := B.liv l) rfl hb hw okl k
def spMor (K : PySem.W.Frag) : Sp := fun vs H Q _ => ∃ (a : Addr) (B : Bak) (c : Int), vs = [.ref a, .int c] ∧ BakC K H a B ∧ (B.mor c).Ok ∧ ∀ p H' te tp, Same H H' → H te = none → H tp = none → BakAtF K H' p (B.mor c) te tp → Q (.ref p) H'
theorem ok_Bakery_baking_more {P : Program} {w : World} {K : PySem.W.Frag} {mg : Str → Option Value} {base : Heap} (T : Tx K mg) : C8.Met P w K mg base 10 (He.ga K "Bakery") "baking_more" (spMor K) [] := by
  have G_Bakery := ok_Bakery_init (P := P) (w := w) (base := base) T
  refine met_of (d := d_Bakery_baking_more) (C := "Bakery") (m := "baking_more") (fn_Bakery_baking_more T) rfl rfl (fc_Bakery T) (fme_Bakery_baking_more T) sc_Bakery_baking_more (fun _ _ _ _ _ _ us hl => match us, hl with | [_, _], _ => rfl) (fun vs H Q E h => ?_) (fun cdv A outer s H vs Q E hr h => ?_)
  · obtain ⟨a, B, c, rfl, ⟨ok, dx, tb, tw, r, hB, hq, hb, hw⟩, okm, k⟩ := h
    rfl
  obtain ⟨a, B, c, rfl, ⟨ok, dx, tb, tw, r, hB, hq, hb, hw⟩, okm, k⟩ := h
  refine ⟨_, (pss_one (ps_ret (C8.pe_mk G_Bakery hr (by decide) (by rfl) (pa_cons (pe_callTy cq_tupL (by rfl) (fn_tuple T) bb_tuple (pa_cons (pe_lc (own := [("bake", 2)]) (by rfl) sc_Bakery_baking_more.nd (pi_tup (pe_fld (pv 0) rfl)) (blkOk_by (own := [("bake", 2)]) (N := ["self", "count", "bake"]) (sc := defScope s_Bakery_baking_more) (by decide +kernel)) (fun _ _ _ _ _ => (pg_name (i := 2) sc_Bakery_baking_more.nd rfl (Or.inl rfl))) (fun _ _ _ _ _ => pts_nil) (fun _ _ _ _ _ => by exact (pe_op op_add (pv 2) (pv 1)))) pa_nil)) (pa_cons (pe_fld (pv 0) rfl) (pa_cons (pe_fld (pv 0) rfl) pa_nil)))))), ?_⟩
  try dsimp only [cxOf, Cx.nox, Cx.wish]
  repeat rw [st_cons]
  repeat rw [st_none]
  try rw [st_nn]
  walk_at "rd"
  refine ⟨_, rfl, ⟨_, hb⟩, ?_⟩
  refine lcN_tup (xs := B.bakes.map V.int) (fun i v _ => v = .int ((B.bakes.map fun x => x + c).getD i 0)) (fun _ _ => Stab.triv) hb (Nat.le_trans (show _ ≤ 100 by rw [List.length_map]; have := ok.n1; unfold Bak.n at this; omega) (by decide)) (fun _ => rfl) (fun i x H' Z hx sm z => ?_) fun D H' ys hD sm hl len hys => ?_
  · obtain ⟨y, hy, rfl⟩ : ∃ y, B.bakes[i]? = some y ∧ V.int y = x := by simpa using hx
    walk_at "rd"
    refine z _ _ sameR ?_
    rw [List.getD_eq_getElem?_getD, List.getElem?_map, hy]
    rfl
  · have e : ys = (B.bakes.map fun x => x + c).map V.int := by
      refine List.ext_getElem? fun i => ?_
      by_cases lt : i < ys.length
      · have lb : i < B.bakes.length := by
          rw [List.length_map] at len
          omega
        rw [List.getElem?_eq_getElem lt, hys i _ (List.getElem?_eq_getElem lt), List.getD_eq_getElem?_getD]
        simp [lb]
      · rw [List.getElem?_eq_none (by omega), List.getElem?_eq_none (by simp at len ⊢; omega)]
    walk_at "rd"
    refine r_tupL (sqL_at hl) fun t ht => ?_
    have s2 := sameT sm (same_new ht (o := .tup ys))
    have et : SqT K (upd H' t (.tup ys)) t ((B.mor c).bakes.map V.int) := sqT_at (by rw [upd_same, e]; rfl)
    have hB2 := s2 _ _ hB
    walk_at "rd"
    exact use_BakeryF (B := B.mor c) rfl et (same_sqT s2 hw) okm fun p H2 te tp s n1 n2 h => k p H2 te tp (sameT s2 s) (none_of_same s2 n1) (none_of_same s2 n2) h

end G57
end
section
set_option maxRecDepth 100000
set_option maxHeartbeats 4000000
namespace G57
open PySem PySem.Spec PyProof.Rows L2
/-! the walk's small steps: "rd" reads on as far as it can -/
local macro_rules | `(tactic| walk_at "fact") => `(tactic| fail)
local macro_rules | `(tactic| walk_at "rd1") => `(tactic| with_reducible first
  | (refine v_id ?_; first | refine r_var_0 ?_ | refine r_var_1 ?_ | refine r_var_2 ?_ | refine r_var_3 ?_ | refine r_var_4 ?_ | refine r_var_5 ?_ | refine r_var_6 ?_ | refine r_var_7 ?_ | refine r_var_8 ?_ | refine r_var_9 ?_ | refine r_var_10 ?_ | refine r_var_11 ?_ | refine r_var_12 ?_ | refine r_var_13 ?_ | refine r_var_14 ?_ | refine r_var_15 ?_ | refine r_var_16 ?_ | refine r_var_17 ?_ | refine r_var_18 ?_ | refine r_var_19 ?_ | refine r_var_20 ?_ | refine r_var_21 ?_ | refine r_var_22 ?_ | refine r_var_23 ?_ | refine r_var_24 ?_ | refine r_var_25 ?_ | refine r_var_26 ?_ | refine r_var_27 ?_ | refine r_var rfl ?_)
  | (refine s_id ?_; first | refine r_set_0 ?_ | refine r_set_1 ?_ | refine r_set_2 ?_ | refine r_set_3 ?_ | refine r_set_4 ?_ | refine r_set_5 ?_ | refine r_set_6 ?_ | refine r_set_7 ?_ | refine r_set_8 ?_ | refine r_set_9 ?_ | refine r_set_10 ?_ | refine r_set_11 ?_ | refine r_set_12 ?_ | refine r_set_13 ?_ | refine r_set_14 ?_ | refine r_set_15 ?_ | refine r_set_16 ?_ | refine r_set_17 ?_ | refine r_set_18 ?_ | refine r_set_19 ?_ | refine r_set_20 ?_ | refine r_set_21 ?_ | refine r_set_22 ?_ | refine r_set_23 ?_ | refine r_set_24 ?_ | refine r_set_25 ?_ | refine r_set_26 ?_ | refine r_set_27 ?_ | refine r_setU ?_)
  | refine r_c ?_
  | refine r_op ?_
  | refine r_I0 ?_
  | refine r_seq ?_
  | refine r_asg ?_
  | refine r_fld ?_
  | refine r_nil ?_
  | refine r_cons ?_
  | refine r_cb ?_
  | refine r_max ?_
  | refine r_min ?_
  | refine r_ret ?_
  | refine r_met ?_
  | refine r_call ?_
  | refine r_B ?_
  | refine r_test ?_
  | refine r_b' ?_
  | refine r_ifS ?_
  | refine r_if ?_
  | refine r_par ?_
  | refine r_par2 ?_
  | refine r_drop ?_
  | refine r_next ?_
  | refine r_make ?_
  | refine r_sfld ?_
  | refine r_int1 ?_
  | refine r_intb ?_
  | refine r_and ?_
  | refine r_or ?_
  | refine r_not ?_
  | refine r_chain ?_
  | refine r_isN ?_
  | refine r_notN ?_
  | refine r_un ?_
  | refine r_U ?_
  | refine r_par3 ?_
  | refine r_par33 ?_
  | refine r_tup ?_
  | refine r_lst ?_
  | refine r_prop ?_
  | refine r_bm ?_
  | refine r_bm0 ?_
  | refine r_andV ?_
  | refine r_orV ?_
  | refine r_notV ?_
  | refine r_asgG ?_
  | refine r_gname ?_
  | refine r_gcons ?_
  | refine r_gnil ?_
  | refine r_rng1 ?_
  | refine r_rng2 ?_
  | refine r_for ?_
  | refine r_lc1 ?_
  | refine r_lc2 ?_
  | refine r_lc3 ?_
  | refine r_lc ?_
  | refine r_while ?_
  | refine r_rev ?_
  | refine r_sl ?_
  | refine r_augS ?_
  | refine r_iL ?_
  | refine r_iT ?_
  | refine r_iE ?_
  | refine r_ipI ?_
  | refine r_aug rfl ?_
  | refine r_cval ?_
  | refine r_turnN ?_
  | refine iT ?_
  | refine iNT ?_
  | refine iNF ?_
  | refine iOF ?_
  | refine iF ?_
  | refine r_part ?_
  | refine r_pi ?_
  | refine r_gsub ?_
  | refine r_noPart ?_)
local macro_rules | `(tactic| walk_at "rd") => `(tactic| (repeat (first | walk_at "rd1" | walk_at "fact")))
local macro_rules | `(tactic| walk_at "plen") => `(tactic| (repeat (first | decide | refine putF_lt ?_)))
local macro_rules | `(tactic| walk_at "rs") => `(tactic| (repeat ((fail_if_success (with_reducible refine r_stop ?_)); (first | walk_at "rd1" | walk_at "fact"))))
section
variable {K : PySem.W.Frag} {σ : L2.St} {H H' : Hp} {Q : VK} {E : XK} {a b : Addr} {B : Bak}
/-- a Bakery whose lists are not those that draw -/
def BakD (K : PySem.W.Frag) (h l : Addr) (H : Hp) (a : Addr) (B : Bak) : Prop := ∃ te tp, (te ≠ h ∧ te ≠ l) ∧ (tp ≠ h ∧ tp ≠ l) ∧ BakAtF K H a B te tp
theorem bakD_s {h l : Addr} (s : Same H H') (b : BakD K h l H a B) : BakD K h l H' a B := let ⟨te, tp, n1, n2, k⟩ := b; ⟨te, tp, n1, n2, k.mono s⟩
theorem bakD_d {h l : Addr} (s : SameD h l H H') (hat : Hat H h l) (b : BakD K h l H a B) : BakD K h l H' a B := let ⟨te, tp, n1, n2, k⟩ := b; ⟨te, tp, n1, n2, k.sd s hat n1 n2⟩
theorem bakD_id {h l : Addr} (b : BakD K h l H a B) : BakD K h l H a B := b
theorem bakM_id (b : BakM K H a B) : BakM K H a B := b
theorem bakAt_id (b : BakAt K H a B) : BakAt K H a B := b
theorem bakAt_D {h l : Addr} (b : BakD K h l H a B) : BakAt K H a B := let ⟨_, _, _, _, k⟩ := b; k.at
theorem bakAt_s (s : Same H H') (b : BakAt K H a B) : BakAt K H' a B := b.mono s
theorem bakM_at (b : BakAt K H a B) : BakM K H a B := b.m
theorem bakM_s (s : Same H H') (b : BakM K H a B) : BakM K H' a B := b.mono s
theorem bakC_M (b : BakM K H a B) : BakC K H a B := b.c
theorem BakAt.ok (b : BakAt K H a B) : B.Ok := b.1
theorem BakD.ok {h l : Addr} (b : BakD K h l H a B) : B.Ok := (bakAt_D b).1
theorem mBk {m : Str} {sp : Sp} {t : TA} (h : BakC K H a B) (hm : m ∈ bakMs) (q : t σ H fun vs H2 => sp (.ref a :: vs) H2 Q E) : MetR (He.ga K "Bakery") m sp [] E t σ Q (.ref a) H := by
  obtain ⟨_, dx, tb, tw, r, hB, hr, _⟩ := h
  exact mB hB hr hm q
theorem pBk {sp : Sp} (h : BakC K H a B) (q : sp [.ref a] H Q E) : ∃ a' dx fs, V.ref a = .ref a' ∧ H a' = some (.ins (He.ga K "Bakery") dx fs) ∧ sp [.ref a'] H Q E := by
  obtain ⟨_, dx, tb, tw, r, hB, hr, _⟩ := h
  exact r_propR hB q
theorem use_BakeryD {tb tw h l : Addr} (hat : Hat H h l) (hb : SqT K H tb (B.bakes.map V.int)) (hw : SqT K H tw (B.dems.map V.int)) (ok : B.Ok) (q : ∀ p H', Same H H' → BakD K h l H' p B → Q (.ref p) H') : MakR (He.ga K "Bakery") (spBakInit K) E Q [.ref tb, .ref tw, .int B.life] H :=
  use_BakeryF rfl hb hw ok fun p H' te tp s n1 n2 k => q p H' s ⟨te, tp, hat.ne n1, hat.ne n2, k⟩
theorem use_Bakery0 {tb tw : Addr} (hb : SqT K H tb (B.bakes.map V.int)) (hw : SqT K H tw (B.dems.map V.int)) (ok : B.Ok) (q : ∀ p H', Same H H' → BakAt K H' p B → Q (.ref p) H') : MakR (He.ga K "Bakery") (spBakInit K) E Q [.ref tb, .ref tw, .int B.life] H := use_Bakery rfl hb hw ok q
theorem a_lenTB (h : SqT K H a (B.bakes.map V.int)) (q : Q (.int (B.n : Nat)) H) : rLenQ K [.ref a] H Q := r_lenT h (by rw [List.length_map]; exact q)
theorem ix_map {l : List Int} {i : Nat} (h : i < l.length) : (l.map V.int)[i]? = some (.int (l.getD i 0)) := by
  rw [List.getElem?_map, List.getD_eq_getElem?_getD, List.getElem?_eq_getElem h]
  rfl
theorem a_lenTD (h : SqT K H a (B.dems.map V.int)) (ok : B.Ok) (q : Q (.int (B.n : Nat)) H) : rLenQ K [.ref a] H Q := r_lenT h (by rw [List.length_map, ok.m]; exact q)
theorem a_ixD {d : Int} (h : SqT K H a (B.dems.map V.int)) (ok : B.Ok) (q : Q (.int (B.wish d)) H) : rIxT K (.ref a) (.int (d % (B.n : Nat))) H Q := r_ixT h (ok.ix d).2.symm (by rw [List.getElem?_map, ok.wish_at d]; rfl) q
theorem a_ixB {d : Int} (h : SqT K H a (B.bakes.map V.int)) (ok : B.Ok) (d0 : 0 ≤ d) (q : Q (.int (B.bk d)) H) : rIxT K (.ref a) (.int (d % (B.n : Nat))) H Q := r_ixT h (ok.ix d).2.symm (by rw [List.getElem?_map, ok.bk_at d0]; rfl) q
theorem nat_of {x : Int} (h : 0 ≤ x) : x = ((x.toNat : Nat) : Int) := by omega
theorem use_stk {x : Int} (b : BakM K H a B) (h0 : 0 ≤ x) (h1 : x ≤ 1000000000000000000) (q : ∀ H', Same H H' → Q (.int (B.st x.toNat)) H') : spStk K [.ref a, .int x] H Q E := ⟨a, B, x.toNat, by rw [← nat_of h0], b, by omega, q⟩
theorem use_msd {x : Int} (b : BakM K H a B) (h0 : 0 ≤ x) (h1 : x ≤ 1000000000000000000) (q : ∀ H', Same H H' → Q (.int (B.ms x.toNat)) H') : spMsd K [.ref a, .int x] H Q E := ⟨a, B, x.toNat, by rw [← nat_of h0], b, by omega, q⟩
theorem use_thn {x : Int} (b : BakM K H a B) (h0 : 0 ≤ x) (h1 : x ≤ 1000000000000000000) (q : ∀ H', Same H H' → Q (.int (B.th x.toNat)) H') : spThn K [.ref a, .int x] H Q E := ⟨a, B, x.toNat, by rw [← nat_of h0], b, by omega, q⟩
theorem use_sld {x : Int} (b : BakM K H a B) (h0 : 0 ≤ x) (h1 : x ≤ 1000000000000000000) (q : ∀ H', Same H H' → Q (.int (B.wish x - B.ms x.toNat)) H') : spSld K [.ref a, .int x] H Q E := ⟨a, B, x.toNat, by rw [← nat_of h0], b, by omega, by rw [← nat_of h0]; exact q⟩
theorem use_tot {x : Int} (b : BakM K H a B) (h0 : 0 ≤ x) (h1 : x ≤ 1000000000000000000) (q : ∀ p H', Same H H' → H' p = some (.tup [.int (B.ws x.toNat - B.sm 0 x.toNat), .int (B.sm 0 x.toNat), .int (B.sh 0 x.toNat)]) → Q (.ref p) H') : spTot K [.ref a, .int x] H Q E := ⟨a, B, x.toNat, by rw [← nat_of h0], b, by omega, q⟩
theorem use_shf {x : Int} (b : BakM K H a B) (h0 : 0 ≤ x) (h1 : x ≤ 1000000000000000000) (q : ∀ p vs H', Same H H' → H' p = some (.lst vs) → Pairs H' vs (B.shelf x.toNat) → Q (.ref p) H') : spShf K [.ref a, .int x] H Q E := ⟨a, B, x.toNat, by rw [← nat_of h0], b, by omega, q⟩
theorem use_sdy (b : BakAt K H a B) (q : ∀ D : Nat, Settled B D → D ≤ 1000000000000 → Q (.int (D : Nat)) H) : spSdy K [.ref a] H Q E := ⟨a, B, rfl, b, fun D hD => q D hD (settled_le b.1 hD)⟩
theorem use_lrn (b : BakAt K H a B) (q : ∀ (q : Addr) (D : Nat), Settled B D → H q = some (.tup [.int (B.dems.sum - B.sm D B.n), .int (B.sm D B.n), .int (B.sh D B.n)]) → Q (.ref q) H) : spLrn K [.ref a] H Q E := ⟨a, B, rfl, b, fun p D R hD _ hR e => by
  obtain ⟨e1, e2⟩ := sm_from b.1 hD hR
  rw [e1, e2] at e
  exact q p D hD e⟩
theorem use_bks (b : BakC K H a B) (q : ∀ tb, SqT K H tb (B.bakes.map V.int) → Q (.ref tb) H) : spBks K [.ref a] H Q E := by
  obtain ⟨_, dx, tb, tw, r, hB, hr, h1, h2⟩ := b
  exact ⟨a, dx, tb, tw, B, r, rfl, hB, q tb h1⟩
theorem use_dms (b : BakC K H a B) (q : ∀ tw, SqT K H tw (B.dems.map V.int) → Q (.ref tw) H) : spDms K [.ref a] H Q E := by
  obtain ⟨_, dx, tb, tw, r, hB, hr, h1, h2⟩ := b
  exact ⟨a, dx, tb, tw, B, r, rfl, hB, q tw h2⟩
theorem use_lif (b : BakC K H a B) (q : Q (.int B.life) H) : spLif K [.ref a] H Q E := by
  obtain ⟨_, dx, tb, tw, r, hB, hr, h1, h2⟩ := b
  exact ⟨a, dx, tb, tw, B, r, rfl, hB, q⟩
theorem use_liv {x : Int} (b : BakC K H a B) (ok : (B.liv x).Ok) (q : ∀ p H', Same H H' → BakAt K H' p (B.liv x) → Q (.ref p) H') : spLiv K [.ref a, .int x] H Q E := ⟨a, B, x, rfl, b, ok, fun p H' te tp s _ _ k => q p H' s k.at⟩
theorem use_mor {x : Int} (b : BakC K H a B) (ok : (B.mor x).Ok) (q : ∀ p H', Same H H' → BakAt K H' p (B.mor x) → Q (.ref p) H') : spMor K [.ref a, .int x] H Q E := ⟨a, B, x, rfl, b, ok, fun p H' te tp s _ _ k => q p H' s k.at⟩
theorem use_num {x lo hi : Int} (h1 : lo ≤ x) (h2 : x ≤ hi) (q : Q .non H) : spNum [.int x, .int lo, .int hi] H Q E := ⟨x, lo, hi, rfl, h1, h2, q⟩
theorem a_maxB (h : SqT K H a (B.bakes.map V.int)) (ok : B.Ok) (q : ∀ m, m ∈ B.bakes → (∀ x, x ∈ B.bakes → x ≤ m) → Q (.int m) H) : rMaxT K [.ref a] H Q := r_maxT h ok.n0 q
theorem a_minB (h : SqT K H a (B.bakes.map V.int)) (ok : B.Ok) (q : ∀ m, m ∈ B.bakes → (∀ x, x ∈ B.bakes → m ≤ x) → Q (.int m) H) : rMinT K [.ref a] H Q := r_minT h ok.n0 q
end

end G57
end
section
set_option maxRecDepth 100000
set_option maxHeartbeats 4000000
namespace G57
open PySem PySem.Spec PyProof.Rows L2
/-! the walk's small steps: "rd" reads on as far as it can -/
local macro_rules | `(tactic| walk_at "fact") => `(tactic| fail)
local macro_rules | `(tactic| walk_at "rd1") => `(tactic| with_reducible first
  | (refine v_id ?_; first | refine r_var_0 ?_ | refine r_var_1 ?_ | refine r_var_2 ?_ | refine r_var_3 ?_ | refine r_var_4 ?_ | refine r_var_5 ?_ | refine r_var_6 ?_ | refine r_var_7 ?_ | refine r_var_8 ?_ | refine r_var_9 ?_ | refine r_var_10 ?_ | refine r_var_11 ?_ | refine r_var_12 ?_ | refine r_var_13 ?_ | refine r_var_14 ?_ | refine r_var_15 ?_ | refine r_var_16 ?_ | refine r_var_17 ?_ | refine r_var_18 ?_ | refine r_var_19 ?_ | refine r_var_20 ?_ | refine r_var_21 ?_ | refine r_var_22 ?_ | refine r_var_23 ?_ | refine r_var_24 ?_ | refine r_var_25 ?_ | refine r_var_26 ?_ | refine r_var_27 ?_ | refine r_var rfl ?_)
  | (refine s_id ?_; first | refine r_set_0 ?_ | refine r_set_1 ?_ | refine r_set_2 ?_ | refine r_set_3 ?_ | refine r_set_4 ?_ | refine r_set_5 ?_ | refine r_set_6 ?_ | refine r_set_7 ?_ | refine r_set_8 ?_ | refine r_set_9 ?_ | refine r_set_10 ?_ | refine r_set_11 ?_ | refine r_set_12 ?_ | refine r_set_13 ?_ | refine r_set_14 ?_ | refine r_set_15 ?_ | refine r_set_16 ?_ | refine r_set_17 ?_ | refine r_set_18 ?_ | refine r_set_19 ?_ | refine r_set_20 ?_ | refine r_set_21 ?_ | refine r_set_22 ?_ | refine r_set_23 ?_ | refine r_set_24 ?_ | refine r_set_25 ?_ | refine r_set_26 ?_ | refine r_set_27 ?_ | refine r_setU ?_)
  | refine r_c ?_
  | refine r_op ?_
  | refine r_I0 ?_
  | refine r_seq ?_
  | refine r_asg ?_
  | refine r_fld ?_
  | refine r_nil ?_
  | refine r_cons ?_
  | refine r_cb ?_
  | refine r_max ?_
  | refine r_min ?_
  | refine r_ret ?_
  | refine r_met ?_
  | refine r_call ?_
  | refine r_B ?_
  | refine r_test ?_
  | refine r_b' ?_
  | refine r_ifS ?_
  | refine r_if ?_
  | refine r_par ?_
  | refine r_par2 ?_
  | refine r_drop ?_
  | refine r_next ?_
  | refine r_make ?_
  | refine r_sfld ?_
  | refine r_int1 ?_
  | refine r_intb ?_
  | refine r_and ?_
  | refine r_or ?_
  | refine r_not ?_
  | refine r_chain ?_
  | refine r_isN ?_
  | refine r_notN ?_
  | refine r_un ?_
  | refine r_U ?_
  | refine r_par3 ?_
  | refine r_par33 ?_
  | refine r_tup ?_
  | refine r_lst ?_
  | refine r_prop ?_
  | refine r_bm ?_
  | refine r_bm0 ?_
  | refine r_andV ?_
  | refine r_orV ?_
  | refine r_notV ?_
  | refine r_asgG ?_
  | refine r_gname ?_
  | refine r_gcons ?_
  | refine r_gnil ?_
  | refine r_rng1 ?_
  | refine r_rng2 ?_
  | refine r_for ?_
  | refine r_lc1 ?_
  | refine r_lc2 ?_
  | refine r_lc3 ?_
  | refine r_lc ?_
  | refine r_while ?_
  | refine r_rev ?_
  | refine r_sl ?_
  | refine r_augS ?_
  | refine r_iL ?_
  | refine r_iT ?_
  | refine r_iE ?_
  | refine r_ipI ?_
  | refine r_aug rfl ?_
  | refine r_cval ?_
  | refine r_turnN ?_
  | refine iT ?_
  | refine iNT ?_
  | refine iNF ?_
  | refine iOF ?_
  | refine iF ?_
  | refine r_part ?_
  | refine r_pi ?_
  | refine r_gsub ?_
  | refine r_noPart ?_)
local macro_rules | `(tactic| walk_at "rd") => `(tactic| (repeat (first | walk_at "rd1" | walk_at "fact")))
local macro_rules | `(tactic| walk_at "plen") => `(tactic| (repeat (first | decide | refine putF_lt ?_)))
local macro_rules | `(tactic| walk_at "rs") => `(tactic| (repeat ((fail_if_success (with_reducible refine r_stop ?_)); (first | walk_at "rd1" | walk_at "fact"))))
local macro_rules | `(tactic| walk_at "fact") => `(tactic| with_reducible first
  | refine r_tyL (sqL_at (by assumption)) ?_
  | refine r_lenL (sqL_at (by assumption)) ?_)
def spMix (K : PySem.W.Frag) : Sp := fun vs H Q _ => ∃ (a : Addr) (xs : List Int) (sd : Int), vs = [.ref a, .int sd] ∧ SqL K H a (xs.map V.int) ∧ xs.length ≤ 63 ∧ 0 ≤ sd ∧ sd < 2147483647 ∧ ∀ p l H', Same H H' → H p = none → H l = none → Hat H' p l → Q (.ref p) H'
theorem ok_law_mix {P : Program} {w : World} {K : PySem.W.Frag} {mg : Str → Option Value} {base : Heap} (T : Tx K mg) : C8.Cal P w K mg base 1 "_law_mix" (spMix K) [] := by
  refine cal_of (d := d_law_mix) (x := "_law_mix") (fn_law_mix T) rfl rfl (fg_law_mix T) sc_law_mix (fun _ _ _ _ _ _ us hl => match us, hl with | [_, _], _ => rfl) (fun vs H Q E h => ?_) (fun cdv A outer s H vs Q E hr h => ?_)
  · obtain ⟨a, xs, sd, rfl, hx, hl, s0, s1, k⟩ := h
    rfl
  obtain ⟨a, xs, sd, rfl, hx, hl, s0, s1, k⟩ := h
  refine ⟨_, (pss_cons (ps_set (i := 2) sc_law_mix.nd rfl (Or.inl rfl) (pv 1))
      (pss_cons (ps_for PassesOwn.never rfl (pi_list (pv 0)) (pg_name (i := 3) sc_law_mix.nd rfl (Or.inl rfl)) (pss_one (ps_set (i := 2) sc_law_mix.nd rfl (Or.inl rfl) (pe_op op_mod (pe_op op_add (pe_op op_add (pe_op op_mul (pv 2) pe_int) (pe_op op_mod (pv 3) pe_int)) pe_int) pe_int))))
      (pss_one (ps_ret (pe_lst (pa_cons (pv 2) (pa_cons (pe_callTy cq_list (by rfl) (fn_list T) bb_list (pa_cons (pv 0) pa_nil)) (pa_cons pe_int pa_nil)))))))), ?_⟩
  try dsimp only [cxOf, Cx.nox, Cx.wish]
  repeat rw [st_cons]
  repeat rw [st_none]
  try rw [st_nn]
  walk_at "rd"
  refine ⟨_, rfl, ⟨_, hx⟩, ?_⟩
  refine fR_list (xs := xs.map V.int) (fun i σ H' => ∃ (m : Int) (x : Option V), σ = [some (.ref a), some (.int sd), some (.int m), x] ∧ 0 ≤ m ∧ m < 2147483647 ∧ H' = H) ⟨sd, none, rfl, s0, s1, rfl⟩ (fun i σ H' _ w => let ⟨_, _, _, _, _, e⟩ := w; by rw [e]; exact hx) ?_ ?_
  · rintro i v σ H' hv ⟨m, x, rfl, m0, m1, rfl⟩
    obtain ⟨z, hz, rfl⟩ : ∃ z, xs[i]? = some z ∧ V.int z = v := by simpa using hv
    walk_at "rd"
    refine r_I (.inr (by decide)) ?_
    walk_at "rd"
    refine r_I (by decide) ?_
    walk_at "rd"
    refine r_I (by decide) ?_
    refine ⟨_, some (.int z), rfl, Int.emod_nonneg _ (by decide), Int.emod_lt_of_pos _ (by decide), rfl⟩
  · rintro σ H' ⟨m, x, rfl, m0, m1, rfl⟩
    walk_at "rd"
    refine r_listL hx fun l hl2 => ?_
    walk_at "rd"
    refine r_nwL (Nat.le_of_ble_eq_true rfl) fun p hp => ?_
    have ne : p ≠ l := fun z => by
      subst z
      rw [show (upd H' p (.lst (xs.map V.int))) p = some (.lst (xs.map V.int)) from upd_same] at hp
      cases hp
    exact k p l _ (sameT (same_new hl2) (same_new hp)) (none_of_same (same_new hl2) hp) hl2 ⟨m, 0, xs, upd_same, by rw [upd_ne ne.symm]; exact upd_same, ne, m0, m1, Int.le_refl _, hl⟩
/-- a drawn number below the limit; only the drawing list and its script change -/
def spNxt : Sp := fun vs H Q _ => ∃ (h l : Addr) (lim : Int), vs = [.ref h, .int lim] ∧ Hat H h l ∧ 1 ≤ lim ∧ lim ≤ 1000000000000000000 ∧ ∀ r H', 0 ≤ r → r < lim → Hat H' h l → SameD h l H H' → Q (.int r) H'
theorem ok_law_next {P : Program} {w : World} {K : PySem.W.Frag} {mg : Str → Option Value} {base : Heap} (T : Tx K mg) : C8.Cal P w K mg base 1 "_law_next" (spNxt) [] := by
  refine cal_of (d := d_law_next) (x := "_law_next") (fn_law_next T) rfl rfl (fg_law_next T) sc_law_next (fun _ _ _ _ _ _ us hl => match us, hl with | [_, _], _ => rfl) (fun vs H Q E h => ?_) (fun cdv A outer s H vs Q E hr h => ?_)
  · obtain ⟨h, l, lim, rfl, ⟨m, c, xs, h1, h2, ne, m0, m1, c0, xl⟩, lim1, lim2, k⟩ := h
    rfl
  obtain ⟨h, l, lim, rfl, ⟨m, c, xs, h1, h2, ne, m0, m1, c0, xl⟩, lim1, lim2, k⟩ := h
  refine ⟨_, (pss_cons (ps_set (i := 2) sc_law_next.nd rfl (Or.inl rfl) (pe_ix ix_list (pe_op op_cat (pe_ix ix_list (pv 0) pe_int (fun _ _ => rfl)) (pe_lst (pa_cons pe_int pa_nil))) (pe_op op_mod (pe_ix ix_list (pv 0) pe_int (fun _ _ => rfl)) (pe_callB (cq_max2 rfl) (by rfl) (fn_max T) bb_max (pa_cons pe_int (pa_cons (pe_callB cq_len (by rfl) (fn_len T) bb_len (pa_cons (pe_ix ix_list (pv 0) pe_int (fun _ _ => rfl)) pa_nil)) pa_nil)))) (fun _ _ => rfl)))
      (pss_cons (ps_if (pt_cmpR op_ge (pv 2) (pe_op op_pow pe_int pe_int) (nomark _)) (pss_cons (ps_asg (pe_op op_fdivW (pv 2) (pv 1)) (pg_sub (pe_ix ix_list (pv 0) pe_int (fun _ _ => rfl)) (pe_op op_mod (pe_ix ix_list (pv 0) pe_int (fun _ _ => rfl)) (pe_callB cq_len (by rfl) (fn_len T) bb_len (pa_cons (pe_ix ix_list (pv 0) pe_int (fun _ _ => rfl)) pa_nil))) set_list))
      (pss_one (ps_ret (pe_op op_mod (pv 2) (pv 1))))) pss_nil)
      (pss_cons (ps_asg (pe_op op_mod (pe_op op_add (pe_op op_add (pe_op op_mul (pe_ix ix_list (pv 0) pe_int (fun _ _ => rfl)) pe_int) (pe_op op_mul (pv 2) pe_int)) pe_int) pe_int) (pg_sub (pv 0) pe_int set_list))
      (pss_cons (ps_asg (pe_op op_add (pe_ix ix_list (pv 0) pe_int (fun _ _ => rfl)) pe_int) (pg_sub (pv 0) pe_int set_list))
      (pss_one (ps_ret (pe_op op_mod (pe_op op_fdiv (pe_ix ix_list (pv 0) pe_int (fun _ _ => rfl)) pe_int) (pv 1)))))))), ?_⟩
  try dsimp only [cxOf, Cx.nox, Cx.wish]
  repeat rw [st_cons]
  repeat rw [st_none]
  try rw [st_nn]
  have log : ∀ i, CDivW i lim := fun i => ⟨by omega, by
    have z : lim.natAbs < 2 ^ 8999 := Nat.lt_of_le_of_lt (show lim.natAbs ≤ 1000000000000000000 by omega) (by decide +kernel)
    have z2 := (Nat.log2_lt (by omega : lim.natAbs ≠ 0)).mpr z
    omega⟩
  have ln : ((xs.map V.int).length : Int) = xs.length := by rw [List.length_map]
  walk_at "rd"
  refine r_ixL (sqL_at h1) (j := 1) rfl rfl ?_
  walk_at "rd"
  refine r_nwL (Nat.le_of_ble_eq_true rfl) fun l1 hl1 => ?_
  have s1 := same_new hl1 (o := .lst [.int 0])
  have e1 : (upd H l1 (.lst [.int 0])) l1 = some (.lst [.int 0]) := upd_same
  generalize upd H l1 (.lst [.int 0]) = H1 at s1 e1 ⊢
  refine r_cat (s1 _ _ h2) e1 (Nat.le_trans (show _ ≤ 100 by simp; omega) (by decide)) fun l2 hl2 => ?_
  have s2 := sameT s1 (same_new hl2 (o := .lst (xs.map V.int ++ [.int 0])))
  have e2 : (upd H1 l2 (.lst (xs.map V.int ++ [.int 0]))) l2 = some (.lst (xs.map V.int ++ [.int 0])) := upd_same
  generalize upd H1 l2 (.lst (xs.map V.int ++ [.int 0])) = H2 at s2 e2 ⊢
  have h12 := s2 _ _ h1
  have h22 := s2 _ _ h2
  walk_at "rd"
  refine r_ixL (sqL_at h12) (j := 2) rfl rfl ?_
  walk_at "rd"
  refine r_ixL (sqL_at h12) (j := 1) rfl rfl ?_
  walk_at "rd"
  rw [ln]
  refine r_I (by omega) ?_
  obtain ⟨j, ej, jl⟩ : ∃ j : Nat, c % max 1 (xs.length : Int) = (j : Int) ∧ j < max 1 xs.length := by
    have z1 := Int.emod_nonneg c (show max 1 (xs.length : Int) ≠ 0 by omega)
    have z2 := Int.emod_lt_of_pos c (show (0 : Int) < max 1 (xs.length : Int) by omega)
    exact ⟨(c % max 1 (xs.length : Int)).toNat, by omega, by omega⟩
  rw [ej]
  obtain ⟨z, hz⟩ : ∃ z, (xs ++ [0])[j]? = some z := ⟨_, List.getElem?_eq_getElem (by simp; omega)⟩
  have hz2 : (xs.map V.int ++ [V.int 0])[j]? = some (.int z) := by
    have q : (xs.map V.int ++ [V.int 0]) = (xs ++ [0]).map V.int := by simp
    rw [q, List.getElem?_map, hz]
    rfl
  refine r_ixL (sqL_at e2) rfl hz2 ?_
  walk_at "rd"
  refine r_I ⟨by decide, by decide, by decide⟩ ?_
  have p18 : (10 : Int) ^ (18 : Int).toNat = 1000000000000000000 := by decide
  walk_at "rd"
  rw [p18]
  refine i2 (fun cz => ?_) (fun cz => ?_)
  · have x0 : 0 < xs.length := by
      refine Nat.pos_of_ne_zero fun e => ?_
      have ex : xs = [] := List.eq_nil_of_length_eq_zero e
      subst ex
      have j0 : j = 0 := by simpa using jl
      subst j0
      simp at hz
      omega
    have ejm : c % (xs.length : Int) = (j : Int) := by
      rw [← ej, Int.max_eq_right (by omega)]
    walk_at "rd"
    refine r_I (log _) ?_
    walk_at "rd"
    refine r_ixL (sqL_at h12) (j := 1) rfl rfl ?_
    walk_at "rd"
    refine r_ixL (sqL_at h12) (j := 2) rfl rfl ?_
    walk_at "rd"
    refine r_ixL (sqL_at h12) (j := 1) rfl rfl ?_
    walk_at "rd"
    rw [ln]
    refine r_I (by omega) ?_
    rw [ejm]
    refine r_setL h22 rfl (by rw [List.length_map]; omega) ?_
    walk_at "rd"
    refine r_I (by omega) ?_
    have es : (xs.map V.int).set j (.int (z / lim)) = (xs.set j (z / lim)).map V.int := by rw [List.map_set]
    rw [es]
    refine k _ _ (Int.emod_nonneg _ (by omega)) (Int.emod_lt_of_pos _ (by omega)) ⟨m, c, xs.set j (z / lim), by rw [upd_ne ne]; exact h12, upd_same, ne, m0, m1, c0, by rw [List.length_set]; exact xl⟩ fun b o n1 n2 q => ?_
    rw [upd_ne n2]
    exact s2 _ _ q
  · walk_at "rd"
    refine r_ixL (sqL_at h12) (j := 0) rfl rfl ?_
    walk_at "rd"
    refine r_I (.inr (by decide)) ?_
    walk_at "rd"
    refine r_I (.inr (by decide)) ?_
    walk_at "rd"
    refine r_I (by decide) ?_
    walk_at "rd"
    refine r_setL h12 (j := 0) rfl (by show 0 < 3; decide) ?_
    walk_at "rd"
    generalize hM : (m * 48271 + z * 69621 + 11) % 2147483647 = M
    have M0 : 0 ≤ M := by
      rw [← hM]
      exact Int.emod_nonneg _ (by decide)
    have M1 : M < 2147483647 := by
      rw [← hM]
      exact Int.emod_lt_of_pos _ (by decide)
    have e3 : (upd H2 h (.lst ([V.int m, V.ref l, V.int c].set 0 (.int M)))) h = some (.lst [.int M, .ref l, .int c]) := upd_same
    refine r_ixL (sqL_at e3) (j := 2) rfl rfl ?_
    walk_at "rd"
    refine r_setL e3 (j := 2) rfl (by show 2 < 3; decide) ?_
    rw [upd_upd]
    walk_at "rd"
    have e4 : (upd H2 h (.lst ([V.int M, V.ref l, V.int c].set 2 (.int (c + 1))))) h = some (.lst [.int M, .ref l, .int (c + 1)]) := upd_same
    refine r_ixL (sqL_at e4) (j := 0) rfl rfl ?_
    walk_at "rd"
    refine r_I ⟨by decide, by decide⟩ ?_
    walk_at "rd"
    refine r_I (by omega) ?_
    refine k _ _ (Int.emod_nonneg _ (by omega)) (Int.emod_lt_of_pos _ (by omega)) ⟨M, c + 1, xs, e4, by rw [upd_ne ne.symm]; exact h22, ne, M0, M1, by omega, xl⟩ fun b o n1 n2 q => ?_
    rw [upd_ne n1]
    exact s2 _ _ q
/-- drawn amounts: from 0 up to below w -/
def AmsAt (K : PySem.W.Frag) (H : Hp) (p : Addr) (n : Nat) (w : Int) : Prop := ∃ xs : List Int, H p = some (.tup (xs.map V.int)) ∧ xs.length = n ∧ ∀ x ∈ xs, 0 ≤ x ∧ x < w
def spAmt (K : PySem.W.Frag) : Sp := fun vs H Q _ => ∃ (h l : Addr) (n w : Int), vs = [.ref h, .int n, .int w] ∧ Hat H h l ∧ 0 ≤ n ∧ n ≤ 1000 ∧ 1 ≤ w ∧ w ≤ 1000000000 ∧ ∀ p H', Hat H' h l → SameD h l H H' → AmsAt K H' p n.toNat w → Q (.ref p) H'
theorem ok_law_amounts {P : Program} {w : World} {K : PySem.W.Frag} {mg : Str → Option Value} {base : Heap} (T : Tx K mg) : C8.Cal P w K mg base 2 "_law_amounts" (spAmt K) [] := by
  have G_law_next := ok_law_next (P := P) (w := w) (base := base) T
  refine cal_of (d := d_law_amounts) (x := "_law_amounts") (fn_law_amounts T) rfl rfl (fg_law_amounts T) sc_law_amounts (fun _ _ _ _ _ _ us hl => match us, hl with | [_, _, _], _ => rfl) (fun vs H Q E h => ?_) (fun cdv A outer s H vs Q E hr h => ?_)
  · obtain ⟨h, l, n, w, rfl, hH, n0, n1, w0, w1, k⟩ := h
    rfl
  obtain ⟨h, l, n, w, rfl, hH, n0, n1, w0, w1, k⟩ := h
  refine ⟨_, (pss_one (ps_ret (pe_callTy cq_tupL (by rfl) (fn_tuple T) bb_tuple (pa_cons (pe_lc (own := [("_law_k", 3)]) (by rfl) sc_law_amounts.nd (pi_range1 (by rfl) (fn_range T) (pa_cons (pv 1) pa_nil)) (blkOk_by (own := [("_law_k", 3)]) (N := ["_law_h", "_law_count", "_law_wide", "_law_k"]) (sc := defScope s_law_amounts) (by decide +kernel)) (fun _ _ _ _ _ => (pg_name (i := 3) sc_law_amounts.nd rfl (Or.inl rfl))) (fun _ _ _ _ _ => pts_nil) (fun _ _ _ _ _ => by exact (pe_op op_mul (C8.pe_c G_law_next hr (by decide) (by rfl) (pa_cons (pv 0) (pa_cons (pv 2) pa_nil))) (pe_callTy cq_int (by rfl) (fn_int T) bb_int (pa_cons (pe_cmpR op_gt (C8.pe_c G_law_next hr (by decide) (by rfl) (pa_cons (pv 0) (pa_cons pe_int pa_nil))) pe_int (nomark _)) pa_nil))))) pa_nil)))), ?_⟩
  try dsimp only [cxOf, Cx.nox, Cx.wish]
  repeat rw [st_cons]
  repeat rw [st_none]
  try rw [st_nn]
  walk_at "rd"
  refine ⟨_, rfl, by omega, by omega, fun D hD => ?_⟩
  have nD := hH.ne hD
  refine lc_range (fun i H' => Hat H' h l ∧ SameD h l H H' ∧ ∃ xs : List Int, H' D = some (.lst (xs.map V.int)) ∧ xs.length = i ∧ ∀ x ∈ xs, 0 ≤ x ∧ x < w) ⟨hH.mut nD, (sameD_of sameR).mut hD, [], upd_same, rfl, fun x hx => by cases hx⟩ ?_ ?_
  · rintro i H' hi ⟨hH', sd, xs, hDx, xl, xb⟩
    refine ⟨rfl, tYes_of ?_⟩
    walk_at "rd"
    refine ⟨h, l, w, rfl, hH', w0, by omega, fun r H2 r0 r1 hH2 sd2 => ?_⟩
    walk_at "rd"
    refine ⟨h, l, 4, rfl, hH2, by decide, by decide, fun q H3 q0 q1 hH3 sd3 => ?_⟩
    walk_at "rd"
    refine r_I (.inr (by split <;> decide)) ?_
    have hD3 := sd3 _ _ nD.1 nD.2 (sd2 _ _ nD.1 nD.2 hDx)
    refine ⟨_, hD3, Nat.lt_of_lt_of_le (show _ < 1001 by rw [List.length_map]; omega) (by decide), hH3.mut nD, ((sd.tr sd2).tr sd3).mut hD, xs ++ [r * if decide (0 < q) = true then 1 else 0], by rw [upd_same]; simp, by simp [xl], fun x hx => ?_⟩
    rcases List.mem_append.mp hx with hx | hx
    · exact xb x hx
    · have e := List.mem_singleton.mp hx
      subst e
      split
      · rw [Int.mul_one]
        exact ⟨r0, r1⟩
      · rw [Int.mul_zero]
        omega
  · rintro H' ⟨hH', sd, xs, hDx, xl, xb⟩
    walk_at "rd"
    refine r_tupL (sqL_at hDx) fun p hp => ?_
    walk_at "rd"
    exact k p _ (hH'.mono (same_new hp)) (sd.sm (same_new hp)) ⟨xs, upd_same, xl, xb⟩
theorem mem_le_sum : ∀ {l : List Int} {x : Int}, (∀ y ∈ l, 0 ≤ y) → x ∈ l → x ≤ l.sum
  | a :: l, x, h, hx => by
    have h0 := h a (by simp)
    have h1 := sum_nonneg (l := l) fun y hy => h y (by simp [hy])
    rw [List.sum_cons]
    rcases List.mem_cons.mp hx with rfl | hx
    · omega
    · have := mem_le_sum (l := l) (fun y hy => h y (by simp [hy])) hx
      omega
/-- what a law's drawn bakery is made of -/
def spPrt (K : PySem.W.Frag) : Sp := fun vs H Q _ => ∃ (h l : Addr) (mo w : Int), vs = [.ref h, .int mo, .int w] ∧ Hat H h l ∧ 1 ≤ mo ∧ mo ≤ 24 ∧ 1 ≤ w ∧ w ≤ 1000000000 ∧
  ∀ p H' tb tw (B : Bak), Hat H' h l → SameD h l H H' → H' p = some (.tup [.ref tb, .ref tw, .int B.life]) → SqT K H' tb (B.bakes.map V.int) → SqT K H' tw (B.dems.map V.int) → B.Ok → (B.n : Int) ≤ mo → (∀ x ∈ B.bakes, x ≤ 24 * w + 2) → (∀ x ∈ B.dems, x < w) → Q (.ref p) H'
theorem ok_law_parts {P : Program} {w : World} {K : PySem.W.Frag} {mg : Str → Option Value} {base : Heap} (T : Tx K mg) : C8.Cal P w K mg base 3 "_law_parts" (spPrt K) [] := by
  have G_law_next := ok_law_next (P := P) (w := w) (base := base) T
  have G_law_amounts := ok_law_amounts (P := P) (w := w) (base := base) T
  refine cal_of (d := d_law_parts) (x := "_law_parts") (fn_law_parts T) rfl rfl (fg_law_parts T) sc_law_parts (fun _ _ _ _ _ _ us hl => match us, hl with | [_, _, _], _ => rfl) (fun vs H Q E h => ?_) (fun cdv A outer s H vs Q E hr h => ?_)
  · obtain ⟨h, l, mo, w, rfl, hH, m0, m1, w0, w1, k⟩ := h
    rfl
  obtain ⟨h, l, mo, w, rfl, hH, m0, m1, w0, w1, k⟩ := h
  refine ⟨_, (pss_cons (ps_set (i := 3) sc_law_parts.nd rfl (Or.inl rfl) (pe_op op_add pe_int (C8.pe_c G_law_next hr (by decide) (by rfl) (pa_cons (pv 0) (pa_cons (pv 1) pa_nil)))))
      (pss_cons (ps_par (i := 4) (j := 5) (by rfl) sc_law_parts.nd rfl rfl (by decide) rfl rfl (pa_cons (C8.pe_c G_law_amounts hr (by decide) (by rfl) (pa_cons (pv 0) (pa_cons (pv 3) (pa_cons (pv 2) pa_nil)))) (pa_cons (C8.pe_c G_law_amounts hr (by decide) (by rfl) (pa_cons (pv 0) (pa_cons (pv 3) (pa_cons (pv 2) pa_nil)))) pa_nil)) (by rfl))
      (pss_cons (ps_if (pt_cmpR op_eqI (C8.pe_c G_law_next hr (by decide) (by rfl) (pa_cons (pv 0) (pa_cons pe_int pa_nil))) pe_int (nomark _)) (pss_cons (ps_par (i := 6) (j := 7) (by rfl) sc_law_parts.nd rfl rfl (by decide) rfl rfl (pa_cons (C8.pe_c G_law_next hr (by decide) (by rfl) (pa_cons (pv 0) (pa_cons (pv 3) pa_nil))) (pa_cons (pe_op op_add (pe_op op_sub (pe_callB (cr_sumT rfl) (by rfl) (fn_sum T) bb_sum (pa_cons (pv 5) pa_nil)) (pe_callB (cr_sumT rfl) (by rfl) (fn_sum T) bb_sum (pa_cons (pv 4) pa_nil))) (C8.pe_c G_law_next hr (by decide) (by rfl) (pa_cons (pv 0) (pa_cons pe_int pa_nil)))) pa_nil)) (by rfl))
      (pss_one (ps_set (i := 4) sc_law_parts.nd rfl (Or.inl rfl) (pe_op op_catA (pe_op op_catA (pe_slice sl_tupA (pv 4) po_none (po_some (pv 6))) (pe_tup (pa_cons (pe_callB (cq_max2 rfl) (by rfl) (fn_max T) bb_max (pa_cons pe_int (pa_cons (pe_callB (cq_min2 rfl) (by rfl) (fn_min T) bb_min (pa_cons (pe_op op_pow pe_int pe_int) (pa_cons (pe_op op_add (pe_ix ix_tup (pv 4) (pv 6) (fun _ _ => rfl)) (pv 7)) pa_nil))) pa_nil))) pa_nil))) (pe_slice sl_tupA (pv 4) (po_some (pe_op op_add (pv 6) pe_int)) po_none))))) pss_nil)
      (pss_one (ps_ret (pe_tup (pa_cons (pv 4) (pa_cons (pv 5) (pa_cons (pe_op op_add pe_int (C8.pe_c G_law_next hr (by decide) (by rfl) (pa_cons (pv 0) (pa_cons (pe_ix ix_list (pe_lst (pa_cons pe_int (pa_cons pe_int pa_nil))) (C8.pe_c G_law_next hr (by decide) (by rfl) (pa_cons (pv 0) (pa_cons pe_int pa_nil))) (fun _ _ => rfl)) pa_nil)))) pa_nil))))))))), ?_⟩
  try dsimp only [cxOf, Cx.nox, Cx.wish]
  repeat rw [st_cons]
  repeat rw [st_none]
  try rw [st_nn]
  walk_at "rd"
  refine ⟨h, l, mo, rfl, hH, m0, by omega, fun r H2 r0 r1 hH2 sd2 => ?_⟩
  walk_at "rd"
  refine ⟨h, l, 1 + r, w, rfl, hH2, by omega, by omega, w0, w1, fun tb H3 hH3 sd3 ⟨bs, hbs, bl, bb⟩ => ?_⟩
  walk_at "rd"
  refine ⟨h, l, 1 + r, w, rfl, hH3, by omega, by omega, w0, w1, fun tw H4 hH4 sd4 ⟨ds, hds, dl, db⟩ => ?_⟩
  have hbs4 := sd4.tup hH3 hbs
  have sd04 := (sd2.tr sd3).tr sd4
  walk_at "rd"
  refine ⟨h, l, 3, rfl, hH4, by decide, by decide, fun q H5 q0 q1 hH5 sd5 => ?_⟩
  have hbs5 := sd5.tup hH4 hbs4
  have hds5 := sd5.tup hH4 hds
  have sd05 := sd04.tr sd5
  have lim : ∀ u : Int, 0 ≤ u → u < 2 → ∃ z : Int, ([V.int 4, V.int 30] : List V)[u.toNat]? = some (.int z) ∧ 1 ≤ z ∧ z ≤ 30 := fun u u0 u1 => by
    rcases (by omega : u = 0 ∨ u = 1) with e | e <;> subst e
    · exact ⟨4, rfl, by decide, by decide⟩
    · exact ⟨30, rfl, by decide, by decide⟩
  have n0 : (1 + r).toNat = bs.length := bl.symm
  walk_at "rd"
  refine i2 (fun c => ?_) (fun c => ?_)
  · walk_at "rd"
    refine ⟨h, l, 1 + r, rfl, hH5, by omega, by omega, fun e H6 e0 e1 hH6 sd6 => ?_⟩
    have hbs6 := sd6.tup hH5 hbs5
    have hds6 := sd6.tup hH5 hds5
    walk_at "rd"
    refine r_sumT (sqT_at hds6) ?_
    walk_at "rd"
    refine r_sumT (sqT_at hbs6) ?_
    walk_at "rd"
    refine ⟨h, l, 3, rfl, hH6, by decide, by decide, fun e3 H7 e30 e31 hH7 sd7 => ?_⟩
    have hbs7 := sd7.tup hH6 hbs6
    have hds7 := sd7.tup hH6 hds6
    have sd07 := (sd05.tr sd6).tr sd7
    obtain ⟨j, rfl⟩ : ∃ j : Nat, e = (j : Int) := ⟨e.toNat, by omega⟩
    have jl : j < bs.length := by omega
    walk_at "rd"
    refine r_slA (sqT_at hbs7) fun t1 H8 s8 ht1 => ?_
    walk_at "rd"
    refine r_I ⟨by decide, by decide, by decide⟩ ?_
    have p9 : (10 : Int) ^ (9 : Int).toNat = 1000000000 := by decide
    have hbs8 := s8 _ _ hbs7
    obtain ⟨bj, hbj⟩ : ∃ b, bs[j]? = some b := ⟨_, List.getElem?_eq_getElem jl⟩
    walk_at "rd"
    refine r_ixT (sqT_at hbs8) rfl (by rw [List.getElem?_map, hbj]; rfl) ?_
    walk_at "rd"
    rw [p9]
    generalize hmid : max 0 (min 1000000000 (bj + (ds.sum - bs.sum + e3))) = mid
    refine r_nwT (Nat.le_of_ble_eq_true rfl) fun t2 ht2 => ?_
    have s9 := sameT s8 (same_new ht2 (o := .tup [.int mid]))
    refine r_catA (same_sqT (same_new ht2) ht1) (sqT_at upd_same) (Nat.le_trans (show _ ≤ 100 by rw [cutV_take]; simp; omega) (by decide)) fun t3 H10 s10 ht3 => ?_
    have s010 := sameT s9 s10
    walk_at "rd"
    refine r_slA (sqT_at (s010 _ _ hbs7)) fun t4 H11 s11 ht4 => ?_
    have ej : ((j : Nat) : Int) + 1 = ((j + 1 : Nat) : Int) := rfl
    rw [ej, cutV_drop] at ht4
    rw [cutV_take] at ht3
    refine r_catA (same_sqT s11 ht3) ht4 (Nat.le_trans (show _ ≤ 100 by simp; omega) (by decide)) fun t5 Hc s12 hbc => ?_
    have s012 := sameT (sameT s010 s11) s12
    have hbc0 : SqT K Hc t5 ((bs.take j ++ [mid] ++ bs.drop (j + 1)).map V.int) := by
      rw [List.map_append, List.map_append, List.map_take, List.map_drop]
      exact hbc
    clear hbc
    have hbc := hbc0
    have hdc := sqT_at (K := K) (s012 _ _ hds7)
    have sdc := sd07.sm s012
    have hHc := hH7.mono s012
    generalize hbsc : bs.take j ++ [mid] ++ bs.drop (j + 1) = bsc at hbc
    have blc : bsc.length = bs.length := by
      rw [← hbsc]
      simp
      omega
    have bbc : ∀ x ∈ bsc, 0 ≤ x ∧ x ≤ 1000000000 := fun x hx => by
      rw [← hbsc] at hx
      rcases List.mem_append.mp hx with hx | hx
      · rcases List.mem_append.mp hx with hx | hx
        · have := bb x (List.mem_of_mem_take hx)
          omega
        · have := List.mem_singleton.mp hx
          omega
      · have := bb x (List.mem_of_mem_drop hx)
        omega
    have bbw : ∀ x ∈ bsc, x ≤ 24 * w + 2 := fun x hx => by
      rw [← hbsc] at hx
      rcases List.mem_append.mp hx with hx | hx
      · rcases List.mem_append.mp hx with hx | hx
        · have := bb x (List.mem_of_mem_take hx)
          omega
        · have ex := List.mem_singleton.mp hx
          have b1 := mem_le_sum (fun y hy => (bb y hy).1) (List.mem_of_getElem? hbj)
          have b2 := sum_le (l := ds) (c := w) fun y hy => Int.le_of_lt (db y hy).2
          have b3 : (ds.length : Int) * w ≤ 24 * w := Int.mul_le_mul_of_nonneg_right (by omega) (by omega)
          omega
      · have := bb x (List.mem_of_mem_drop hx)
        omega
    clear hbc0
    walk_at "rd"
    refine r_nwL (Nat.le_of_ble_eq_true rfl) fun l1 hl1 => ?_
    have ne1 := hHc.ne hl1
    have el0 : ∀ H', SameD h l (upd Hc l1 (.lst [.int 4, .int 30])) H' → H' l1 = some (.lst [.int 4, .int 30]) := fun H' z => z _ _ ne1.1 ne1.2 upd_same
    have sdn := sdc.sm (same_new hl1 (o := .lst [.int 4, .int 30]))
    have hHn := hHc.mut (o := .lst [.int 4, .int 30]) ne1
    have hbn := same_sqT (same_new hl1 (o := .lst [.int 4, .int 30])) hbc
    have hdn := same_sqT (same_new hl1 (o := .lst [.int 4, .int 30])) hdc
    generalize upd Hc l1 (.lst [.int 4, .int 30]) = Hn at el0 sdn hHn hbn hdn ⊢
    walk_at "rd"
    refine ⟨h, l, 2, rfl, hHn, by decide, by decide, fun u Hd u0 u1 hHd sdd => ?_⟩
    obtain ⟨z, hz, z0, z1⟩ := lim u u0 u1
    refine r_ixL (sqL_at (el0 _ sdd)) (j := u.toNat) (by omega) hz ?_
    walk_at "rd"
    refine ⟨h, l, z, rfl, hHd, by omega, by omega, fun v He v0 v1 hHe sde => ?_⟩
    walk_at "rd"
    refine r_nwT (Nat.le_of_ble_eq_true rfl) fun p hp => ?_
    have hbe := sde.sqT hHd (sdd.sqT hHn hbn)
    have hde := sde.sqT hHd (sdd.sqT hHn hdn)
    refine k p _ _ tw ⟨bsc, ds, 1 + v⟩ (hHe.mut (hHe.ne hp)) (((sdn.tr sdd).tr sde).sm (same_new hp)) upd_same (same_sqT (same_new hp) hbe) (same_sqT (same_new hp) hde) ⟨by show 0 < bsc.length; omega, by show bsc.length ≤ 24; omega, by show ds.length = bsc.length; omega, by show 1 ≤ 1 + v; omega, by show 1 + v ≤ 30; omega, bbc, fun x hx => by have := db x hx; omega⟩ ?_ ?_ ?_
    · show ((bsc.length : Nat) : Int) ≤ mo
      omega
    · exact bbw
    · exact fun x hx => (db x hx).2
  · have hbc := sqT_at (K := K) hbs5
    have hdc := sqT_at (K := K) hds5
    have sdc := sd05
    have hHc := hH5
    have blc : bs.length = bs.length := rfl
    have bbc : ∀ x ∈ bs, 0 ≤ x ∧ x ≤ 1000000000 := fun x hx => by
      have := bb x hx
      omega
    walk_at "rd"
    refine r_nwL (Nat.le_of_ble_eq_true rfl) fun l1 hl1 => ?_
    have ne1 := hHc.ne hl1
    have el0 : ∀ H', SameD h l (upd H5 l1 (.lst [.int 4, .int 30])) H' → H' l1 = some (.lst [.int 4, .int 30]) := fun H' z => z _ _ ne1.1 ne1.2 upd_same
    have sdn := sdc.sm (same_new hl1 (o := .lst [.int 4, .int 30]))
    have hHn := hHc.mut (o := .lst [.int 4, .int 30]) ne1
    have hbn := same_sqT (same_new hl1 (o := .lst [.int 4, .int 30])) hbc
    have hdn := same_sqT (same_new hl1 (o := .lst [.int 4, .int 30])) hdc
    generalize upd H5 l1 (.lst [.int 4, .int 30]) = Hn at el0 sdn hHn hbn hdn ⊢
    walk_at "rd"
    refine ⟨h, l, 2, rfl, hHn, by decide, by decide, fun u Hd u0 u1 hHd sdd => ?_⟩
    obtain ⟨z, hz, z0, z1⟩ := lim u u0 u1
    refine r_ixL (sqL_at (el0 _ sdd)) (j := u.toNat) (by omega) hz ?_
    walk_at "rd"
    refine ⟨h, l, z, rfl, hHd, by omega, by omega, fun v He v0 v1 hHe sde => ?_⟩
    walk_at "rd"
    refine r_nwT (Nat.le_of_ble_eq_true rfl) fun p hp => ?_
    have hbe := sde.sqT hHd (sdd.sqT hHn hbn)
    have hde := sde.sqT hHd (sdd.sqT hHn hdn)
    refine k p _ _ tw ⟨bs, ds, 1 + v⟩ (hHe.mut (hHe.ne hp)) (((sdn.tr sdd).tr sde).sm (same_new hp)) upd_same (same_sqT (same_new hp) hbe) (same_sqT (same_new hp) hde) ⟨by show 0 < bs.length; omega, by show bs.length ≤ 24; omega, by show ds.length = bs.length; omega, by show 1 ≤ 1 + v; omega, by show 1 + v ≤ 30; omega, bbc, fun x hx => by have := db x hx; omega⟩ ?_ ?_ ?_
    · show ((bs.length : Nat) : Int) ≤ mo
      omega
    · exact fun x hx => by
        have := bb x hx
        omega
    · exact fun x hx => (db x hx).2
/-- [p, q][a drawn place] -/
theorem pick2 {K : PySem.W.Frag} {p q : Int} {σ : L2.St} {H : Hp} {Q : VK} {h l : Addr} {E : XK} (hv : σ[1]? = some (some (V.ref h))) (hat : Hat H h l) (k : ∀ z H', z = p ∨ z = q → Hat H' h l → SameD h l H H' → Q (.int z) H') :
    NwL (fun x H1 => tCall spNxt [] E (tCons (tVar 1) (tCons (tC (.int 2)) tNil)) σ H1 fun y H2 => rIxL K x y H2 Q) [.int p, .int q] H := by
  refine r_nwL (Nat.le_of_ble_eq_true rfl) fun l1 hl1 => ?_
  have n1 := hat.ne hl1
  have e0 : ∀ H', SameD h l (upd H l1 (.lst [.int p, .int q])) H' → H' l1 = some (.lst [.int p, .int q]) := fun H' z => z _ _ n1.1 n1.2 upd_same
  have hat1 := hat.mut (o := .lst [.int p, .int q]) n1
  have sd1 : SameD h l H (upd H l1 (.lst [.int p, .int q])) := sameD_of (same_new hl1)
  generalize upd H l1 (.lst [.int p, .int q]) = H2 at e0 hat1 sd1 ⊢
  refine r_call ?_
  refine r_cons (r_var hv ?_)
  refine r_cons (r_c (r_nil ?_))
  refine ⟨h, l, 2, rfl, hat1, by decide, by decide, fun r H3 r0 r1 hat3 sd3 => ?_⟩
  have hz : ∃ z : Int, ([V.int p, V.int q] : List V)[r.toNat]? = some (.int z) ∧ (z = p ∨ z = q) := by
    rcases (by omega : r = 0 ∨ r = 1) with e | e <;> subst e
    · exact ⟨p, rfl, .inl rfl⟩
    · exact ⟨q, rfl, .inr rfl⟩
  obtain ⟨z, hz, hpq⟩ := hz
  exact r_ixL (sqL_at (e0 _ sd3)) (j := r.toNat) (by omega) hz (k z H3 hpq hat3 (sd1.tr sd3))

end G57
end
section
set_option maxRecDepth 100000
set_option maxHeartbeats 4000000
namespace G57
open PySem PySem.Spec PyProof.Rows L2
/-! the walk's small steps: "rd" reads on as far as it can -/
local macro_rules | `(tactic| walk_at "fact") => `(tactic| fail)
local macro_rules | `(tactic| walk_at "rd1") => `(tactic| with_reducible first
  | (refine v_id ?_; first | refine r_var_0 ?_ | refine r_var_1 ?_ | refine r_var_2 ?_ | refine r_var_3 ?_ | refine r_var_4 ?_ | refine r_var_5 ?_ | refine r_var_6 ?_ | refine r_var_7 ?_ | refine r_var_8 ?_ | refine r_var_9 ?_ | refine r_var_10 ?_ | refine r_var_11 ?_ | refine r_var_12 ?_ | refine r_var_13 ?_ | refine r_var_14 ?_ | refine r_var_15 ?_ | refine r_var_16 ?_ | refine r_var_17 ?_ | refine r_var_18 ?_ | refine r_var_19 ?_ | refine r_var_20 ?_ | refine r_var_21 ?_ | refine r_var_22 ?_ | refine r_var_23 ?_ | refine r_var_24 ?_ | refine r_var_25 ?_ | refine r_var_26 ?_ | refine r_var_27 ?_ | refine r_var rfl ?_)
  | (refine s_id ?_; first | refine r_set_0 ?_ | refine r_set_1 ?_ | refine r_set_2 ?_ | refine r_set_3 ?_ | refine r_set_4 ?_ | refine r_set_5 ?_ | refine r_set_6 ?_ | refine r_set_7 ?_ | refine r_set_8 ?_ | refine r_set_9 ?_ | refine r_set_10 ?_ | refine r_set_11 ?_ | refine r_set_12 ?_ | refine r_set_13 ?_ | refine r_set_14 ?_ | refine r_set_15 ?_ | refine r_set_16 ?_ | refine r_set_17 ?_ | refine r_set_18 ?_ | refine r_set_19 ?_ | refine r_set_20 ?_ | refine r_set_21 ?_ | refine r_set_22 ?_ | refine r_set_23 ?_ | refine r_set_24 ?_ | refine r_set_25 ?_ | refine r_set_26 ?_ | refine r_set_27 ?_ | refine r_setU ?_)
  | refine r_c ?_
  | refine r_op ?_
  | refine r_I0 ?_
  | refine r_seq ?_
  | refine r_asg ?_
  | refine r_fld ?_
  | refine r_nil ?_
  | refine r_cons ?_
  | refine r_cb ?_
  | refine r_max ?_
  | refine r_min ?_
  | refine r_ret ?_
  | refine r_met ?_
  | refine r_call ?_
  | refine r_B ?_
  | refine r_test ?_
  | refine r_b' ?_
  | refine r_ifS ?_
  | refine r_if ?_
  | refine r_par ?_
  | refine r_par2 ?_
  | refine r_drop ?_
  | refine r_next ?_
  | refine r_make ?_
  | refine r_sfld ?_
  | refine r_int1 ?_
  | refine r_intb ?_
  | refine r_and ?_
  | refine r_or ?_
  | refine r_not ?_
  | refine r_chain ?_
  | refine r_isN ?_
  | refine r_notN ?_
  | refine r_un ?_
  | refine r_U ?_
  | refine r_par3 ?_
  | refine r_par33 ?_
  | refine r_tup ?_
  | refine r_lst ?_
  | refine r_prop ?_
  | refine r_bm ?_
  | refine r_bm0 ?_
  | refine r_andV ?_
  | refine r_orV ?_
  | refine r_notV ?_
  | refine r_asgG ?_
  | refine r_gname ?_
  | refine r_gcons ?_
  | refine r_gnil ?_
  | refine r_rng1 ?_
  | refine r_rng2 ?_
  | refine r_for ?_
  | refine r_lc1 ?_
  | refine r_lc2 ?_
  | refine r_lc3 ?_
  | refine r_lc ?_
  | refine r_while ?_
  | refine r_rev ?_
  | refine r_sl ?_
  | refine r_augS ?_
  | refine r_iL ?_
  | refine r_iT ?_
  | refine r_iE ?_
  | refine r_ipI ?_
  | refine r_aug rfl ?_
  | refine r_cval ?_
  | refine r_turnN ?_
  | refine iT ?_
  | refine iNT ?_
  | refine iNF ?_
  | refine iOF ?_
  | refine iF ?_
  | refine r_part ?_
  | refine r_pi ?_
  | refine r_gsub ?_
  | refine r_noPart ?_)
local macro_rules | `(tactic| walk_at "rd") => `(tactic| (repeat (first | walk_at "rd1" | walk_at "fact")))
local macro_rules | `(tactic| walk_at "plen") => `(tactic| (repeat (first | decide | refine putF_lt ?_)))
local macro_rules | `(tactic| walk_at "rs") => `(tactic| (repeat ((fail_if_success (with_reducible refine r_stop ?_)); (first | walk_at "rd1" | walk_at "fact"))))
section
variable {K : PySem.W.Frag} {σ : L2.St} {H H' : Hp} {Q : VK} {E : XK} {a b : Addr} {B : Bak}
theorem use_nxt {h l : Addr} {n : Int} (hat : Hat H h l) (h1 : 1 ≤ n) (h2 : n ≤ 1000000000000000000) (q : ∀ r H', 0 ≤ r → r < n → Hat H' h l → SameD h l H H' → Q (.int r) H') : spNxt [.ref h, .int n] H Q E := ⟨h, l, n, rfl, hat, h1, h2, q⟩
theorem use_prt {h l : Addr} {m w : Int} (hat : Hat H h l) (h1 : 1 ≤ m) (h2 : m ≤ 24) (h3 : 1 ≤ w) (h4 : w ≤ 1000000000) (q : ∀ p H' tb tw (B : Bak), Hat H' h l → SameD h l H H' → H' p = some (.tup [.ref tb, .ref tw, .int B.life]) → SqT K H' tb (B.bakes.map V.int) → SqT K H' tw (B.dems.map V.int) → B.Ok → (B.n : Int) ≤ m → 1 ≤ B.n → B.n ≤ 24 → 1 ≤ B.life → B.life ≤ 30 → (∀ x ∈ B.bakes, x ≤ 24 * w + 2) → (∀ x ∈ B.dems, x < w) → Q (.ref p) H') : spPrt K [.ref h, .int m, .int w] H Q E := ⟨h, l, m, w, rfl, hat, h1, h2, h3, h4, fun p H' tb tw B a b c d e ok f g i => q p H' tb tw B a b c d e ok f ok.n0 ok.n1 ok.l0 ok.l1 g i⟩
theorem use_mix {xs : List Int} {sd : Int} (hx : SqL K H a (xs.map V.int)) (hl : xs.length ≤ 63) (h0 : 0 ≤ sd) (h1 : sd < 2147483647) (q : ∀ p l H', Same H H' → H p = none → H l = none → Hat H' p l → Q (.ref p) H') : spMix K [.ref a, .int sd] H Q E := ⟨a, xs, sd, rfl, hx, hl, h0, h1, q⟩
end

end G57
end
section
set_option maxRecDepth 100000
set_option maxHeartbeats 4000000
namespace G57
open PySem PySem.Spec PyProof.Rows L2
/-! the walk's small steps: "rd" reads on as far as it can -/
local macro_rules | `(tactic| walk_at "fact") => `(tactic| fail)
local macro_rules | `(tactic| walk_at "rd1") => `(tactic| with_reducible first
  | (refine v_id ?_; first | refine r_var_0 ?_ | refine r_var_1 ?_ | refine r_var_2 ?_ | refine r_var_3 ?_ | refine r_var_4 ?_ | refine r_var_5 ?_ | refine r_var_6 ?_ | refine r_var_7 ?_ | refine r_var_8 ?_ | refine r_var_9 ?_ | refine r_var_10 ?_ | refine r_var_11 ?_ | refine r_var_12 ?_ | refine r_var_13 ?_ | refine r_var_14 ?_ | refine r_var_15 ?_ | refine r_var_16 ?_ | refine r_var_17 ?_ | refine r_var_18 ?_ | refine r_var_19 ?_ | refine r_var_20 ?_ | refine r_var_21 ?_ | refine r_var_22 ?_ | refine r_var_23 ?_ | refine r_var_24 ?_ | refine r_var_25 ?_ | refine r_var_26 ?_ | refine r_var_27 ?_ | refine r_var rfl ?_)
  | (refine s_id ?_; first | refine r_set_0 ?_ | refine r_set_1 ?_ | refine r_set_2 ?_ | refine r_set_3 ?_ | refine r_set_4 ?_ | refine r_set_5 ?_ | refine r_set_6 ?_ | refine r_set_7 ?_ | refine r_set_8 ?_ | refine r_set_9 ?_ | refine r_set_10 ?_ | refine r_set_11 ?_ | refine r_set_12 ?_ | refine r_set_13 ?_ | refine r_set_14 ?_ | refine r_set_15 ?_ | refine r_set_16 ?_ | refine r_set_17 ?_ | refine r_set_18 ?_ | refine r_set_19 ?_ | refine r_set_20 ?_ | refine r_set_21 ?_ | refine r_set_22 ?_ | refine r_set_23 ?_ | refine r_set_24 ?_ | refine r_set_25 ?_ | refine r_set_26 ?_ | refine r_set_27 ?_ | refine r_setU ?_)
  | refine r_c ?_
  | refine r_op ?_
  | refine r_I0 ?_
  | refine r_seq ?_
  | refine r_asg ?_
  | refine r_fld ?_
  | refine r_nil ?_
  | refine r_cons ?_
  | refine r_cb ?_
  | refine r_max ?_
  | refine r_min ?_
  | refine r_ret ?_
  | refine r_met ?_
  | refine r_call ?_
  | refine r_B ?_
  | refine r_test ?_
  | refine r_b' ?_
  | refine r_ifS ?_
  | refine r_if ?_
  | refine r_par ?_
  | refine r_par2 ?_
  | refine r_drop ?_
  | refine r_next ?_
  | refine r_make ?_
  | refine r_sfld ?_
  | refine r_int1 ?_
  | refine r_intb ?_
  | refine r_and ?_
  | refine r_or ?_
  | refine r_not ?_
  | refine r_chain ?_
  | refine r_isN ?_
  | refine r_notN ?_
  | refine r_un ?_
  | refine r_U ?_
  | refine r_par3 ?_
  | refine r_par33 ?_
  | refine r_tup ?_
  | refine r_lst ?_
  | refine r_prop ?_
  | refine r_bm ?_
  | refine r_bm0 ?_
  | refine r_andV ?_
  | refine r_orV ?_
  | refine r_notV ?_
  | refine r_asgG ?_
  | refine r_gname ?_
  | refine r_gcons ?_
  | refine r_gnil ?_
  | refine r_rng1 ?_
  | refine r_rng2 ?_
  | refine r_for ?_
  | refine r_lc1 ?_
  | refine r_lc2 ?_
  | refine r_lc3 ?_
  | refine r_lc ?_
  | refine r_while ?_
  | refine r_rev ?_
  | refine r_sl ?_
  | refine r_augS ?_
  | refine r_iL ?_
  | refine r_iT ?_
  | refine r_iE ?_
  | refine r_ipI ?_
  | refine r_aug rfl ?_
  | refine r_cval ?_
  | refine r_turnN ?_
  | refine iT ?_
  | refine iNT ?_
  | refine iNF ?_
  | refine iOF ?_
  | refine iF ?_
  | refine r_part ?_
  | refine r_pi ?_
  | refine r_gsub ?_
  | refine r_noPart ?_)
local macro_rules | `(tactic| walk_at "rd") => `(tactic| (repeat (first | walk_at "rd1" | walk_at "fact")))
local macro_rules | `(tactic| walk_at "plen") => `(tactic| (repeat (first | decide | refine putF_lt ?_)))
local macro_rules | `(tactic| walk_at "rs") => `(tactic| (repeat ((fail_if_success (with_reducible refine r_stop ?_)); (first | walk_at "rd1" | walk_at "fact"))))
/-! finding a fact in the present heap by the way back; each rule is applied by its conclusion before its premises are sought -/
local macro_rules | `(tactic| walk_at "atx") => `(tactic| fail)
local macro_rules | `(tactic| walk_at "c_h") => `(tactic| first
  | with_reducible assumption
  | ((with_reducible apply hat_s); (with_reducible assumption); walk_at "c_h"))
local macro_rules | `(tactic| walk_at "c_n") => `(tactic| first
  | with_reducible assumption
  | ((with_reducible apply hat_ne); (with_reducible assumption); walk_at "c_h"))
local macro_rules | `(tactic| walk_at "c_o") => `(tactic| first
  | with_reducible assumption
  | with_reducible exact upd_same
  | ((with_reducible apply at_s); (with_reducible assumption); walk_at "c_o")
  | ((with_reducible apply atd_tup); (with_reducible assumption); walk_at "c_h"; walk_at "c_o")
  | ((with_reducible apply atd_ins); (with_reducible assumption); walk_at "c_h"; walk_at "c_o")
  | ((with_reducible apply atd_lst); (with_reducible assumption); walk_at "c_n"; walk_at "c_o")
  | ((with_reducible apply atx_tup); (with_reducible assumption); walk_at "c_o"; walk_at "c_o")
  | ((with_reducible apply atx_ins); (with_reducible assumption); walk_at "c_o"; walk_at "c_o")
  | ((with_reducible apply atx_ne); (with_reducible assumption); (with_reducible assumption); walk_at "c_o"))
local macro_rules | `(tactic| walk_at "c_q") => `(tactic| first
  | with_reducible assumption
  | ((with_reducible apply sqL_s); (with_reducible assumption); walk_at "c_q"))
local macro_rules | `(tactic| walk_at "c_t") => `(tactic| first
  | with_reducible assumption
  | ((with_reducible apply sqT_s); (with_reducible assumption); walk_at "c_t")
  | ((with_reducible apply sqT_d); (with_reducible assumption); walk_at "c_h"; walk_at "c_t")
  | ((with_reducible apply sqT_x); (with_reducible assumption); walk_at "c_o"; walk_at "c_t"))
local macro_rules | `(tactic| walk_at "c_p") => `(tactic| first
  | with_reducible assumption
  | ((with_reducible apply pairs_s); (with_reducible assumption); walk_at "c_p"))
local macro_rules | `(tactic| walk_at "at") => `(tactic| first
  | with_reducible assumption
  | with_reducible exact upd_same
  | walk_at "atx"
  | ((with_reducible apply sqL_at); walk_at "c_o")
  | ((with_reducible apply sqL_s); (with_reducible assumption); walk_at "c_q")
  | ((with_reducible apply sqT_at); walk_at "c_o")
  | ((with_reducible apply sqT_id); walk_at "c_t")
  | ((with_reducible apply hat_id); walk_at "c_h")
  | ((with_reducible apply pairs_id); walk_at "c_p")
  | ((with_reducible apply ne_id); walk_at "c_n")
  | ((with_reducible apply at_id); walk_at "c_o"))
/-! a length, an inequality -/
local macro_rules | `(tactic| walk_at "le") => `(tactic| first | exact Nat.le_of_ble_eq_true rfl | omega | (simp; done) | (simp; omega))
local macro_rules | `(tactic| walk_at "ar") => `(tactic| first | omega | exact ⟨by omega, by omega⟩ | exact .inl ⟨by omega, by omega⟩ | exact .inr ⟨by omega, by omega⟩ | exact .inr (by omega) | exact .inl (by omega) | exact ⟨by omega, by omega, by omega⟩ | decide)
/-! calls of the text's own defs, with letters for what they leave -/
local macro_rules | `(tactic| walk_at "use") => `(tactic| fail)
local macro_rules | `(tactic| walk_at "go1") => `(tactic| first
  | walk_at "rd1"
  | walk_at "fact"
  | walk_at "use"
  | with_reducible refine r_p6 ?_
  | with_reducible refine r_p8 ?_
  | with_reducible refine r_p9 ?_
  | with_reducible refine r_p10 ?_
  | with_reducible refine r_p12 ?_
  | with_reducible refine r_p14 ?_
  | with_reducible refine r_p15 ?_
  | with_reducible refine r_p17 ?_
  | with_reducible refine r_p18 ?_
  | ((with_reducible apply r_I); walk_at "ar")
  | ((with_reducible apply a_neNil); walk_at "at"; intro _ _)
  | ((with_reducible apply a_eqNil); walk_at "at"; intro _ _)
  | ((with_reducible apply a_nwT); walk_at "le"; intro _ _ _ _ _)
  | ((with_reducible apply a_nwL); walk_at "le"; intro _ _ _ _ _)
  | ((with_reducible apply r_ixL (j := 0)); walk_at "at"; rfl; rfl)
  | ((with_reducible apply r_ixL (j := 1)); walk_at "at"; rfl; rfl)
  | ((with_reducible apply r_ixL (j := 2)); walk_at "at"; rfl; rfl)
  | ((with_reducible apply r_ixL (j := 3)); walk_at "at"; rfl; rfl)
  | ((with_reducible apply r_ixT (j := 0)); walk_at "at"; rfl; rfl)
  | ((with_reducible apply r_ixT (j := 1)); walk_at "at"; rfl; rfl)
  | ((with_reducible apply r_ixT (j := 2)); walk_at "at"; rfl; rfl)
  | ((with_reducible apply a_pick2); walk_at "at"; omega; omega; intro _ _)
  | ((with_reducible apply a_pick3); walk_at "at"; omega; omega; intro _ _)
  | ((with_reducible apply a_pick4); walk_at "at"; omega; omega; intro _ _)
  | ((with_reducible apply r_gtup); walk_at "at"; rfl)
  | ((with_reducible apply a_lenLI); walk_at "at")
  | ((with_reducible apply r_lenL); walk_at "at")
  | ((with_reducible apply r_lenT); walk_at "at")
  | ((with_reducible apply r_tyL); walk_at "at")
  | ((with_reducible apply a_cat); walk_at "at"; walk_at "at"; walk_at "le"; intro _ _ _ _ _)
  | ((with_reducible apply a_listL); walk_at "at"; intro _ _ _ _ _)
  | ((with_reducible apply a_tupL); walk_at "at"; intro _ _ _ _ _)
  | ((with_reducible apply a_slL); walk_at "at"; intro _ _ _ _ _)
  | ((with_reducible apply a_revL); walk_at "at"; intro _ _ _ _ _)
  | ((with_reducible apply r_sumT); walk_at "at")
  | ((with_reducible apply r_sumL); walk_at "at")
  | ((with_reducible refine ⟨_, rfl, ?_, ?_, ?_⟩); omega; omega)
  | ((with_reducible refine ⟨_, _, rfl, ⟨?_, ?_, ?_, ?_⟩, ?_⟩); omega; omega; omega; omega)
  | with_reducible refine ⟨_, rfl, ⟨_, by walk_at "at"⟩, ?_⟩)
local macro_rules | `(tactic| walk_at "go") => `(tactic| (repeat (walk_at "go1")))
local macro_rules | `(tactic| walk_at "sames") => `(tactic| first | exact sameR | assumption | ((with_reducible apply sameB); assumption; walk_at "sames"))
local macro_rules | `(tactic| walk_at "sameds") => `(tactic| first | assumption | ((with_reducible apply sameD_of); walk_at "sames"; done) | ((with_reducible apply sameDB); assumption; walk_at "sameds") | ((with_reducible apply sameDS); assumption; walk_at "sameds"))
local macro_rules | `(tactic| walk_at "gs") => `(tactic| (repeat ((fail_if_success (with_reducible refine r_stop ?_)); (walk_at "go1"))))
local macro_rules | `(tactic| walk_at "c_d") => `(tactic| first
  | with_reducible assumption
  | ((with_reducible apply bakD_s); (with_reducible assumption); walk_at "c_d")
  | ((with_reducible apply bakD_d); (with_reducible assumption); walk_at "c_h"; walk_at "c_d"))
local macro_rules | `(tactic| walk_at "c_b") => `(tactic| first
  | with_reducible assumption
  | ((with_reducible apply bakAt_s); (with_reducible assumption); walk_at "c_b"))
local macro_rules | `(tactic| walk_at "c_a") => `(tactic| first
  | with_reducible assumption
  | ((with_reducible apply bakAt_D); walk_at "c_d")
  | walk_at "c_b")
local macro_rules | `(tactic| walk_at "c_m1") => `(tactic| first
  | with_reducible assumption
  | ((with_reducible apply bakM_s); (with_reducible assumption); walk_at "c_m1"))
local macro_rules | `(tactic| walk_at "c_m") => `(tactic| first
  | with_reducible assumption
  | ((with_reducible apply bakM_at); walk_at "c_a")
  | walk_at "c_m1")
local macro_rules | `(tactic| walk_at "atx") => `(tactic| first
  | ((with_reducible apply bakD_id); walk_at "c_d")
  | ((with_reducible apply bakAt_id); walk_at "c_a")
  | ((with_reducible apply bakM_id); walk_at "c_m")
  | ((with_reducible apply bakC_M); walk_at "c_m"))
local macro_rules | `(tactic| walk_at "ok") => `(tactic| first | assumption | exact BakD.ok (by assumption) | exact BakAt.ok (by assumption))
local macro_rules | `(tactic| walk_at "use") => `(tactic| first
  | ((with_reducible apply mBk); walk_at "at"; decide)
  | ((with_reducible apply pBk); walk_at "at")
  | ((with_reducible apply use_stk); walk_at "at"; omega; omega; intro _ _)
  | ((with_reducible apply use_msd); walk_at "at"; omega; omega; intro _ _)
  | ((with_reducible apply use_thn); walk_at "at"; omega; omega; intro _ _)
  | ((with_reducible apply use_sld); walk_at "at"; omega; omega; intro _ _)
  | ((with_reducible apply use_tot); walk_at "at"; omega; omega; intro _ _ _ _)
  | ((with_reducible apply use_shf); walk_at "at"; omega; omega; intro _ _ _ _ _ _)
  | ((with_reducible apply use_sdy); walk_at "at"; intro _ _ _)
  | ((with_reducible apply use_lrn); walk_at "at"; intro _ _ _ _)
  | ((with_reducible apply use_bks); walk_at "at"; intro _ _)
  | ((with_reducible apply use_dms); walk_at "at"; intro _ _)
  | ((with_reducible apply use_lif); walk_at "at")
  | ((with_reducible apply use_nxt); walk_at "at"; omega; omega; intro _ _ _ _ _ _)
  | ((with_reducible apply use_num); omega; omega)
  | ((with_reducible apply use_liv); walk_at "at"; (exact liv_ok (by walk_at "ok") (by omega) (by omega)); intro _ _ _ _)
  | ((with_reducible apply use_mor); walk_at "at"; assumption; intro _ _ _ _)
  | ((with_reducible apply a_maxB); walk_at "at"; walk_at "ok"; intro _ _ _)
  | ((with_reducible apply a_minB); walk_at "at"; walk_at "ok"; intro _ _ _)
  | with_reducible refine r_cvalR (fcv_Bakery_MAX_LIFE ‹_›) ?_
  | ((with_reducible apply a_lenTB); walk_at "at")
  | ((with_reducible apply a_lenTD); walk_at "at"; walk_at "ok")
  | ((with_reducible apply a_ixD); walk_at "at"; walk_at "ok")
  | ((with_reducible apply a_ixB); walk_at "at"; walk_at "ok"; omega))
local macro_rules | `(tactic| walk_at "alk") => `(tactic| first
  | ((with_reducible apply alk_tup); walk_at "at"; walk_at "at"; walk_at "le")
  | ((with_reducible apply alk_lst); walk_at "at"; walk_at "at"; walk_at "le")
  | ((with_reducible apply use_alkL); walk_at "at"; walk_at "at"; walk_at "le")
  | ((with_reducible apply use_alkT); walk_at "at"; walk_at "at"; walk_at "le"))
def spLlf (K : PySem.W.Frag) : Sp := fun vs H Q _ => ∃ (a : Addr) (B : Bak) (m : Int), vs = [.ref a, .int m] ∧ BakM K H a B ∧ 0 ≤ m ∧ m ≤ 1000000000000 ∧
  (∀ (i : Nat) H', i < 30 → Same H H' → (B.liv (1 + (i : Nat))).lost ≤ m → (∀ j : Nat, j < i → m < (B.liv (1 + (j : Nat))).lost) → Q (.int (1 + (i : Nat))) H') ∧
  (∀ H', Same H H' → (∀ j : Nat, j < 30 → m < (B.liv (1 + (j : Nat))).lost) → Q .non H')
theorem ok_least_life {P : Program} {w : World} {K : PySem.W.Frag} {mg : Str → Option Value} {base : Heap} (T : Tx K mg) : C8.Cal P w K mg base 11 "least_life" (spLlf K) [] := by
  have G_validate_number := ok_validate_number (P := P) (w := w) (base := base) T
  have G_Bakery_with_life := ok_Bakery_with_life (P := P) (w := w) (base := base) T
  have G_Bakery_long_run := ok_Bakery_long_run (P := P) (w := w) (base := base) T
  refine cal_of (d := d_least_life) (x := "least_life") (fn_least_life T) rfl rfl (fg_least_life T) sc_least_life (fun _ _ _ _ _ _ us hl => match us, hl with | [_, _], _ => rfl) (fun vs H Q E h => ?_) (fun cdv A outer s H vs Q E hr h => ?_)
  · obtain ⟨a, B, m, rfl, hb, m0, m1, k1, k2⟩ := h
    rfl
  obtain ⟨a, B, m, rfl, hb, m0, m1, k1, k2⟩ := h
  refine ⟨_, (pss_cons (ps_expr (C8.pe_c G_validate_number hr (by decide) (by rfl) (pa_cons (pv 1) (pa_cons pe_int (pa_cons (C8.pe_gc rfl (gc_int (fi_MAX_MISSED T))) pa_nil)))))
      (pss_cons (ps_for PassesOwn.never rfl (pi_range2 (by rfl) (fn_range T) (pa_cons pe_int (pa_cons (pe_op op_add (ClX.pe_cval (pe_glob (v := .ref (He.ga K "Bakery")) rfl (fg_Bakery T) rfl)) pe_int) pa_nil))) (pg_name (i := 2) sc_least_life.nd rfl (Or.inl rfl)) (pss_one (ps_if (pt_cmpR op_le (pe_ix ix_tup (pe_pr G_Bakery_long_run hr (by decide) (C8.pe_mt G_Bakery_with_life hr (by decide) (pv 0) (pa_cons (pv 2) pa_nil))) pe_int (fun _ _ => rfl)) (pv 1) (nomark _)) (pss_one (ps_ret (pv 2))) pss_nil)))
      (pss_one (ps_ret pe_non)))), ?_⟩
  try dsimp only [cxOf, Cx.nox, Cx.wish]
  repeat rw [st_cons]
  repeat rw [st_none]
  try rw [st_nn]
  have ok := hb.c.1
  walk_at "go"
  refine fR_range (fun i σ H' => ∃ x, σ = [some (.ref a), some (.int m), x] ∧ Same H H' ∧ ∀ j : Nat, j < i → m < (B.liv (1 + (j : Nat))).lost) ⟨none, rfl, sameR, fun j hj => absurd hj (Nat.not_lt_zero _)⟩ ?_ ?_
  · rintro i σ H' hi ⟨x, rfl, s1, hj⟩
    have hi30 : i < 30 := hi
    walk_at "go"
    rename_i p H2 s2 hp q D hD e
    rw [← lost_eq hD]
    refine i2 (fun c => ?_) (fun c => ?_)
    · walk_at "go"
      exact k1 i _ hi30 (by walk_at "sames") c hj
    · walk_at "go"
      refine ⟨_, rfl, by walk_at "sames", fun j hj2 => ?_⟩
      by_cases ej : j = i
      · rw [ej]
        omega
      · exact hj j (by omega)
  · rintro σ H' ⟨x, rfl, s1, hj⟩
    walk_at "go"
    exact k2 _ (by walk_at "sames") hj
def spLbk (K : PySem.W.Frag) : Sp := fun vs H Q _ => ∃ (a : Addr) (B : Bak) (m top : Int), vs = [.ref a, .int m] ∧ BakM K H a B ∧ 0 ≤ m ∧ m ≤ 1000000000000 ∧ 1000000000 - top ∈ B.bakes ∧ (∀ x ∈ B.bakes, x ≤ 1000000000 - top) ∧
  (∀ (c : Int) H', 0 ≤ c → c ≤ top → Same H H' → (B.mor c).lost ≤ m → (0 < c → m < (B.mor (c - 1)).lost) → Q (.int c) H') ∧
  (∀ H', Same H H' → m < (B.mor top).lost → Q .non H')
theorem ok_least_baking {P : Program} {w : World} {K : PySem.W.Frag} {mg : Str → Option Value} {base : Heap} (T : Tx K mg) : C8.Cal P w K mg base 11 "least_baking" (spLbk K) [] := by
  have G_validate_number := ok_validate_number (P := P) (w := w) (base := base) T
  have G_Bakery_bakes := ok_Bakery_bakes (P := P) (w := w) (base := base) T
  have G_Bakery_baking_more := ok_Bakery_baking_more (P := P) (w := w) (base := base) T
  have G_Bakery_long_run := ok_Bakery_long_run (P := P) (w := w) (base := base) T
  refine cal_of (d := d_least_baking) (x := "least_baking") (fn_least_baking T) rfl rfl (fg_least_baking T) sc_least_baking (fun _ _ _ _ _ _ us hl => match us, hl with | [_, _], _ => rfl) (fun vs H Q E h => ?_) (fun cdv A outer s H vs Q E hr h => ?_)
  · obtain ⟨a, B, m, top, rfl, hb, m0, m1, ht, hle, k1, k2⟩ := h
    rfl
  obtain ⟨a, B, m, top, rfl, hb, m0, m1, ht, hle, k1, k2⟩ := h
  refine ⟨_, (pss_cons (ps_expr (C8.pe_c G_validate_number hr (by decide) (by rfl) (pa_cons (pv 1) (pa_cons pe_int (pa_cons (C8.pe_gc rfl (gc_int (fi_MAX_MISSED T))) pa_nil)))))
      (pss_cons (ps_par (i := 2) (j := 3) (by rfl) sc_least_baking.nd rfl rfl (by decide) rfl rfl (pa_cons pe_int (pa_cons (pe_op op_sub (C8.pe_gc rfl (gc_int (fi_MAX_AMOUNT T))) (pe_callB (cr_maxT rfl) (by rfl) (fn_max T) bb_max (pa_cons (pe_pr G_Bakery_bakes hr (by decide) (pv 0)) pa_nil))) pa_nil)) (by rfl))
      (pss_cons (ps_if (pt_cmpR op_gt (pe_ix ix_tup (pe_pr G_Bakery_long_run hr (by decide) (C8.pe_mt G_Bakery_baking_more hr (by decide) (pv 0) (pa_cons (pv 3) pa_nil))) pe_int (fun _ _ => rfl)) (pv 1) (nomark _)) (pss_one (ps_ret pe_non)) pss_nil)
      (pss_cons (ps_while PassesOwn.never (pt_cmpR op_lt (pv 2) (pv 3) (nomark _)) (pss_cons (ps_set (i := 4) sc_least_baking.nd rfl (Or.inl rfl) (pe_op op_fdiv (pe_op op_add (pv 2) (pv 3)) pe_int))
      (pss_one (ps_if (pt_cmpR op_le (pe_ix ix_tup (pe_pr G_Bakery_long_run hr (by decide) (C8.pe_mt G_Bakery_baking_more hr (by decide) (pv 0) (pa_cons (pv 4) pa_nil))) pe_int (fun _ _ => rfl)) (pv 1) (nomark _)) (pss_one (ps_set (i := 3) sc_least_baking.nd rfl (Or.inl rfl) (pv 4))) (pss_one (ps_set (i := 2) sc_least_baking.nd rfl (Or.inl rfl) (pe_op op_add (pv 4) pe_int)))))))
      (pss_one (ps_ret (pv 2))))))), ?_⟩
  try dsimp only [cxOf, Cx.nox, Cx.wish]
  repeat rw [st_cons]
  repeat rw [st_none]
  try rw [st_nn]
  have ok := hb.c.1
  have okm : ∀ c : Int, 0 ≤ c → c ≤ top → (B.mor c).Ok := fun c c0 c1 => mor_ok ok fun x hx => by
    have h1 := hle x hx
    have h2 := ok.b x hx
    omega
  have top0 : 0 ≤ top := by
    have := ok.b _ ht
    omega
  walk_at "go"
  rename_i tb htb M hM hMl
  have eM : M = 1000000000 - top := by
    have h1 := hle M hM
    have h2 := hMl _ ht
    omega
  subst eM
  have et : (1000000000 : Int) - (1000000000 - top) = top := by omega
  rw [et]
  have okt := okm top top0 (Int.le_refl _)
  walk_at "go"
  rename_i p H2 s2 hp q D hD e
  rw [← lost_eq hD]
  refine i2 (fun c => ?_) (fun c => ?_)
  · walk_at "go"
    exact k2 _ (by walk_at "sames") c
  · walk_at "go"
    refine ⟨fun w σ H' => ∃ (lo hi : Int) (x : Option V), σ = [some (.ref a), some (.int m), some (.int lo), some (.int hi), x] ∧ 0 ≤ lo ∧ lo ≤ hi ∧ hi ≤ top ∧ w = (hi - lo).toNat ∧ Same H H' ∧ (B.mor hi).lost ≤ m ∧ (0 < lo → m < (B.mor (lo - 1)).lost), ⟨_, 0, top, _, rfl, Int.le_refl _, top0, Int.le_refl _, rfl, by walk_at "sames", by omega, fun z => absurd z (by decide)⟩, ?_⟩
    clear s2 hp e
    rintro w σ H' ⟨lo, hi, x, rfl, l0, lh, ht', rfl, s1, g1, g2⟩
    walk_at "go"
    refine i2 (fun c => ?_) (fun c => ?_)
    · refine r_turn ?_
      walk_at "go"
      have okc := okm ((lo + hi) / 2) (by omega) (by omega)
      walk_at "go"
      rename_i p H3 s3 hp q E hE e
      rw [← lost_eq hE]
      refine i2 (fun c2 => ?_) (fun c2 => ?_)
      · walk_at "go"
        exact ⟨_, (by omega : ((lo + hi) / 2 - lo).toNat < (hi - lo).toNat), lo, _, _, rfl, l0, by omega, by omega, rfl, by walk_at "sames", c2, g2⟩
      · walk_at "go"
        refine ⟨_, (by omega : (hi - ((lo + hi) / 2 + 1)).toNat < (hi - lo).toNat), _, hi, _, rfl, by omega, by omega, ht', rfl, by walk_at "sames", g1, fun _ => ?_⟩
        have e1 : (lo + hi) / 2 + 1 - 1 = (lo + hi) / 2 := by omega
        rw [e1]
        omega
    · walk_at "go"
      have e1 : lo = hi := by omega
      subst e1
      exact k1 _ _ l0 ht' (by walk_at "sames") g1 g2
section
variable {K : PySem.W.Frag} {H : Hp} {Q : VK} {E : XK} {a : Addr} {B : Bak}
theorem use_llf {m : Int} (b : BakM K H a B) (m0 : 0 ≤ m) (m1 : m ≤ 1000000000000) (k1 : ∀ (i : Nat) H', i < 30 → Same H H' → (B.liv (1 + (i : Nat))).lost ≤ m → (∀ j : Nat, j < i → m < (B.liv (1 + (j : Nat))).lost) → Q (.int (1 + (i : Nat))) H') (k2 : ∀ H', Same H H' → (∀ j : Nat, j < 30 → m < (B.liv (1 + (j : Nat))).lost) → Q .non H') : spLlf K [.ref a, .int m] H Q E := ⟨a, B, m, rfl, b, m0, m1, k1, k2⟩
theorem use_lbk {m top : Int} (b : BakM K H a B) (m0 : 0 ≤ m) (m1 : m ≤ 1000000000000) (ht : 1000000000 - top ∈ B.bakes) (hle : ∀ x ∈ B.bakes, x ≤ 1000000000 - top) (k1 : ∀ (c : Int) H', 0 ≤ c → c ≤ top → Same H H' → (B.mor c).lost ≤ m → (0 < c → m < (B.mor (c - 1)).lost) → Q (.int c) H') (k2 : ∀ H', Same H H' → m < (B.mor top).lost → Q .non H') : spLbk K [.ref a, .int m] H Q E := ⟨a, B, m, top, rfl, b, m0, m1, ht, hle, k1, k2⟩
end

end G57
end
section
set_option maxRecDepth 100000
set_option maxHeartbeats 4000000
namespace G57
open PySem PySem.Spec PyProof.Rows L2
/-! the walk's small steps: "rd" reads on as far as it can -/
local macro_rules | `(tactic| walk_at "fact") => `(tactic| fail)
local macro_rules | `(tactic| walk_at "rd1") => `(tactic| with_reducible first
  | (refine v_id ?_; first | refine r_var_0 ?_ | refine r_var_1 ?_ | refine r_var_2 ?_ | refine r_var_3 ?_ | refine r_var_4 ?_ | refine r_var_5 ?_ | refine r_var_6 ?_ | refine r_var_7 ?_ | refine r_var_8 ?_ | refine r_var_9 ?_ | refine r_var_10 ?_ | refine r_var_11 ?_ | refine r_var_12 ?_ | refine r_var_13 ?_ | refine r_var_14 ?_ | refine r_var_15 ?_ | refine r_var_16 ?_ | refine r_var_17 ?_ | refine r_var_18 ?_ | refine r_var_19 ?_ | refine r_var_20 ?_ | refine r_var_21 ?_ | refine r_var_22 ?_ | refine r_var_23 ?_ | refine r_var_24 ?_ | refine r_var_25 ?_ | refine r_var_26 ?_ | refine r_var_27 ?_ | refine r_var rfl ?_)
  | (refine s_id ?_; first | refine r_set_0 ?_ | refine r_set_1 ?_ | refine r_set_2 ?_ | refine r_set_3 ?_ | refine r_set_4 ?_ | refine r_set_5 ?_ | refine r_set_6 ?_ | refine r_set_7 ?_ | refine r_set_8 ?_ | refine r_set_9 ?_ | refine r_set_10 ?_ | refine r_set_11 ?_ | refine r_set_12 ?_ | refine r_set_13 ?_ | refine r_set_14 ?_ | refine r_set_15 ?_ | refine r_set_16 ?_ | refine r_set_17 ?_ | refine r_set_18 ?_ | refine r_set_19 ?_ | refine r_set_20 ?_ | refine r_set_21 ?_ | refine r_set_22 ?_ | refine r_set_23 ?_ | refine r_set_24 ?_ | refine r_set_25 ?_ | refine r_set_26 ?_ | refine r_set_27 ?_ | refine r_setU ?_)
  | refine r_c ?_
  | refine r_op ?_
  | refine r_I0 ?_
  | refine r_seq ?_
  | refine r_asg ?_
  | refine r_fld ?_
  | refine r_nil ?_
  | refine r_cons ?_
  | refine r_cb ?_
  | refine r_max ?_
  | refine r_min ?_
  | refine r_ret ?_
  | refine r_met ?_
  | refine r_call ?_
  | refine r_B ?_
  | refine r_test ?_
  | refine r_b' ?_
  | refine r_ifS ?_
  | refine r_if ?_
  | refine r_par ?_
  | refine r_par2 ?_
  | refine r_drop ?_
  | refine r_next ?_
  | refine r_make ?_
  | refine r_sfld ?_
  | refine r_int1 ?_
  | refine r_intb ?_
  | refine r_and ?_
  | refine r_or ?_
  | refine r_not ?_
  | refine r_chain ?_
  | refine r_isN ?_
  | refine r_notN ?_
  | refine r_un ?_
  | refine r_U ?_
  | refine r_par3 ?_
  | refine r_par33 ?_
  | refine r_tup ?_
  | refine r_lst ?_
  | refine r_prop ?_
  | refine r_bm ?_
  | refine r_bm0 ?_
  | refine r_andV ?_
  | refine r_orV ?_
  | refine r_notV ?_
  | refine r_asgG ?_
  | refine r_gname ?_
  | refine r_gcons ?_
  | refine r_gnil ?_
  | refine r_rng1 ?_
  | refine r_rng2 ?_
  | refine r_for ?_
  | refine r_lc1 ?_
  | refine r_lc2 ?_
  | refine r_lc3 ?_
  | refine r_lc ?_
  | refine r_while ?_
  | refine r_rev ?_
  | refine r_sl ?_
  | refine r_augS ?_
  | refine r_iL ?_
  | refine r_iT ?_
  | refine r_iE ?_
  | refine r_ipI ?_
  | refine r_aug rfl ?_
  | refine r_cval ?_
  | refine r_turnN ?_
  | refine iT ?_
  | refine iNT ?_
  | refine iNF ?_
  | refine iOF ?_
  | refine iF ?_
  | refine r_part ?_
  | refine r_pi ?_
  | refine r_gsub ?_
  | refine r_noPart ?_)
local macro_rules | `(tactic| walk_at "rd") => `(tactic| (repeat (first | walk_at "rd1" | walk_at "fact")))
local macro_rules | `(tactic| walk_at "plen") => `(tactic| (repeat (first | decide | refine putF_lt ?_)))
local macro_rules | `(tactic| walk_at "rs") => `(tactic| (repeat ((fail_if_success (with_reducible refine r_stop ?_)); (first | walk_at "rd1" | walk_at "fact"))))
/-! finding a fact in the present heap by the way back; each rule is applied by its conclusion before its premises are sought -/
local macro_rules | `(tactic| walk_at "atx") => `(tactic| fail)
local macro_rules | `(tactic| walk_at "c_h") => `(tactic| first
  | with_reducible assumption
  | ((with_reducible apply hat_s); (with_reducible assumption); walk_at "c_h"))
local macro_rules | `(tactic| walk_at "c_n") => `(tactic| first
  | with_reducible assumption
  | ((with_reducible apply hat_ne); (with_reducible assumption); walk_at "c_h"))
local macro_rules | `(tactic| walk_at "c_o") => `(tactic| first
  | with_reducible assumption
  | with_reducible exact upd_same
  | ((with_reducible apply at_s); (with_reducible assumption); walk_at "c_o")
  | ((with_reducible apply atd_tup); (with_reducible assumption); walk_at "c_h"; walk_at "c_o")
  | ((with_reducible apply atd_ins); (with_reducible assumption); walk_at "c_h"; walk_at "c_o")
  | ((with_reducible apply atd_lst); (with_reducible assumption); walk_at "c_n"; walk_at "c_o")
  | ((with_reducible apply atx_tup); (with_reducible assumption); walk_at "c_o"; walk_at "c_o")
  | ((with_reducible apply atx_ins); (with_reducible assumption); walk_at "c_o"; walk_at "c_o")
  | ((with_reducible apply atx_ne); (with_reducible assumption); (with_reducible assumption); walk_at "c_o"))
local macro_rules | `(tactic| walk_at "c_q") => `(tactic| first
  | with_reducible assumption
  | ((with_reducible apply sqL_s); (with_reducible assumption); walk_at "c_q"))
local macro_rules | `(tactic| walk_at "c_t") => `(tactic| first
  | with_reducible assumption
  | ((with_reducible apply sqT_s); (with_reducible assumption); walk_at "c_t")
  | ((with_reducible apply sqT_d); (with_reducible assumption); walk_at "c_h"; walk_at "c_t")
  | ((with_reducible apply sqT_x); (with_reducible assumption); walk_at "c_o"; walk_at "c_t"))
local macro_rules | `(tactic| walk_at "c_p") => `(tactic| first
  | with_reducible assumption
  | ((with_reducible apply pairs_s); (with_reducible assumption); walk_at "c_p"))
local macro_rules | `(tactic| walk_at "at") => `(tactic| first
  | with_reducible assumption
  | with_reducible exact upd_same
  | walk_at "atx"
  | ((with_reducible apply sqL_at); walk_at "c_o")
  | ((with_reducible apply sqL_s); (with_reducible assumption); walk_at "c_q")
  | ((with_reducible apply sqT_at); walk_at "c_o")
  | ((with_reducible apply sqT_id); walk_at "c_t")
  | ((with_reducible apply hat_id); walk_at "c_h")
  | ((with_reducible apply pairs_id); walk_at "c_p")
  | ((with_reducible apply ne_id); walk_at "c_n")
  | ((with_reducible apply at_id); walk_at "c_o"))
/-! a length, an inequality -/
local macro_rules | `(tactic| walk_at "le") => `(tactic| first | exact Nat.le_of_ble_eq_true rfl | omega | (simp; done) | (simp; omega))
local macro_rules | `(tactic| walk_at "ar") => `(tactic| first | omega | exact ⟨by omega, by omega⟩ | exact .inl ⟨by omega, by omega⟩ | exact .inr ⟨by omega, by omega⟩ | exact .inr (by omega) | exact .inl (by omega) | exact ⟨by omega, by omega, by omega⟩ | decide)
/-! calls of the text's own defs, with letters for what they leave -/
local macro_rules | `(tactic| walk_at "use") => `(tactic| fail)
local macro_rules | `(tactic| walk_at "go1") => `(tactic| first
  | walk_at "rd1"
  | walk_at "fact"
  | walk_at "use"
  | with_reducible refine r_p6 ?_
  | with_reducible refine r_p8 ?_
  | with_reducible refine r_p9 ?_
  | with_reducible refine r_p10 ?_
  | with_reducible refine r_p12 ?_
  | with_reducible refine r_p14 ?_
  | with_reducible refine r_p15 ?_
  | with_reducible refine r_p17 ?_
  | with_reducible refine r_p18 ?_
  | ((with_reducible apply r_I); walk_at "ar")
  | ((with_reducible apply a_neNil); walk_at "at"; intro _ _)
  | ((with_reducible apply a_eqNil); walk_at "at"; intro _ _)
  | ((with_reducible apply a_nwT); walk_at "le"; intro _ _ _ _ _)
  | ((with_reducible apply a_nwL); walk_at "le"; intro _ _ _ _ _)
  | ((with_reducible apply r_ixL (j := 0)); walk_at "at"; rfl; rfl)
  | ((with_reducible apply r_ixL (j := 1)); walk_at "at"; rfl; rfl)
  | ((with_reducible apply r_ixL (j := 2)); walk_at "at"; rfl; rfl)
  | ((with_reducible apply r_ixL (j := 3)); walk_at "at"; rfl; rfl)
  | ((with_reducible apply r_ixT (j := 0)); walk_at "at"; rfl; rfl)
  | ((with_reducible apply r_ixT (j := 1)); walk_at "at"; rfl; rfl)
  | ((with_reducible apply r_ixT (j := 2)); walk_at "at"; rfl; rfl)
  | ((with_reducible apply a_pick2); walk_at "at"; omega; omega; intro _ _)
  | ((with_reducible apply a_pick3); walk_at "at"; omega; omega; intro _ _)
  | ((with_reducible apply a_pick4); walk_at "at"; omega; omega; intro _ _)
  | ((with_reducible apply r_gtup); walk_at "at"; rfl)
  | ((with_reducible apply a_lenLI); walk_at "at")
  | ((with_reducible apply r_lenL); walk_at "at")
  | ((with_reducible apply r_lenT); walk_at "at")
  | ((with_reducible apply r_tyL); walk_at "at")
  | ((with_reducible apply a_cat); walk_at "at"; walk_at "at"; walk_at "le"; intro _ _ _ _ _)
  | ((with_reducible apply a_listL); walk_at "at"; intro _ _ _ _ _)
  | ((with_reducible apply a_tupL); walk_at "at"; intro _ _ _ _ _)
  | ((with_reducible apply a_slL); walk_at "at"; intro _ _ _ _ _)
  | ((with_reducible apply a_revL); walk_at "at"; intro _ _ _ _ _)
  | ((with_reducible apply r_sumT); walk_at "at")
  | ((with_reducible apply r_sumL); walk_at "at")
  | ((with_reducible refine ⟨_, rfl, ?_, ?_, ?_⟩); omega; omega)
  | ((with_reducible refine ⟨_, _, rfl, ⟨?_, ?_, ?_, ?_⟩, ?_⟩); omega; omega; omega; omega)
  | with_reducible refine ⟨_, rfl, ⟨_, by walk_at "at"⟩, ?_⟩)
local macro_rules | `(tactic| walk_at "go") => `(tactic| (repeat (walk_at "go1")))
local macro_rules | `(tactic| walk_at "sames") => `(tactic| first | exact sameR | assumption | ((with_reducible apply sameB); assumption; walk_at "sames"))
local macro_rules | `(tactic| walk_at "sameds") => `(tactic| first | assumption | ((with_reducible apply sameD_of); walk_at "sames"; done) | ((with_reducible apply sameDB); assumption; walk_at "sameds") | ((with_reducible apply sameDS); assumption; walk_at "sameds"))
local macro_rules | `(tactic| walk_at "gs") => `(tactic| (repeat ((fail_if_success (with_reducible refine r_stop ?_)); (walk_at "go1"))))
local macro_rules | `(tactic| walk_at "c_d") => `(tactic| first
  | with_reducible assumption
  | ((with_reducible apply bakD_s); (with_reducible assumption); walk_at "c_d")
  | ((with_reducible apply bakD_d); (with_reducible assumption); walk_at "c_h"; walk_at "c_d"))
local macro_rules | `(tactic| walk_at "c_b") => `(tactic| first
  | with_reducible assumption
  | ((with_reducible apply bakAt_s); (with_reducible assumption); walk_at "c_b"))
local macro_rules | `(tactic| walk_at "c_a") => `(tactic| first
  | with_reducible assumption
  | ((with_reducible apply bakAt_D); walk_at "c_d")
  | walk_at "c_b")
local macro_rules | `(tactic| walk_at "c_m1") => `(tactic| first
  | with_reducible assumption
  | ((with_reducible apply bakM_s); (with_reducible assumption); walk_at "c_m1"))
local macro_rules | `(tactic| walk_at "c_m") => `(tactic| first
  | with_reducible assumption
  | ((with_reducible apply bakM_at); walk_at "c_a")
  | walk_at "c_m1")
local macro_rules | `(tactic| walk_at "atx") => `(tactic| first
  | ((with_reducible apply bakD_id); walk_at "c_d")
  | ((with_reducible apply bakAt_id); walk_at "c_a")
  | ((with_reducible apply bakM_id); walk_at "c_m")
  | ((with_reducible apply bakC_M); walk_at "c_m"))
local macro_rules | `(tactic| walk_at "ok") => `(tactic| first | assumption | exact BakD.ok (by assumption) | exact BakAt.ok (by assumption))
local macro_rules | `(tactic| walk_at "use") => `(tactic| first
  | ((with_reducible apply mBk); walk_at "at"; decide)
  | ((with_reducible apply pBk); walk_at "at")
  | ((with_reducible apply use_stk); walk_at "at"; omega; omega; intro _ _)
  | ((with_reducible apply use_msd); walk_at "at"; omega; omega; intro _ _)
  | ((with_reducible apply use_thn); walk_at "at"; omega; omega; intro _ _)
  | ((with_reducible apply use_sld); walk_at "at"; omega; omega; intro _ _)
  | ((with_reducible apply use_tot); walk_at "at"; omega; omega; intro _ _ _ _)
  | ((with_reducible apply use_shf); walk_at "at"; omega; omega; intro _ _ _ _ _ _)
  | ((with_reducible apply use_sdy); walk_at "at"; intro _ _ _)
  | ((with_reducible apply use_lrn); walk_at "at"; intro _ _ _ _)
  | ((with_reducible apply use_bks); walk_at "at"; intro _ _)
  | ((with_reducible apply use_dms); walk_at "at"; intro _ _)
  | ((with_reducible apply use_lif); walk_at "at")
  | ((with_reducible apply use_nxt); walk_at "at"; omega; omega; intro _ _ _ _ _ _)
  | ((with_reducible apply use_num); omega; omega)
  | ((with_reducible apply use_liv); walk_at "at"; (exact liv_ok (by walk_at "ok") (by omega) (by omega)); intro _ _ _ _)
  | ((with_reducible apply use_mor); walk_at "at"; assumption; intro _ _ _ _)
  | ((with_reducible apply a_maxB); walk_at "at"; walk_at "ok"; intro _ _ _)
  | ((with_reducible apply a_minB); walk_at "at"; walk_at "ok"; intro _ _ _)
  | with_reducible refine r_cvalR (fcv_Bakery_MAX_LIFE ‹_›) ?_
  | ((with_reducible apply a_lenTB); walk_at "at")
  | ((with_reducible apply a_lenTD); walk_at "at"; walk_at "ok")
  | ((with_reducible apply a_ixD); walk_at "at"; walk_at "ok")
  | ((with_reducible apply a_ixB); walk_at "at"; walk_at "ok"; omega))
local macro_rules | `(tactic| walk_at "alk") => `(tactic| first
  | ((with_reducible apply alk_tup); walk_at "at"; walk_at "at"; walk_at "le")
  | ((with_reducible apply alk_lst); walk_at "at"; walk_at "at"; walk_at "le")
  | ((with_reducible apply use_alkL); walk_at "at"; walk_at "at"; walk_at "le")
  | ((with_reducible apply use_alkT); walk_at "at"; walk_at "at"; walk_at "le"))
open LamX NdefX
/-- a loss of days, told by a closure -/
def spLs (K : PySem.W.Frag) (a : Addr) (B : Bak) (M : Int) (f : Nat → Int) : Sp := fun vs H Q _ => BakAt K H a B ∧ ∃ x : Int, vs = [.int x] ∧ 0 ≤ x ∧ x ≤ M ∧ ∀ H', Same H H' → Q (.int (f x.toNat)) H'
theorem use_ls {K : PySem.W.Frag} {a : Addr} {B : Bak} {M x : Int} {f : Nat → Int} {H : Hp} {Q : VK} {E : XK} (hb : BakAt K H a B) (x0 : 0 ≤ x) (x1 : x ≤ M) (q : ∀ H', Same H H' → Q (.int (f x.toNat)) H') : spLs K a B M f [.int x] H Q E := ⟨hb, x, rfl, x0, x1, q⟩
def splLs (K : PySem.W.Frag) (f : Bak → Nat → Int) : List (Option V) → Sp := fun ws vs H Q E => ∃ (a : Addr) (B : Bak) (x : Int), ws = [some (.ref a)] ∧ vs = [.int x] ∧ BakAt K H a B ∧ 0 ≤ x ∧ ∀ H', Same H H' → Q (.int (f B x.toNat)) H'
theorem okl_next_missed_0 {P : Program} {w : World} {K : PySem.W.Frag} {mg : Str → Option Value} {base : Heap} (T : Tx K mg) : LOk P w K mg base 6 lm_next_missed_0 ["one"] ["bakery"] [] (splLs K Bak.ms) := by
  have G_Bakery_effect_of := ok_Bakery_effect_of (P := P) (w := w) (base := base) T
  have G_Effect_missed := ok_Effect_missed (P := P) (w := w) (base := base) T
  have G_Bakery_start_of := ok_Bakery_start_of (P := P) (w := w) (base := base) T
  refine lok_of ns_next_missed_0 lb_next_missed_0 (fun ws vs H Q E h => ?_) (fun F f A outer s H vs ws Q E hd hr hw h => ?_)
  · obtain ⟨a, B, x, rfl, rfl, hb, x0, k⟩ := h
    rfl
  obtain ⟨a, B, x, rfl, rfl, hb, x0, k⟩ := h
  obtain ⟨_, _, _, _, _⟩ := F
  cases hd
  refine ⟨_, (C8.pe_mt G_Effect_missed hr (by decide) (C8.pe_mt G_Bakery_effect_of hr (by decide) (pv 1) (pa_cons (pv 0) pa_nil)) (pa_cons (C8.pe_mt G_Bakery_start_of hr (by decide) (pv 1) (pa_cons (pv 0) pa_nil)) pa_nil)), ?_⟩
  try dsimp only [cxOf, Cx.nox, Cx.wish, NdefX.ncx]
  repeat rw [st_cons]
  repeat rw [st_none]
  try rw [st_nn]
  obtain ⟨d, rfl⟩ : ∃ d : Nat, x = (d : Nat) := ⟨x.toNat, by omega⟩
  walk_at "go"
  refine ⟨a, B, _, rfl, hb.m.c, fun q H1 s1 ⟨dq, hq1⟩ => ?_⟩
  refine mE hq1 (mlk_missed _) ?_
  walk_at "go"
  refine ⟨a, B, d, rfl, (hb.mono s1).m, fun H2 s2 => ?_⟩
  walk_at "go"
  refine use_mis (s2 _ _ hq1) ?_
  exact k H2 (sameT s1 s2)
theorem okl_next_thrown_0 {P : Program} {w : World} {K : PySem.W.Frag} {mg : Str → Option Value} {base : Heap} (T : Tx K mg) : LOk P w K mg base 6 lm_next_thrown_0 ["one"] ["bakery"] [] (splLs K Bak.th) := by
  have G_Bakery_effect_of := ok_Bakery_effect_of (P := P) (w := w) (base := base) T
  have G_Effect_thrown := ok_Effect_thrown (P := P) (w := w) (base := base) T
  have G_Bakery_start_of := ok_Bakery_start_of (P := P) (w := w) (base := base) T
  refine lok_of ns_next_thrown_0 lb_next_thrown_0 (fun ws vs H Q E h => ?_) (fun F f A outer s H vs ws Q E hd hr hw h => ?_)
  · obtain ⟨a, B, x, rfl, rfl, hb, x0, k⟩ := h
    rfl
  obtain ⟨a, B, x, rfl, rfl, hb, x0, k⟩ := h
  obtain ⟨_, _, _, _, _⟩ := F
  cases hd
  refine ⟨_, (C8.pe_mt G_Effect_thrown hr (by decide) (C8.pe_mt G_Bakery_effect_of hr (by decide) (pv 1) (pa_cons (pv 0) pa_nil)) (pa_cons (C8.pe_mt G_Bakery_start_of hr (by decide) (pv 1) (pa_cons (pv 0) pa_nil)) pa_nil)), ?_⟩
  try dsimp only [cxOf, Cx.nox, Cx.wish, NdefX.ncx]
  repeat rw [st_cons]
  repeat rw [st_none]
  try rw [st_nn]
  obtain ⟨d, rfl⟩ : ∃ d : Nat, x = (d : Nat) := ⟨x.toNat, by omega⟩
  walk_at "go"
  refine ⟨a, B, _, rfl, hb.m.c, fun q H1 s1 ⟨dq, hq1⟩ => ?_⟩
  refine mE hq1 (mlk_thrown _) ?_
  walk_at "go"
  refine ⟨a, B, d, rfl, (hb.mono s1).m, fun H2 s2 => ?_⟩
  walk_at "go"
  refine use_thr (s2 _ _ hq1) ?_
  exact k H2 (sameT s1 s2)
abbrev lamLevP : Nat := 6
def spFw (P : Program) (w : World) (K : PySem.W.Frag) (mg : Str → Option Value) (base : Heap) : SpS := fun s vs H Q _ => ∃ (a c : Addr) (B : Bak) (f : Nat → Int) (d : Nat), vs = [.ref a, .int (d : Nat), .ref c] ∧ BakAt K H a B ∧ (∀ D, Settled B D → Los B.n D f) ∧ d ≤ 1000000000000000000 ∧
  Clo P w K mg base lamLevP c (spLs K a B 3000000000000000000 f) s H ∧ (∀ (m : Nat) H', Same H H' → Fst f d m → Q (.int (m : Nat)) H') ∧ ∀ H', Same H H' → (∀ e, d ≤ e → f e = 0) → Q .non H'
theorem ok_first_with_s {P : Program} {w : World} {K : PySem.W.Frag} {mg : Str → Option Value} {base : Heap} (T : Tx K mg) : CalS P w K mg base CX0 7 "first_with" (spFw P w K mg base) := by
  have G_Bakery_settled_day := ok_Bakery_settled_day (P := P) (w := w) (base := base) T
  refine cals_of (d := d_first_with) (x := "first_with") (fn_first_with T) rfl rfl (fg_first_with T) sc_first_with (fun _ _ _ _ _ _ us hl => match us, hl with | [_, _, _], _ => rfl) (fun s vs H Q E h => ?_) (fun cdv A outer s H vs Q E hr h => ?_)
  · obtain ⟨a, c, B, f, d, rfl, hb, hL, hd, hc, k1, k2⟩ := h
    rfl
  obtain ⟨a, c, B, f, d, rfl, hb, hL, hd, hc, k1, k2⟩ := h
  refine ⟨_, (pss_cons (ps_par (i := 3) (j := 4) (by rfl) sc_first_with.nd rfl rfl (by decide) rfl rfl (pa_cons (pe_lst pa_nil) (pa_cons (pe_op op_add (pe_callB (cq_max2 rfl) (by rfl) (fn_max T) bb_max (pa_cons (pv 1) (pa_cons (pe_pr G_Bakery_settled_day hr (by decide) (pv 0)) pa_nil))) (pe_fld (pv 0) rfl)) pa_nil)) (by rfl))
      (pss_cons (ps_for (passes_of rfl) rfl (pi_range2 (by rfl) (fn_range T) (pa_cons (pv 1) (pa_cons (pe_op op_add (pv 1) (pe_fld (pv 0) rfl)) pa_nil))) (pg_name (i := 5) sc_first_with.nd rfl (Or.inl rfl)) (pss_cons (ps_set (i := 6) sc_first_with.nd rfl (Or.inl rfl) (pe_op op_add (pe_op op_fdiv (pe_op op_sub (pv 4) (pv 5)) (pe_fld (pv 0) rfl)) pe_int))
      (pss_one (ps_if (pt_cmpR op_neI (pe_cloA (k := lamLevP) (i := 2) hr (by decide) rfl (by rfl) (.inl rfl) (pa_cons (pv 5) pa_nil)) pe_int (nomark _)) (pss_one (ps_expr (pe_bm PySem.F.plainAttrs_list PySem.F.slot_list_append PySem.F.type_list_append mt_append (pv 3) (pa_cons (pv 5) pa_nil)))) (pss_one (ps_if (pt_cmpR op_neI (pe_cloA (k := lamLevP) (i := 2) hr (by decide) rfl (by rfl) (.inl rfl) (pa_cons (pe_op op_add (pv 5) (pe_op op_mul (pv 6) (pe_fld (pv 0) rfl))) pa_nil)) pe_int (nomark _)) (pss_cons (ps_par (i := 7) (j := 8) (by rfl) sc_first_with.nd rfl rfl (by decide) rfl rfl (pa_cons pe_int (pa_cons (pv 6) pa_nil)) (by rfl))
          (pss_cons (ps_while (passes_of rfl) (pt_cmpR op_lt (pv 7) (pv 8) (nomark _)) (pss_cons (ps_set (i := 9) sc_first_with.nd rfl (Or.inl rfl) (pe_op op_fdiv (pe_op op_add (pv 7) (pv 8)) pe_int))
            (pss_one (ps_if (pt_cmpR op_neI (pe_cloA (k := lamLevP) (i := 2) hr (by decide) rfl (by rfl) (.inl rfl) (pa_cons (pe_op op_add (pv 5) (pe_op op_mul (pv 9) (pe_fld (pv 0) rfl))) pa_nil)) pe_int (nomark _)) (pss_one (ps_set (i := 8) sc_first_with.nd rfl (Or.inl rfl) (pv 9))) (pss_one (ps_set (i := 7) sc_first_with.nd rfl (Or.inl rfl) (pe_op op_add (pv 9) pe_int)))))))
          (pss_one (ps_expr (pe_bm PySem.F.plainAttrs_list PySem.F.slot_list_append PySem.F.type_list_append mt_append (pv 3) (pa_cons (pe_op op_add (pv 5) (pe_op op_mul (pv 7) (pe_fld (pv 0) rfl))) pa_nil)))))) pss_nil))))))
      (pss_one (ps_ret (pe_ifExp (pt_cmpR (op_neD hr.units) (pv 3) (pe_lst pa_nil) (nomark _)) (pe_callB (cr_min rfl) (by rfl) (fn_min T) bb_min (pa_cons (pv 3) pa_nil)) pe_non))))), ?_⟩
  try dsimp only [cxOf, Cx.nox, Cx.wish, NdefX.ncx]
  repeat rw [st_cons]
  repeat rw [st_none]
  try rw [st_nn]
  obtain ⟨ok, dx, tb, tw, te, tr, tp, ts, ps, hB, hB2⟩ := id hb
  have n0 := ok.n0
  have n1 := ok.n1
  walk_at "go"
  rename_i fl H1 s1 nf ef D hD Dl
  have hB1 := s1 _ _ hB
  have L := hL D hD
  refine r_fldR hB1 (fc_Bakery T) (fna_Bakery_size T) rfl ?_
  walk_at "go"
  refine r_fldR hB1 (fc_Bakery T) (fna_Bakery_size T) rfl ?_
  walk_at "go"
  have en : (((d : Nat) : Int) + ((B.n : Nat) : Int) - ((d : Nat) : Int)).toNat = B.n := by omega
  rw [en]
  refine fR_range (fun j σ H' => ∃ (ns : List Nat) (x5 x6 x7 x8 x9 : Option V), σ = [some (.ref a), some (.int (d : Nat)), some (.ref c), some (.ref fl), some (.int (max ((d : Nat) : Int) ((D : Nat) : Int) + ((B.n : Nat) : Int))), x5, x6, x7, x8, x9] ∧ Same H H' ∧ H' fl = some (.lst ((ns.map fun z => ((z : Nat) : Int)).map V.int)) ∧ Fnd B.n f d j ns ∧ ns.length ≤ j)
    ⟨[], none, none, none, none, none, rfl, s1, ef, fnd_0, Nat.le_refl _⟩ ?_ ?_
  · clear s1 ef hB1
    rintro j σ H2 hj ⟨ns, x5, x6, x7, x8, x9, rfl, s2, hF, fnd, nl⟩
    have hB2 := s2 _ _ hB
    walk_at "go"
    refine r_fldR hB2 (fc_Bakery T) (fna_Bakery_size T) rfl ?_
    walk_at "go"
    obtain ⟨t, ht⟩ : ∃ t : Nat, (max ((d : Nat) : Int) ((D : Nat) : Int) + ((B.n : Nat) : Int) - (((d : Nat) : Int) + ((j : Nat) : Int))) / ((B.n : Nat) : Int) + 1 = (t : Nat) := ⟨((max ((d : Nat) : Int) ((D : Nat) : Int) + ((B.n : Nat) : Int) - (((d : Nat) : Int) + ((j : Nat) : Int))) / ((B.n : Nat) : Int) + 1).toNat, by
      have : 0 ≤ (max ((d : Nat) : Int) ((D : Nat) : Int) + ((B.n : Nat) : Int) - (((d : Nat) : Int) + ((j : Nat) : Int))) / ((B.n : Nat) : Int) := Int.ediv_nonneg (by omega) (by omega)
      omega⟩
    have far : D ≤ d + j + t * B.n ∧ ((d + j + t * B.n : Nat) : Int) ≤ 2000000000000000000 := by
      have e1 := Int.lt_ediv_add_one_mul_self (max ((d : Nat) : Int) ((D : Nat) : Int) + ((B.n : Nat) : Int) - (((d : Nat) : Int) + ((j : Nat) : Int))) (show (0 : Int) < ((B.n : Nat) : Int) by omega)
      have e2 := Int.ediv_mul_le (max ((d : Nat) : Int) ((D : Nat) : Int) + ((B.n : Nat) : Int) - (((d : Nat) : Int) + ((j : Nat) : Int))) (show ((B.n : Nat) : Int) ≠ 0 by omega)
      rw [ht] at e1
      have e3 : ((t : Nat) : Int) * ((B.n : Nat) : Int) = (max ((d : Nat) : Int) ((D : Nat) : Int) + ((B.n : Nat) : Int) - (((d : Nat) : Int) + ((j : Nat) : Int))) / ((B.n : Nat) : Int) * ((B.n : Nat) : Int) + ((B.n : Nat) : Int) := by
        rw [← ht, Int.add_mul, Int.one_mul]
      have e4 : ((d + j + t * B.n : Nat) : Int) = (d : Int) + (j : Int) + (t : Int) * (B.n : Int) := by push_cast; rfl
      omega
    rw [ht]
    have cj : ((d : Nat) : Int) + ((j : Nat) : Int) = ((d + j : Nat) : Int) := rfl
    rw [cj]
    have nb : ∀ z : Nat, z ≤ t → d + j + z * B.n ≤ d + j + t * B.n := fun z hz => Nat.add_le_add_left (Nat.mul_le_mul_right _ hz) _
    have cm : ∀ z : Nat, ((d + j : Nat) : Int) + ((z : Nat) : Int) * ((B.n : Nat) : Int) = ((d + j + z * B.n : Nat) : Int) := fun z => by push_cast; rfl
    refine r_cloA rfl hc ?_
    walk_at "go"
    refine r_cloR hc (.of s2) (use_ls (hb.mono s2) (by omega) (by omega) fun H3 s3 => ?_)
    walk_at "go"
    rw [Int.toNat_natCast]
    have hB3 := s3 _ _ hB2
    have hF3 := s3 _ _ hF
    refine i2n (fun c1 => ?_) (fun c1 => ?_)
    · walk_at "go"
      refine r_append hF3 (by simp; omega) ?_
      refine ⟨ns ++ [d + j + 0 * B.n], _, _, _, _, _, rfl, same_mut (sameT s2 s3) nf, ?_, fnd.add L.n0 (by rw [Nat.zero_mul, Nat.add_zero]; exact c1) (fun q h => absurd h (Nat.not_lt_zero _)), by simp; omega⟩
      rw [upd_same]
      simp
    · walk_at "go"
      refine r_cloA rfl hc ?_
      walk_at "go"
      refine r_fldR hB3 (fc_Bakery T) (fna_Bakery_size T) rfl ?_
      walk_at "rd"
      refine r_I (.inr (by omega)) ?_
      walk_at "rd"
      rw [cm]
      refine r_cloR hc (.of (sameT s2 s3)) (use_ls (hb.mono (sameT s2 s3)) (by omega) (by omega) fun H4 s4 => ?_)
      walk_at "go"
      rw [Int.toNat_natCast]
      have hB4 := s4 _ _ hB3
      have hF4 := s4 _ _ hF3
      have s04 := sameT s2 (sameT s3 s4)
      refine i2n (fun c2 => ?_) (fun c2 => ?_)
      · have gr := L.grows c1 c2
        walk_at "go"
        refine ⟨fun m σ H5 => ∃ (lo hi : Nat) (z9 : Option V), σ = [some (.ref a), some (.int (d : Nat)), some (.ref c), some (.ref fl), some (.int (max ((d : Nat) : Int) ((D : Nat) : Int) + ((B.n : Nat) : Int))), some (.int ((d + j : Nat) : Int)), some (.int (t : Nat)), some (.int (lo : Nat)), some (.int (hi : Nat)), z9] ∧ m = hi - lo ∧ Same H4 H5 ∧ Hlv B.n f (d + j) t lo hi, ⟨_, 0, t, _, rfl, rfl, sameR, hlv_0 c2⟩, ?_⟩
        rintro m σ H5 ⟨lo, hi, z9, rfl, rfl, s5, hv⟩
        have v1 := hv.1
        have v2 := hv.2.1
        walk_at "go"
        refine i2 (fun c3 => ?_) (fun c3 => ?_)
        · refine r_turn ?_
          walk_at "go"
          obtain ⟨mi, hmi⟩ : ∃ mi : Nat, (((lo : Nat) : Int) + ((hi : Nat) : Int)) / 2 = (mi : Nat) := ⟨(((lo : Nat) : Int) + ((hi : Nat) : Int)) / 2 |>.toNat, by omega⟩
          rw [hmi]
          refine r_cloA rfl hc ?_
          walk_at "go"
          refine r_fldR (s5 _ _ hB4) (fc_Bakery T) (fna_Bakery_size T) rfl ?_
          walk_at "rd"
          refine r_I (.inr (by omega)) ?_
          walk_at "rd"
          rw [cm]
          have nm := nb mi (by omega)
          refine r_cloR hc (.of (sameT s04 s5)) (use_ls (hb.mono (sameT s04 s5)) (by omega) (by omega) fun H6 s6 => ?_)
          walk_at "go"
          rw [Int.toNat_natCast]
          refine i2n (fun c4 => ?_) (fun c4 => ?_)
          · walk_at "go"
            exact ⟨_, (by omega : mi - lo < hi - lo), lo, mi, _, rfl, rfl, sameT s5 s6, hv.down (by omega) (by omega) c4⟩
          · walk_at "go"
            exact ⟨_, (by omega : hi - (mi + 1) < hi - lo), mi + 1, hi, _, rfl, rfl, sameT s5 s6, hv.up gr (by omega) (by omega) c4⟩
        · have e : lo = hi := by omega
          subst e
          walk_at "go"
          refine r_fldR (s5 _ _ hB4) (fc_Bakery T) (fna_Bakery_size T) rfl ?_
          walk_at "rd"
          refine r_I (.inr (by omega)) ?_
          walk_at "rd"
          rw [cm]
          refine r_append (s5 _ _ hF4) (by simp; omega) ?_
          refine ⟨ns ++ [d + j + lo * B.n], _, _, _, _, _, rfl, same_mut (sameT s04 s5) nf, ?_, fnd.add L.n0 hv.2.2.1 hv.2.2.2, by simp; omega⟩
          rw [upd_same]
          simp
      · walk_at "go"
        exact ⟨ns, _, _, _, _, _, rfl, s04, hF4, fnd.skip L.n0 fun k => L.never far.1 c1 c2 k, by omega⟩
  · rintro σ H2 ⟨ns, x5, x6, x7, x8, x9, rfl, s2, hF, fnd, nl⟩
    cases ns with
    | nil =>
      have hF0 : H2 fl = some (.lst []) := hF
      walk_at "go"
      exact k2 _ (by walk_at "sames") (fnd.none L.n0)
    | cons z zs =>
      walk_at "go"
      rename_i p0 H3 s3 n3 e3
      refine a_neLI (ns := (z :: zs).map fun z => ((z : Nat) : Int)) (ms := []) (sqL_at (s3 _ _ hF)) (sqL_at e3) ?_
      refine ⟨_, rfl, iY' (fun z => nomatch z) ?_⟩
      walk_at "go"
      refine ⟨fl, (z :: zs).map fun z => ((z : Nat) : Int), rfl, sqL_at (s3 _ _ hF), by simp, fun m hm hl => ?_⟩
      obtain ⟨y, hy, rfl⟩ := List.mem_map.mp hm
      exact k1 y H3 (sameT s2 s3) (fnd.least L.n0 hy fun x hx => by
        have := hl _ (List.mem_map.mpr ⟨x, hx, rfl⟩)
        omega)
theorem use_fw {P : Program} {w : World} {K : PySem.W.Frag} {mg : Str → Option Value} {base : Heap} {s : Shared} {H : Hp} {Q : VK} {E : XK} {a c : Addr} {B : Bak} {f : Nat → Int} {d : Nat} (hb : BakAt K H a B) (hL : ∀ D, Settled B D → Los B.n D f) (hd : d ≤ 1000000000000000000) (hc : Clo P w K mg base lamLevP c (spLs K a B 3000000000000000000 f) s H)
    (k1 : ∀ (m : Nat) H', Same H H' → Fst f d m → Q (.int (m : Nat)) H') (k2 : ∀ H', Same H H' → (∀ e, d ≤ e → f e = 0) → Q .non H') : spFw P w K mg base s [.ref a, .int (d : Nat), .ref c] H Q E := ⟨a, c, B, f, d, rfl, hb, hL, hd, hc, k1, k2⟩
theorem bakAt_n {K : PySem.W.Frag} {H H' : Hp} {a : Addr} {B : Bak} (s : ExtN H H') (b : BakAt K H a B) : BakAt K H' a B := by
  obtain ⟨ok, dx, tb, tw, te, tr, tp, ts, ps, hB, hb, hw, he, hp, hl, hps, q, D, R, h1, h2, h3⟩ := b
  refine ⟨ok, dx, tb, tw, te, tr, tp, ts, ps, atn_ins s hB, sqTn s hb, sqTn s hw, atn_lst s he, atn_lst s hp, hl, fun k v e => ?_, q, D, R, atn_tup s h1, atn_tup s h2, h3⟩
  obtain ⟨p, g, z, ⟨dg, q⟩, i⟩ := hps k v e
  exact ⟨p, g, z, ⟨dg, atn_ins s q⟩, i⟩
/-- the first day with a loss -/
def spNx (K : PySem.W.Frag) (f : Bak → Nat → Int) : Sp := fun vs H Q _ => ∃ (a : Addr) (B : Bak) (d : Nat), vs = [.ref a, .int (d : Nat)] ∧ BakAt K H a B ∧ d ≤ 1000000000000000000 ∧ TabsF (TL K) H ∧ (∀ (m : Nat) H', ExtN H H' → TabsF (TL K) H' → Fst (f B) d m → Q (.int (m : Nat)) H') ∧ ∀ H', ExtN H H' → TabsF (TL K) H' → (∀ e, d ≤ e → f B e = 0) → Q .non H'
theorem ok_next_missed {P : Program} {w : World} {K : PySem.W.Frag} {mg : Str → Option Value} {base : Heap} (TB : TxB K mg base) : C8.Cal P w K mg base 8 "next_missed" (spNx K Bak.ms) [] := by
  have T := TB.t
  have G_validate_number := ok_validate_number (P := P) (w := w) (base := base) T
  have G_first_with_s := ok_first_with_s (P := P) (w := w) (base := base) T
  refine calC_of (d := d_next_missed) (x := "next_missed") (fn_next_missed T) rfl rfl (fg_next_missed T) sc_next_missed (fun _ _ _ _ _ _ us hl => match us, hl with | [_, _], _ => rfl) (fun vs H Q E h => ?_) (fun A outer s H vs Q E hr h => ?_)
  · obtain ⟨a, B, d, rfl, hb, hd, hT, k1, k2⟩ := h
    rfl
  obtain ⟨a, B, d, rfl, hb, hd, hT, k1, k2⟩ := h
  refine ⟨_, (pss_cons (ps_expr (C8.pe_c G_validate_number hr (by decide) (by rfl) (pa_cons (pv 1) (pa_cons pe_int (pa_cons (C8.pe_gc rfl (gc_int (fi_MAX_DAY T))) pa_nil)))))
      (pss_one (ps_ret (pe_cS (E := fun _ => E0) G_first_with_s hr (by decide) (by rfl) (fun _ _ _ _ I => inv_cellsK I) (fun _ _ _ _ _ _ _ h => h.elim) (pa_cons (pv 0) (pa_cons (pv 1) (pa_cons (pe_lm (d := lm_next_missed_0) (T := TL K) (tb_next_missed TB) (by rfl) tm_next_missed (tu_next_missed TB) (lm_free cap_next_missed_0) (by rfl) (by rfl)) pa_nil))))))), ?_⟩
  try dsimp only [cxOf, Cx.nox, Cx.wish]
  repeat rw [st_cons]
  repeat rw [st_none]
  try rw [st_nn]
  walk_at "go"
  refine r_cS ?_
  walk_at "rd"
  refine r_lm hT fun f0 F0 H1 x1 hT1 nf0 lam0 d0 o0 => ?_
  walk_at "rd"
  intro sq kc
  have hb1 := bakAt_n x1 hb
  have c0 := clo_at_cells (P := P) (w := w) (base := base) (okl_next_missed_0 T) (Nat.le_refl _) lam0 d0 o0 cap_next_missed_0 kc
  refine use_fw hb1 (fun D hD => los_ms hb.1 hD) hd ((c0.mono (by decide)).imp fun vs H2 Q2 E2 z => ?_) (fun m H2 s2 fs => k1 m H2 (extN_t x1 (extN_s s2)) (tabsF_s s2 hT1) fs) (fun H2 s2 z => k2 H2 (extN_t x1 (extN_s s2)) (tabsF_s s2 hT1) z)
  obtain ⟨hb2, x, rfl, x0, x2, k⟩ := z
  exact ⟨a, B, x, rfl, rfl, hb2, x0, k⟩
theorem ok_next_thrown {P : Program} {w : World} {K : PySem.W.Frag} {mg : Str → Option Value} {base : Heap} (TB : TxB K mg base) : C8.Cal P w K mg base 8 "next_thrown" (spNx K Bak.th) [] := by
  have T := TB.t
  have G_validate_number := ok_validate_number (P := P) (w := w) (base := base) T
  have G_first_with_s := ok_first_with_s (P := P) (w := w) (base := base) T
  refine calC_of (d := d_next_thrown) (x := "next_thrown") (fn_next_thrown T) rfl rfl (fg_next_thrown T) sc_next_thrown (fun _ _ _ _ _ _ us hl => match us, hl with | [_, _], _ => rfl) (fun vs H Q E h => ?_) (fun A outer s H vs Q E hr h => ?_)
  · obtain ⟨a, B, d, rfl, hb, hd, hT, k1, k2⟩ := h
    rfl
  obtain ⟨a, B, d, rfl, hb, hd, hT, k1, k2⟩ := h
  refine ⟨_, (pss_cons (ps_expr (C8.pe_c G_validate_number hr (by decide) (by rfl) (pa_cons (pv 1) (pa_cons pe_int (pa_cons (C8.pe_gc rfl (gc_int (fi_MAX_DAY T))) pa_nil)))))
      (pss_one (ps_ret (pe_cS (E := fun _ => E0) G_first_with_s hr (by decide) (by rfl) (fun _ _ _ _ I => inv_cellsK I) (fun _ _ _ _ _ _ _ h => h.elim) (pa_cons (pv 0) (pa_cons (pv 1) (pa_cons (pe_lm (d := lm_next_thrown_0) (T := TL K) (tb_next_thrown TB) (by rfl) tm_next_thrown (tu_next_thrown TB) (lm_free cap_next_thrown_0) (by rfl) (by rfl)) pa_nil))))))), ?_⟩
  try dsimp only [cxOf, Cx.nox, Cx.wish]
  repeat rw [st_cons]
  repeat rw [st_none]
  try rw [st_nn]
  walk_at "go"
  refine r_cS ?_
  walk_at "rd"
  refine r_lm hT fun f0 F0 H1 x1 hT1 nf0 lam0 d0 o0 => ?_
  walk_at "rd"
  intro sq kc
  have hb1 := bakAt_n x1 hb
  have c0 := clo_at_cells (P := P) (w := w) (base := base) (okl_next_thrown_0 T) (Nat.le_refl _) lam0 d0 o0 cap_next_thrown_0 kc
  refine use_fw hb1 (fun D hD => los_th hb.1 hD) hd ((c0.mono (by decide)).imp fun vs H2 Q2 E2 z => ?_) (fun m H2 s2 fs => k1 m H2 (extN_t x1 (extN_s s2)) (tabsF_s s2 hT1) fs) (fun H2 s2 z => k2 H2 (extN_t x1 (extN_s s2)) (tabsF_s s2 hT1) z)
  obtain ⟨hb2, x, rfl, x0, x2, k⟩ := z
  exact ⟨a, B, x, rfl, rfl, hb2, x0, k⟩
theorem use_nx {K : PySem.W.Frag} {f : Bak → Nat → Int} {H : Hp} {Q : VK} {E : XK} {a : Addr} {B : Bak} {x : Int} (hb : BakAt K H a B) (x0 : 0 ≤ x) (x1 : x ≤ 1000000000000000000) (hT : TabsF (TL K) H) (k1 : ∀ (m : Nat) H', ExtN H H' → TabsF (TL K) H' → Fst (f B) x.toNat m → Q (.int (m : Nat)) H') (k2 : ∀ H', ExtN H H' → TabsF (TL K) H' → (∀ e, x.toNat ≤ e → f B e = 0) → Q .non H') : spNx K f [.ref a, .int x] H Q E := ⟨a, B, x.toNat, by rw [← nat_of x0], hb, by omega, hT, k1, k2⟩

end G57
end
section
set_option maxRecDepth 100000
set_option maxHeartbeats 4000000
namespace G57
open PySem PySem.Spec PyProof.Rows L2
/-! the walk's small steps: "rd" reads on as far as it can -/
local macro_rules | `(tactic| walk_at "fact") => `(tactic| fail)
local macro_rules | `(tactic| walk_at "rd1") => `(tactic| with_reducible first
  | (refine v_id ?_; first | refine r_var_0 ?_ | refine r_var_1 ?_ | refine r_var_2 ?_ | refine r_var_3 ?_ | refine r_var_4 ?_ | refine r_var_5 ?_ | refine r_var_6 ?_ | refine r_var_7 ?_ | refine r_var_8 ?_ | refine r_var_9 ?_ | refine r_var_10 ?_ | refine r_var_11 ?_ | refine r_var_12 ?_ | refine r_var_13 ?_ | refine r_var_14 ?_ | refine r_var_15 ?_ | refine r_var_16 ?_ | refine r_var_17 ?_ | refine r_var_18 ?_ | refine r_var_19 ?_ | refine r_var_20 ?_ | refine r_var_21 ?_ | refine r_var_22 ?_ | refine r_var_23 ?_ | refine r_var_24 ?_ | refine r_var_25 ?_ | refine r_var_26 ?_ | refine r_var_27 ?_ | refine r_var rfl ?_)
  | (refine s_id ?_; first | refine r_set_0 ?_ | refine r_set_1 ?_ | refine r_set_2 ?_ | refine r_set_3 ?_ | refine r_set_4 ?_ | refine r_set_5 ?_ | refine r_set_6 ?_ | refine r_set_7 ?_ | refine r_set_8 ?_ | refine r_set_9 ?_ | refine r_set_10 ?_ | refine r_set_11 ?_ | refine r_set_12 ?_ | refine r_set_13 ?_ | refine r_set_14 ?_ | refine r_set_15 ?_ | refine r_set_16 ?_ | refine r_set_17 ?_ | refine r_set_18 ?_ | refine r_set_19 ?_ | refine r_set_20 ?_ | refine r_set_21 ?_ | refine r_set_22 ?_ | refine r_set_23 ?_ | refine r_set_24 ?_ | refine r_set_25 ?_ | refine r_set_26 ?_ | refine r_set_27 ?_ | refine r_setU ?_)
  | refine r_c ?_
  | refine r_op ?_
  | refine r_I0 ?_
  | refine r_seq ?_
  | refine r_asg ?_
  | refine r_fld ?_
  | refine r_nil ?_
  | refine r_cons ?_
  | refine r_cb ?_
  | refine r_max ?_
  | refine r_min ?_
  | refine r_ret ?_
  | refine r_met ?_
  | refine r_call ?_
  | refine r_B ?_
  | refine r_test ?_
  | refine r_b' ?_
  | refine r_ifS ?_
  | refine r_if ?_
  | refine r_par ?_
  | refine r_par2 ?_
  | refine r_drop ?_
  | refine r_next ?_
  | refine r_make ?_
  | refine r_sfld ?_
  | refine r_int1 ?_
  | refine r_intb ?_
  | refine r_and ?_
  | refine r_or ?_
  | refine r_not ?_
  | refine r_chain ?_
  | refine r_isN ?_
  | refine r_notN ?_
  | refine r_un ?_
  | refine r_U ?_
  | refine r_par3 ?_
  | refine r_par33 ?_
  | refine r_tup ?_
  | refine r_lst ?_
  | refine r_prop ?_
  | refine r_bm ?_
  | refine r_bm0 ?_
  | refine r_andV ?_
  | refine r_orV ?_
  | refine r_notV ?_
  | refine r_asgG ?_
  | refine r_gname ?_
  | refine r_gcons ?_
  | refine r_gnil ?_
  | refine r_rng1 ?_
  | refine r_rng2 ?_
  | refine r_for ?_
  | refine r_lc1 ?_
  | refine r_lc2 ?_
  | refine r_lc3 ?_
  | refine r_lc ?_
  | refine r_while ?_
  | refine r_rev ?_
  | refine r_sl ?_
  | refine r_augS ?_
  | refine r_iL ?_
  | refine r_iT ?_
  | refine r_iE ?_
  | refine r_ipI ?_
  | refine r_aug rfl ?_
  | refine r_cval ?_
  | refine r_turnN ?_
  | refine iT ?_
  | refine iNT ?_
  | refine iNF ?_
  | refine iOF ?_
  | refine iF ?_
  | refine r_part ?_
  | refine r_pi ?_
  | refine r_gsub ?_
  | refine r_noPart ?_)
local macro_rules | `(tactic| walk_at "rd") => `(tactic| (repeat (first | walk_at "rd1" | walk_at "fact")))
local macro_rules | `(tactic| walk_at "plen") => `(tactic| (repeat (first | decide | refine putF_lt ?_)))
local macro_rules | `(tactic| walk_at "rs") => `(tactic| (repeat ((fail_if_success (with_reducible refine r_stop ?_)); (first | walk_at "rd1" | walk_at "fact"))))
/-! finding a fact in the present heap by the way back; each rule is applied by its conclusion before its premises are sought -/
local macro_rules | `(tactic| walk_at "atx") => `(tactic| fail)
local macro_rules | `(tactic| walk_at "c_h") => `(tactic| first
  | with_reducible assumption
  | ((with_reducible apply hat_s); (with_reducible assumption); walk_at "c_h"))
local macro_rules | `(tactic| walk_at "c_n") => `(tactic| first
  | with_reducible assumption
  | ((with_reducible apply hat_ne); (with_reducible assumption); walk_at "c_h"))
local macro_rules | `(tactic| walk_at "c_o") => `(tactic| first
  | with_reducible assumption
  | with_reducible exact upd_same
  | ((with_reducible apply at_s); (with_reducible assumption); walk_at "c_o")
  | ((with_reducible apply atd_tup); (with_reducible assumption); walk_at "c_h"; walk_at "c_o")
  | ((with_reducible apply atd_ins); (with_reducible assumption); walk_at "c_h"; walk_at "c_o")
  | ((with_reducible apply atd_lst); (with_reducible assumption); walk_at "c_n"; walk_at "c_o")
  | ((with_reducible apply atx_tup); (with_reducible assumption); walk_at "c_o"; walk_at "c_o")
  | ((with_reducible apply atx_ins); (with_reducible assumption); walk_at "c_o"; walk_at "c_o")
  | ((with_reducible apply atx_ne); (with_reducible assumption); (with_reducible assumption); walk_at "c_o"))
local macro_rules | `(tactic| walk_at "c_q") => `(tactic| first
  | with_reducible assumption
  | ((with_reducible apply sqL_s); (with_reducible assumption); walk_at "c_q"))
local macro_rules | `(tactic| walk_at "c_t") => `(tactic| first
  | with_reducible assumption
  | ((with_reducible apply sqT_s); (with_reducible assumption); walk_at "c_t")
  | ((with_reducible apply sqT_d); (with_reducible assumption); walk_at "c_h"; walk_at "c_t")
  | ((with_reducible apply sqT_x); (with_reducible assumption); walk_at "c_o"; walk_at "c_t"))
local macro_rules | `(tactic| walk_at "c_p") => `(tactic| first
  | with_reducible assumption
  | ((with_reducible apply pairs_s); (with_reducible assumption); walk_at "c_p"))
local macro_rules | `(tactic| walk_at "at") => `(tactic| first
  | with_reducible assumption
  | with_reducible exact upd_same
  | walk_at "atx"
  | ((with_reducible apply sqL_at); walk_at "c_o")
  | ((with_reducible apply sqL_s); (with_reducible assumption); walk_at "c_q")
  | ((with_reducible apply sqT_at); walk_at "c_o")
  | ((with_reducible apply sqT_id); walk_at "c_t")
  | ((with_reducible apply hat_id); walk_at "c_h")
  | ((with_reducible apply pairs_id); walk_at "c_p")
  | ((with_reducible apply ne_id); walk_at "c_n")
  | ((with_reducible apply at_id); walk_at "c_o"))
/-! a length, an inequality -/
local macro_rules | `(tactic| walk_at "le") => `(tactic| first | exact Nat.le_of_ble_eq_true rfl | omega | (simp; done) | (simp; omega))
local macro_rules | `(tactic| walk_at "ar") => `(tactic| first | omega | exact ⟨by omega, by omega⟩ | exact .inl ⟨by omega, by omega⟩ | exact .inr ⟨by omega, by omega⟩ | exact .inr (by omega) | exact .inl (by omega) | exact ⟨by omega, by omega, by omega⟩ | decide)
/-! calls of the text's own defs, with letters for what they leave -/
local macro_rules | `(tactic| walk_at "use") => `(tactic| fail)
local macro_rules | `(tactic| walk_at "go1") => `(tactic| first
  | walk_at "rd1"
  | walk_at "fact"
  | walk_at "use"
  | with_reducible refine r_p6 ?_
  | with_reducible refine r_p8 ?_
  | with_reducible refine r_p9 ?_
  | with_reducible refine r_p10 ?_
  | with_reducible refine r_p12 ?_
  | with_reducible refine r_p14 ?_
  | with_reducible refine r_p15 ?_
  | with_reducible refine r_p17 ?_
  | with_reducible refine r_p18 ?_
  | ((with_reducible apply r_I); walk_at "ar")
  | ((with_reducible apply a_neNil); walk_at "at"; intro _ _)
  | ((with_reducible apply a_eqNil); walk_at "at"; intro _ _)
  | ((with_reducible apply a_nwT); walk_at "le"; intro _ _ _ _ _)
  | ((with_reducible apply a_nwL); walk_at "le"; intro _ _ _ _ _)
  | ((with_reducible apply r_ixL (j := 0)); walk_at "at"; rfl; rfl)
  | ((with_reducible apply r_ixL (j := 1)); walk_at "at"; rfl; rfl)
  | ((with_reducible apply r_ixL (j := 2)); walk_at "at"; rfl; rfl)
  | ((with_reducible apply r_ixL (j := 3)); walk_at "at"; rfl; rfl)
  | ((with_reducible apply r_ixT (j := 0)); walk_at "at"; rfl; rfl)
  | ((with_reducible apply r_ixT (j := 1)); walk_at "at"; rfl; rfl)
  | ((with_reducible apply r_ixT (j := 2)); walk_at "at"; rfl; rfl)
  | ((with_reducible apply a_pick2); walk_at "at"; omega; omega; intro _ _)
  | ((with_reducible apply a_pick3); walk_at "at"; omega; omega; intro _ _)
  | ((with_reducible apply a_pick4); walk_at "at"; omega; omega; intro _ _)
  | ((with_reducible apply r_gtup); walk_at "at"; rfl)
  | ((with_reducible apply a_lenLI); walk_at "at")
  | ((with_reducible apply r_lenL); walk_at "at")
  | ((with_reducible apply r_lenT); walk_at "at")
  | ((with_reducible apply r_tyL); walk_at "at")
  | ((with_reducible apply a_cat); walk_at "at"; walk_at "at"; walk_at "le"; intro _ _ _ _ _)
  | ((with_reducible apply a_listL); walk_at "at"; intro _ _ _ _ _)
  | ((with_reducible apply a_tupL); walk_at "at"; intro _ _ _ _ _)
  | ((with_reducible apply a_slL); walk_at "at"; intro _ _ _ _ _)
  | ((with_reducible apply a_revL); walk_at "at"; intro _ _ _ _ _)
  | ((with_reducible apply r_sumT); walk_at "at")
  | ((with_reducible apply r_sumL); walk_at "at")
  | ((with_reducible refine ⟨_, rfl, ?_, ?_, ?_⟩); omega; omega)
  | ((with_reducible refine ⟨_, _, rfl, ⟨?_, ?_, ?_, ?_⟩, ?_⟩); omega; omega; omega; omega)
  | with_reducible refine ⟨_, rfl, ⟨_, by walk_at "at"⟩, ?_⟩)
local macro_rules | `(tactic| walk_at "go") => `(tactic| (repeat (walk_at "go1")))
local macro_rules | `(tactic| walk_at "sames") => `(tactic| first | exact sameR | assumption | ((with_reducible apply sameB); assumption; walk_at "sames"))
local macro_rules | `(tactic| walk_at "sameds") => `(tactic| first | assumption | ((with_reducible apply sameD_of); walk_at "sames"; done) | ((with_reducible apply sameDB); assumption; walk_at "sameds") | ((with_reducible apply sameDS); assumption; walk_at "sameds"))
local macro_rules | `(tactic| walk_at "gs") => `(tactic| (repeat ((fail_if_success (with_reducible refine r_stop ?_)); (walk_at "go1"))))
local macro_rules | `(tactic| walk_at "c_d") => `(tactic| first
  | with_reducible assumption
  | ((with_reducible apply bakD_s); (with_reducible assumption); walk_at "c_d")
  | ((with_reducible apply bakD_d); (with_reducible assumption); walk_at "c_h"; walk_at "c_d"))
local macro_rules | `(tactic| walk_at "c_b") => `(tactic| first
  | with_reducible assumption
  | ((with_reducible apply bakAt_s); (with_reducible assumption); walk_at "c_b"))
local macro_rules | `(tactic| walk_at "c_a") => `(tactic| first
  | with_reducible assumption
  | ((with_reducible apply bakAt_D); walk_at "c_d")
  | walk_at "c_b")
local macro_rules | `(tactic| walk_at "c_m1") => `(tactic| first
  | with_reducible assumption
  | ((with_reducible apply bakM_s); (with_reducible assumption); walk_at "c_m1"))
local macro_rules | `(tactic| walk_at "c_m") => `(tactic| first
  | with_reducible assumption
  | ((with_reducible apply bakM_at); walk_at "c_a")
  | walk_at "c_m1")
local macro_rules | `(tactic| walk_at "atx") => `(tactic| first
  | ((with_reducible apply bakD_id); walk_at "c_d")
  | ((with_reducible apply bakAt_id); walk_at "c_a")
  | ((with_reducible apply bakM_id); walk_at "c_m")
  | ((with_reducible apply bakC_M); walk_at "c_m"))
local macro_rules | `(tactic| walk_at "ok") => `(tactic| first | assumption | exact BakD.ok (by assumption) | exact BakAt.ok (by assumption))
local macro_rules | `(tactic| walk_at "use") => `(tactic| first
  | ((with_reducible apply mBk); walk_at "at"; decide)
  | ((with_reducible apply pBk); walk_at "at")
  | ((with_reducible apply use_stk); walk_at "at"; omega; omega; intro _ _)
  | ((with_reducible apply use_msd); walk_at "at"; omega; omega; intro _ _)
  | ((with_reducible apply use_thn); walk_at "at"; omega; omega; intro _ _)
  | ((with_reducible apply use_sld); walk_at "at"; omega; omega; intro _ _)
  | ((with_reducible apply use_tot); walk_at "at"; omega; omega; intro _ _ _ _)
  | ((with_reducible apply use_shf); walk_at "at"; omega; omega; intro _ _ _ _ _ _)
  | ((with_reducible apply use_sdy); walk_at "at"; intro _ _ _)
  | ((with_reducible apply use_lrn); walk_at "at"; intro _ _ _ _)
  | ((with_reducible apply use_bks); walk_at "at"; intro _ _)
  | ((with_reducible apply use_dms); walk_at "at"; intro _ _)
  | ((with_reducible apply use_lif); walk_at "at")
  | ((with_reducible apply use_nxt); walk_at "at"; omega; omega; intro _ _ _ _ _ _)
  | ((with_reducible apply use_num); omega; omega)
  | ((with_reducible apply use_liv); walk_at "at"; (exact liv_ok (by walk_at "ok") (by omega) (by omega)); intro _ _ _ _)
  | ((with_reducible apply use_mor); walk_at "at"; assumption; intro _ _ _ _)
  | ((with_reducible apply a_maxB); walk_at "at"; walk_at "ok"; intro _ _ _)
  | ((with_reducible apply a_minB); walk_at "at"; walk_at "ok"; intro _ _ _)
  | with_reducible refine r_cvalR (fcv_Bakery_MAX_LIFE ‹_›) ?_
  | ((with_reducible apply a_lenTB); walk_at "at")
  | ((with_reducible apply a_lenTD); walk_at "at"; walk_at "ok")
  | ((with_reducible apply a_ixD); walk_at "at"; walk_at "ok")
  | ((with_reducible apply a_ixB); walk_at "at"; walk_at "ok"; omega))
local macro_rules | `(tactic| walk_at "alk") => `(tactic| first
  | ((with_reducible apply alk_tup); walk_at "at"; walk_at "at"; walk_at "le")
  | ((with_reducible apply alk_lst); walk_at "at"; walk_at "at"; walk_at "le")
  | ((with_reducible apply use_alkL); walk_at "at"; walk_at "at"; walk_at "le")
  | ((with_reducible apply use_alkT); walk_at "at"; walk_at "at"; walk_at "le"))
def snd3 (l : List (Int × Int × Int)) : Int := (l.map fun z => z.2.2).sum
theorem snd3_snoc (l : List (Int × Int × Int)) (a b c : Int) : snd3 (l ++ [(a, b, c)]) = snd3 l + c := by
  unfold snd3
  simp
/-- played, the newest first -/
def spPln (K : PySem.W.Frag) : Sp := fun vs H Q _ => ∃ (a : Addr) (B : Bak) (n : Nat), vs = [.ref a, .int (n : Nat), .bl true] ∧ BakM K H a B ∧ n ≤ 1000 ∧
  ∀ p D sv ts H', Same H H' → H' p = some (.tup [.ref D, .int (sq B.nM n), .int (sq B.nW n)]) → H' D = some (.lst sv) → Trips H' sv ts → ts.length ≤ 100000 → snd3 ts = sq (fun j => B.wish (j : Nat) - B.nM j) n → Q (.ref p) H'
theorem use_bkd {K : PySem.W.Frag} {H : Hp} {Q : VK} {E : XK} {a : Addr} {B : Bak} {x : Int} (b : BakC K H a B) (q : Q (.int (B.bk x)) H) : spBkd K [.ref a, .int x] H Q E := ⟨a, B, x, rfl, b, q⟩
theorem a_getL {K : PySem.W.Frag} {H : Hp} {Q : VK} {a : Addr} {xs : List V} {i : Int} {j : Nat} {v : V} (h : SqL K H a xs) (e : i = (j : Int)) (l : xs[j]? = some v) (q : Q v H) : rGetL K (.ref a) (.int i) H Q := ⟨a, xs, j, v, rfl, by rw [e], h, l, q⟩
theorem set_mid {α : Type} (x y : α) : ∀ (A R : List α), (A ++ x :: R).set A.length y = A ++ y :: R
  | [], R => rfl
  | a :: A, R => congrArg (a :: ·) (set_mid x y A R)
theorem tot_rev (X : Prs) : tot X.reverse = tot X := by
  unfold tot
  rw [List.map_reverse, List.sum_reverse]
local macro_rules | `(tactic| walk_at "use") => `(tactic| first
  | ((with_reducible apply use_bkd); walk_at "at"))
theorem ok_played {P : Program} {w : World} {K : PySem.W.Frag} {mg : Str → Option Value} {base : Heap} (T : Tx K mg) : C8.Cal P w K mg base 3 "played" (spPln K) [] := by
  have G_Bakery_baked_on := ok_Bakery_baked_on (P := P) (w := w) (base := base) T
  have G_Bakery_demands := ok_Bakery_demands (P := P) (w := w) (base := base) T
  have G_Bakery_life := ok_Bakery_life (P := P) (w := w) (base := base) T
  refine cal_of (d := d_played) (x := "played") (fn_played T) rfl rfl (fg_played T) sc_played (fun _ _ _ _ _ _ us hl => match us, hl with | [_, _, _], _ => rfl) (fun vs H Q E h => ?_) (fun cdv A outer s H vs Q E hr h => ?_)
  · obtain ⟨a, B, n, rfl, hb, hn, k⟩ := h
    rfl
  obtain ⟨a, B, n, rfl, hb, hn, k⟩ := h
  refine ⟨_, (pss_cons (ps_asg (pe_tup (pa_cons (pe_lst pa_nil) (pa_cons (pe_lst pa_nil) (pa_cons pe_int (pa_cons pe_int pa_nil))))) (pg_tup (n := 4) (by rfl) (pgs_cons (pg_name (i := 3) sc_played.nd rfl (Or.inl rfl)) (pgs_cons (pg_name (i := 4) sc_played.nd rfl (Or.inl rfl)) (pgs_cons (pg_name (i := 5) sc_played.nd rfl (Or.inl rfl)) (pgs_cons (pg_name (i := 6) sc_played.nd rfl (Or.inl rfl)) pgs_nil))))))
      (pss_cons (ps_for PassesOwn.never rfl (pi_range1 (by rfl) (fn_range T) (pa_cons (pv 1) pa_nil)) (pg_name (i := 7) sc_played.nd rfl (Or.inr rfl)) (pss_cons (ps_expr (pe_bm PySem.F.plainAttrs_list PySem.F.slot_list_append PySem.F.type_list_append mt_append (pv 3) (pa_cons (pe_lst (pa_cons (pv 7) (pa_cons (C8.pe_mt G_Bakery_baked_on hr (by decide) (pv 0) (pa_cons (pv 7) pa_nil)) pa_nil))) pa_nil)))
      (pss_cons (ps_set (i := 8) sc_played.nd rfl (Or.inl rfl) (pe_ix ix_tup (pe_pr G_Bakery_demands hr (by decide) (pv 0)) (pe_op op_mod (pe_callTy cq_int (by rfl) (fn_int T) bb_int (pa_cons (pv 7) pa_nil)) (pe_callB cq_len (by rfl) (fn_len T) bb_len (pa_cons (pe_pr G_Bakery_demands hr (by decide) (pv 0)) pa_nil))) (fun _ _ => rfl)))
      (pss_cons (ps_for PassesOwn.never rfl (pi_list (pe_ifExp (pt_val (pv 2)) (pe_revL (pv 3)) (pv 3))) (pg_name (i := 9) sc_played.nd rfl (Or.inl rfl)) (pss_cons (ps_set (i := 10) sc_played.nd rfl (Or.inl rfl) (pe_callB (cq_min2 rfl) (by rfl) (fn_min T) bb_min (pa_cons (pv 8) (pa_cons (pe_ix ix_list (pv 9) pe_int (fun _ _ => rfl)) pa_nil))))
        (pss_cons (ps_expr (pe_bm PySem.F.plainAttrs_list PySem.F.slot_list_append PySem.F.type_list_append mt_append (pv 4) (pa_cons (pe_tup (pa_cons (pe_ix ix_list (pv 9) pe_int (fun _ _ => rfl)) (pa_cons (pv 7) (pa_cons (pv 10) pa_nil)))) pa_nil)))
        (pss_cons (ps_augS (pv 9) pe_int pget_list (pv 10) ip_sub set_list)
        (pss_one (ps_aug (i := 8) sc_played.nd rfl (Or.inl rfl) (pv 10) ip_sub))))))
      (pss_cons (ps_aug (i := 5) sc_played.nd rfl (Or.inl rfl) (pv 8) ip_add)
      (pss_cons (ps_aug (i := 6) sc_played.nd rfl (Or.inl rfl) (pe_callB (cr_sum rfl) (by rfl) (fn_sum T) bb_sum (pa_cons (pe_lc (own := [("entry", 9)]) (by rfl) sc_played.nd (pi_list (pv 3)) (blkOk_by (own := [("entry", 9)]) (N := ["bakery", "days", "is_newest", "shelf", "sales", "missed", "thrown", "day", "left", "entry", "count"]) (sc := defScope s_played) (by decide +kernel)) (fun _ _ _ _ _ => (pg_name (i := 9) sc_played.nd rfl (Or.inl rfl))) (fun _ _ _ _ _ => by exact (pts_one (pt_cmpR op_le (pe_ix (ixK (K := K) rfl ix_list) (pv 9) pe_int (fun _ _ => rfl)) (pe_op op_add (pe_op op_sub (pv 7) (pe_pr G_Bakery_life hr (by decide) (pv 0))) pe_int) (nomark _)))) (fun _ _ _ _ _ => by exact (pe_ix (ixK (K := K) rfl ix_list) (pv 9) pe_int (fun _ _ => rfl)))) pa_nil)) ip_add)
      (pss_one (ps_setLc (i := 3) (own := [("entry", 9)]) (by rfl) sc_played.nd rfl rfl (sw_true rfl rfl rfl (by decide +kernel)) (pi_list (pv 3)) (blkOk_by (own := [("entry", 9)]) (N := ["bakery", "days", "is_newest", "shelf", "sales", "missed", "thrown", "day", "left", "entry", "count"]) (sc := defScope s_played) (by decide +kernel)) (fun _ _ _ _ _ => (pg_name (i := 9) sc_played.nd rfl (Or.inl rfl))) (fun _ _ _ _ _ => by exact (pts_one (pt_cmpR op_gt (pe_ix (ixK (K := K) rfl ix_list) (pv 9) pe_int (fun _ _ => rfl)) (pe_op op_add (pe_op op_sub (pv 7) (pe_pr G_Bakery_life hr (by decide) (pv 0))) pe_int) (nomark _)))) (fun _ _ _ _ _ => (pv 9))))))))))
      (pss_one (ps_ret (pe_tup (pa_cons (pv 4) (pa_cons (pv 5) (pa_cons (pv 6) pa_nil)))))))), ?_⟩
  try dsimp only [cxOf, Cx.nox, Cx.wish]
  repeat rw [st_cons]
  repeat rw [st_none]
  try rw [st_nn]
  have ok := hb.c.1
  have n0 := ok.n0
  have n1 := ok.n1
  have l0 := ok.l0
  have l1 := ok.l1
  walk_at "go"
  rename_i S H1 s1 nS eS D H2 s2 nD eD p3 H3 s3 n3 e3
  have nD0 : H D = none := none_of_same s1 nD
  have nSD : S ≠ D := ne_of_none eS nD
  refine fR_range (fun t σ H' => ∃ (S : Addr) (vs sv : List V) (ts : List (Int × Int × Int)) (x7 x8 x9 x10 : Option V), σ = [some (.ref a), some (.int (n : Nat)), some (.bl true), some (.ref S), some (.ref D), some (.int (sq B.nM t)), some (.int (sq B.nW t)), x7, x8, x9, x10] ∧
    Same H H' ∧ H S = none ∧ S ≠ D ∧ H' S = some (.lst vs) ∧ H' D = some (.lst sv) ∧ Ents H' vs (B.nX t) ∧ (∀ p, V.ref p ∈ vs → H p = none ∧ p ≠ S ∧ p ≠ D) ∧ Trips H' sv ts ∧ ts.length ≤ 50 * t ∧ snd3 ts = sq (fun j => B.wish (j : Nat) - B.nM j) t)
    ⟨S, [], [], [], none, none, none, none, rfl, sameT (sameT s1 s2) s3, nS, nSD, s3 _ _ (s2 _ _ eS), s3 _ _ eD, Ents.nil, (fun p h => absurd h (List.not_mem_nil)), Trips.nil, Nat.le_refl _, rfl⟩ ?_ ?_
  · clear s1 s2 s3 nS eS nD eD n3 e3 nSD
    rintro t σ H4 ht ⟨S, vs, sv, ts, x7, x8, x9, x10, rfl, sm, nS, nSD, eS, eD, hE, hN, hT, tl, sn⟩
    have tn : t < n := by omega
    have xl := nX_len ok t
    have vl : vs.length ≤ 30 := by
      have := hE.1
      omega
    walk_at "go"
    rename_i q H5 s5 nq eq
    rw [Int.zero_add] at eq
    have eS5 := s5 _ _ eS
    have eD5 := s5 _ _ eD
    have nq0 : H q = none := none_of_same sm nq
    have qS : q ≠ S := (ne_of_none eS nq).symm
    have qD : q ≠ D := (ne_of_none eD nq).symm
    have hE5 := hE.snoc nq s5 eq
    have hN5 : ∀ p, V.ref p ∈ vs ++ [.ref q] → H p = none ∧ p ≠ S ∧ p ≠ D := fun p hp => by
      rcases List.mem_append.mp hp with h | h
      · exact hN p h
      · cases List.mem_singleton.mp h
        exact ⟨nq0, qS, qD⟩
    refine r_append eS5 (by omega) ?_
    have smA : Same H (upd H5 S (.lst (vs ++ [V.ref q]))) := same_mut (sameT sm s5) nS
    have eSA : (upd H5 S (.lst (vs ++ [V.ref q]))) S = some (.lst (vs ++ [V.ref q])) := upd_same
    have eDA : (upd H5 S (.lst (vs ++ [V.ref q]))) D = some (.lst sv) := by
      rw [upd_ne nSD.symm]
      exact eD5
    have hEA := hE5.mut (o := .lst (vs ++ [V.ref q])) (S := S) fun m => (hN5 S m).2.1 rfl
    have hTA := (hT.mono s5).mut (zs' := vs ++ [V.ref q]) eS5
    generalize upd H5 S (.lst (vs ++ [V.ref q])) = H6 at smA eSA eDA hEA hTA ⊢
    clear s5 eS5 eD5 hE5 nq eq hE hT eS eD
    have w0 := (ok.wish_in (t : Nat)).1
    walk_at "go"
    refine ⟨S, _, rfl, sqL_at eSA, fun R nR => ?_⟩
    have sR := same_new nR (o := .lst (vs ++ [V.ref q]).reverse)
    have eR : (upd H6 R (.lst (vs ++ [V.ref q]).reverse)) R = some (.lst (vs ++ [V.ref q]).reverse) := upd_same
    have nR0 : H R = none := none_of_same smA nR
    have SR : S ≠ R := ne_of_none eSA nR
    have DR : D ≠ R := ne_of_none eDA nR
    have RN : V.ref R ∉ (vs ++ [V.ref q]) := hEA.out nR
    generalize upd H6 R (.lst (vs ++ [V.ref q]).reverse) = H7 at sR eR ⊢
    walk_at "go"
    have rl : (vs ++ [V.ref q]).reverse.length ≤ 31 := by
      simp
      omega
    refine fR_list (xs := (vs ++ [V.ref q]).reverse) (fun i σ H' => ∃ (left : Int) (done rest : Prs) (sv : List V) (ts : List (Int × Int × Int)) (x9 x10 : Option V), σ = [some (.ref a), some (.int (n : Nat)), some (.bl true), some (.ref S), some (.ref D), some (.int (sq B.nM t)), some (.int (sq B.nW t)), some (.int (0 + (t : Nat))), some (.int left), x9, x10] ∧
      Same H H' ∧ H' S = some (.lst (vs ++ [V.ref q])) ∧ H' R = some (.lst (vs ++ [V.ref q]).reverse) ∧ H' D = some (.lst sv) ∧ Ents H' (vs ++ [V.ref q]).reverse (done ++ rest) ∧ done.length = i ∧ 0 ≤ left ∧ (take left rest).1 = B.nM t ∧ done ++ (take left rest).2 = (B.nT t).2 ∧ Trips H' sv ts ∧ ts.length ≤ 50 * t + i ∧ snd3 ts = sq (fun j => B.wish (j : Nat) - B.nM j) t + (B.wish (t : Nat) - left))
      ⟨B.wish (t : Nat), [], (B.nX t ++ [((t : Int), B.bk (t : Nat))]).reverse, sv, ts, x9, x10, by rw [Int.zero_add], by walk_at "sames", by walk_at "at", eR, by walk_at "at", (hEA.mono sR).rev, rfl, w0, rfl, rfl, hTA.mono sR, tl, by omega⟩ (fun i σ H' _ w => let ⟨_, _, _, _, _, _, _, _, _, _, e, _⟩ := w; sqL_at e) ?_ ?_
    · clear sR eR eSA eDA hEA hTA
      rintro i v σ H8 hv ⟨left, done, rest, sv, ts, x9, x10, rfl, s8, eS8, eR8, eD8, hE8, dl, lf0, tk1, tk2, hT8, tl8, sn8⟩
      obtain ⟨⟨d, c⟩, hz, p, rfl, hp⟩ := hE8.at hv
      have il := (List.getElem?_eq_some_iff.mp hv).1
      obtain ⟨r, rfl⟩ : ∃ r, rest = (d, c) :: r := by
        rw [List.getElem?_append_right (by omega)] at hz
        rw [dl, Nat.sub_self] at hz
        cases rest with
        | nil => simp at hz
        | cons x r =>
          simp at hz
          subst hz
          exact ⟨r, rfl⟩
      simp only at hp
      have pin : V.ref p ∈ vs ++ [V.ref q] := List.mem_reverse.mp (List.mem_of_getElem? hv)
      obtain ⟨np, pS, pD⟩ := hN5 p pin
      have pR : p ≠ R := fun z => RN (z ▸ pin)
      walk_at "go"
      rename_i tq H9 s9 n9 e9
      have eD9 := s9 _ _ eD8
      refine r_append eD9 (by have := hT8.1; omega) ?_
      have smA : Same H (upd H9 D (.lst (sv ++ [V.ref tq]))) := same_mut (sameT s8 s9) nD0
      have eSA : (upd H9 D (.lst (sv ++ [V.ref tq]))) S = some (.lst (vs ++ [V.ref q])) := by
        rw [upd_ne nSD]
        exact s9 _ _ eS8
      have eRA : (upd H9 D (.lst (sv ++ [V.ref tq]))) R = some (.lst (vs ++ [V.ref q]).reverse) := by
        rw [upd_ne DR.symm]
        exact s9 _ _ eR8
      have eDA : (upd H9 D (.lst (sv ++ [V.ref tq]))) D = some (.lst (sv ++ [V.ref tq])) := upd_same
      have hpA : (upd H9 D (.lst (sv ++ [V.ref tq]))) p = some (.lst [.int d, .int c]) := by
        rw [upd_ne pD]
        exact s9 _ _ hp
      have hEA := (hE8.mono s9).mut (o := .lst (sv ++ [V.ref tq])) (S := D) fun m => (hN5 D (List.mem_reverse.mp m)).2.2 rfl
      have hTA := ((hT8.mono s9).snoc (z := (d, 0 + (t : Int), min left c)) ⟨tq, rfl, e9⟩).mut (zs' := sv ++ [V.ref tq]) eD9
      generalize upd H9 D (.lst (sv ++ [V.ref tq])) = HA at smA eSA eRA eDA hpA hEA hTA ⊢
      clear s9 eD9 n9 e9 hE8 hT8 s8 eS8 eR8 eD8 hp
      walk_at "go"
      refine a_getL (sqL_at hpA) (j := 1) rfl rfl ?_
      walk_at "go"
      refine r_setL hpA (j := 1) rfl (show 1 < 2 by decide) ?_
      have elt : (done ++ (d, c) :: r)[i]? = some (d, c) := hz
      have hEB := hEA.set (c' := c - min left c) hv elt
      rw [← dl, set_mid] at hEB
      have hTB := hTA.mut (zs' := [V.int d, V.int (c - min left c)]) hpA
      have smB : Same H (upd HA p (.lst [V.int d, V.int (c - min left c)])) := same_mut smA np
      walk_at "go"
      have c0 : 0 ≤ min left c ∨ min left c < 0 := by omega
      refine ⟨left - min left c, done ++ [(d, c - min left c)], r, _, _, _, _, rfl, smB, by rw [upd_ne pS.symm]; exact eSA, by rw [upd_ne pR.symm]; exact eRA, by rw [upd_ne pD.symm]; exact eDA, by rw [List.append_assoc]; exact hEB, by simp [dl], by omega, tk1, by rw [List.append_assoc]; exact tk2, hTB, by simp; omega, ?_⟩
      rw [snd3_snoc, sn8]
      omega
    · clear sR eR eSA eDA hEA hTA
      rintro σ H8 ⟨left, done, rest, sv, ts, x9, x10, rfl, s8, eS8, eR8, eD8, hE8, dl, lf0, tk1, tk2, hT8, tl8, sn8⟩
      have rn : rest = [] := by
        have := hE8.1
        rw [List.length_append] at this
        exact List.eq_nil_of_length_eq_zero (by omega)
      subst rn
      have tk1' : left = B.nM t := tk1
      subst tk1'
      have tk2' : done = (B.nT t).2 := by
        have z : done ++ [] = (B.nT t).2 := tk2
        rwa [List.append_nil] at z
      subst tk2'
      have hE9 := hE8.rev
      rw [List.reverse_reverse, List.append_nil] at hE9
      have dl2 : ((B.nT t).2.reverse).length ≤ 31 := by
        rw [List.length_reverse]
        omega
      walk_at "go"
      refine lcEntI (l := (B.nT t).2.reverse) (fun z => decide (z.1 ≤ (t : Int) - B.life + 1)) (fun z => z.2) eS8 hE9 (by omega) (fun p z H' Z sm' hp zz => ?_) (fun p z H' Z sm' hp zz => ?_) fun L H10 nL s10 eL => ?_
      · walk_at "go"
        rw [Int.zero_add]
        exact zz _ (by walk_at "sames")
      · walk_at "go"
        exact zz _ (by walk_at "sames")
      have nw : (((B.nT t).2.reverse.filter fun z => decide (z.1 ≤ (t : Int) - B.life + 1)).map fun z => z.2).sum = B.nW t := by
        show tot _ = tot _
        rw [List.filter_reverse, tot_rev]
      walk_at "go"
      rw [nw]
      refine lcEntF (l := (B.nT t).2.reverse) (fun z => decide ((t : Int) - B.life + 1 < z.1)) (by walk_at "at") (hE9.mono s10) (by omega) (fun p z H' Z sm' hp zz => ?_) (fun p H' Z sm' zz => ?_) fun S2 H11 ws nS2 s11 eS2 hE11 hws => ?_
      · walk_at "go"
        rw [Int.zero_add]
        exact zz _ (by walk_at "sames")
      · walk_at "go"
        exact zz _ (by walk_at "sames")
      have sm11 : Same H H11 := sameT (sameT s8 s10) s11
      walk_at "go"
      have eD11 := s11 _ _ (s10 _ _ eD8)
      have nS20 : H S2 = none := none_of_same (sameT s8 s10) nS2
      have n1 : sq B.nM (t + 1) = sq B.nM t + B.nM t := sq_1 _ _
      have n2 : sq B.nW (t + 1) = sq B.nW t + B.nW t := sq_1 _ _
      have n3 : sq (fun j => B.wish (j : Nat) - B.nM j) (t + 1) = sq (fun j => B.wish (j : Nat) - B.nM j) t + (B.wish (t : Nat) - B.nM t) := sq_1 _ _
      have D10 : H10 D = some (.lst sv) := s10 _ _ eD8
      refine ⟨S2, ws, sv, ts, _, _, _, _, by rw [n1, n2], sm11, nS20, (ne_of_none D10 nS2).symm, eS2, eD11, hE11, fun p hp => ?_, (hT8.mono s10).mono s11, by omega, by rw [n3]; exact sn8⟩
      have pin := hws _ hp
      obtain ⟨a1, a2, a3⟩ := hN5 p pin
      refine ⟨a1, fun z => ?_, a3⟩
      subst z
      exact hE9.out (none_of_same s10 nS2) pin
  · rintro σ H4 ⟨S, vs, sv, ts, x7, x8, x9, x10, rfl, sm, nS, nSD, eS, eD, hE, hN, hT, tl, sn⟩
    walk_at "go"
    rename_i p5 H5 s5 n5 e5
    refine k p5 D sv ts H5 (by walk_at "sames") e5 (s5 _ _ eD) (hT.mono s5) ?_ sn
    have : (n : Int).toNat = n := rfl
    omega

end G57
end
section
set_option maxRecDepth 100000
set_option maxHeartbeats 4000000
namespace G57
open PySem PySem.Spec PyProof.Rows L2
/-! the walk's small steps: "rd" reads on as far as it can -/
local macro_rules | `(tactic| walk_at "fact") => `(tactic| fail)
local macro_rules | `(tactic| walk_at "rd1") => `(tactic| with_reducible first
  | (refine v_id ?_; first | refine r_var_0 ?_ | refine r_var_1 ?_ | refine r_var_2 ?_ | refine r_var_3 ?_ | refine r_var_4 ?_ | refine r_var_5 ?_ | refine r_var_6 ?_ | refine r_var_7 ?_ | refine r_var_8 ?_ | refine r_var_9 ?_ | refine r_var_10 ?_ | refine r_var_11 ?_ | refine r_var_12 ?_ | refine r_var_13 ?_ | refine r_var_14 ?_ | refine r_var_15 ?_ | refine r_var_16 ?_ | refine r_var_17 ?_ | refine r_var_18 ?_ | refine r_var_19 ?_ | refine r_var_20 ?_ | refine r_var_21 ?_ | refine r_var_22 ?_ | refine r_var_23 ?_ | refine r_var_24 ?_ | refine r_var_25 ?_ | refine r_var_26 ?_ | refine r_var_27 ?_ | refine r_var rfl ?_)
  | (refine s_id ?_; first | refine r_set_0 ?_ | refine r_set_1 ?_ | refine r_set_2 ?_ | refine r_set_3 ?_ | refine r_set_4 ?_ | refine r_set_5 ?_ | refine r_set_6 ?_ | refine r_set_7 ?_ | refine r_set_8 ?_ | refine r_set_9 ?_ | refine r_set_10 ?_ | refine r_set_11 ?_ | refine r_set_12 ?_ | refine r_set_13 ?_ | refine r_set_14 ?_ | refine r_set_15 ?_ | refine r_set_16 ?_ | refine r_set_17 ?_ | refine r_set_18 ?_ | refine r_set_19 ?_ | refine r_set_20 ?_ | refine r_set_21 ?_ | refine r_set_22 ?_ | refine r_set_23 ?_ | refine r_set_24 ?_ | refine r_set_25 ?_ | refine r_set_26 ?_ | refine r_set_27 ?_ | refine r_setU ?_)
  | refine r_c ?_
  | refine r_op ?_
  | refine r_I0 ?_
  | refine r_seq ?_
  | refine r_asg ?_
  | refine r_fld ?_
  | refine r_nil ?_
  | refine r_cons ?_
  | refine r_cb ?_
  | refine r_max ?_
  | refine r_min ?_
  | refine r_ret ?_
  | refine r_met ?_
  | refine r_call ?_
  | refine r_B ?_
  | refine r_test ?_
  | refine r_b' ?_
  | refine r_ifS ?_
  | refine r_if ?_
  | refine r_par ?_
  | refine r_par2 ?_
  | refine r_drop ?_
  | refine r_next ?_
  | refine r_make ?_
  | refine r_sfld ?_
  | refine r_int1 ?_
  | refine r_intb ?_
  | refine r_and ?_
  | refine r_or ?_
  | refine r_not ?_
  | refine r_chain ?_
  | refine r_isN ?_
  | refine r_notN ?_
  | refine r_un ?_
  | refine r_U ?_
  | refine r_par3 ?_
  | refine r_par33 ?_
  | refine r_tup ?_
  | refine r_lst ?_
  | refine r_prop ?_
  | refine r_bm ?_
  | refine r_bm0 ?_
  | refine r_andV ?_
  | refine r_orV ?_
  | refine r_notV ?_
  | refine r_asgG ?_
  | refine r_gname ?_
  | refine r_gcons ?_
  | refine r_gnil ?_
  | refine r_rng1 ?_
  | refine r_rng2 ?_
  | refine r_for ?_
  | refine r_lc1 ?_
  | refine r_lc2 ?_
  | refine r_lc3 ?_
  | refine r_lc ?_
  | refine r_while ?_
  | refine r_rev ?_
  | refine r_sl ?_
  | refine r_augS ?_
  | refine r_iL ?_
  | refine r_iT ?_
  | refine r_iE ?_
  | refine r_ipI ?_
  | refine r_aug rfl ?_
  | refine r_cval ?_
  | refine r_turnN ?_
  | refine iT ?_
  | refine iNT ?_
  | refine iNF ?_
  | refine iOF ?_
  | refine iF ?_
  | refine r_part ?_
  | refine r_pi ?_
  | refine r_gsub ?_
  | refine r_noPart ?_)
local macro_rules | `(tactic| walk_at "rd") => `(tactic| (repeat (first | walk_at "rd1" | walk_at "fact")))
local macro_rules | `(tactic| walk_at "plen") => `(tactic| (repeat (first | decide | refine putF_lt ?_)))
local macro_rules | `(tactic| walk_at "rs") => `(tactic| (repeat ((fail_if_success (with_reducible refine r_stop ?_)); (first | walk_at "rd1" | walk_at "fact"))))
/-! finding a fact in the present heap by the way back; each rule is applied by its conclusion before its premises are sought -/
local macro_rules | `(tactic| walk_at "atx") => `(tactic| fail)
local macro_rules | `(tactic| walk_at "c_h") => `(tactic| first
  | with_reducible assumption
  | ((with_reducible apply hat_s); (with_reducible assumption); walk_at "c_h"))
local macro_rules | `(tactic| walk_at "c_n") => `(tactic| first
  | with_reducible assumption
  | ((with_reducible apply hat_ne); (with_reducible assumption); walk_at "c_h"))
local macro_rules | `(tactic| walk_at "c_o") => `(tactic| first
  | with_reducible assumption
  | with_reducible exact upd_same
  | ((with_reducible apply at_s); (with_reducible assumption); walk_at "c_o")
  | ((with_reducible apply atd_tup); (with_reducible assumption); walk_at "c_h"; walk_at "c_o")
  | ((with_reducible apply atd_ins); (with_reducible assumption); walk_at "c_h"; walk_at "c_o")
  | ((with_reducible apply atd_lst); (with_reducible assumption); walk_at "c_n"; walk_at "c_o")
  | ((with_reducible apply atx_tup); (with_reducible assumption); walk_at "c_o"; walk_at "c_o")
  | ((with_reducible apply atx_ins); (with_reducible assumption); walk_at "c_o"; walk_at "c_o")
  | ((with_reducible apply atx_ne); (with_reducible assumption); (with_reducible assumption); walk_at "c_o"))
local macro_rules | `(tactic| walk_at "c_q") => `(tactic| first
  | with_reducible assumption
  | ((with_reducible apply sqL_s); (with_reducible assumption); walk_at "c_q"))
local macro_rules | `(tactic| walk_at "c_t") => `(tactic| first
  | with_reducible assumption
  | ((with_reducible apply sqT_s); (with_reducible assumption); walk_at "c_t")
  | ((with_reducible apply sqT_d); (with_reducible assumption); walk_at "c_h"; walk_at "c_t")
  | ((with_reducible apply sqT_x); (with_reducible assumption); walk_at "c_o"; walk_at "c_t"))
local macro_rules | `(tactic| walk_at "c_p") => `(tactic| first
  | with_reducible assumption
  | ((with_reducible apply pairs_s); (with_reducible assumption); walk_at "c_p"))
local macro_rules | `(tactic| walk_at "at") => `(tactic| first
  | with_reducible assumption
  | with_reducible exact upd_same
  | walk_at "atx"
  | ((with_reducible apply sqL_at); walk_at "c_o")
  | ((with_reducible apply sqL_s); (with_reducible assumption); walk_at "c_q")
  | ((with_reducible apply sqT_at); walk_at "c_o")
  | ((with_reducible apply sqT_id); walk_at "c_t")
  | ((with_reducible apply hat_id); walk_at "c_h")
  | ((with_reducible apply pairs_id); walk_at "c_p")
  | ((with_reducible apply ne_id); walk_at "c_n")
  | ((with_reducible apply at_id); walk_at "c_o"))
/-! a length, an inequality -/
local macro_rules | `(tactic| walk_at "le") => `(tactic| first | exact Nat.le_of_ble_eq_true rfl | omega | (simp; done) | (simp; omega))
local macro_rules | `(tactic| walk_at "ar") => `(tactic| first | omega | exact ⟨by omega, by omega⟩ | exact .inl ⟨by omega, by omega⟩ | exact .inr ⟨by omega, by omega⟩ | exact .inr (by omega) | exact .inl (by omega) | exact ⟨by omega, by omega, by omega⟩ | decide)
/-! calls of the text's own defs, with letters for what they leave -/
local macro_rules | `(tactic| walk_at "use") => `(tactic| fail)
local macro_rules | `(tactic| walk_at "go1") => `(tactic| first
  | walk_at "rd1"
  | walk_at "fact"
  | walk_at "use"
  | with_reducible refine r_p6 ?_
  | with_reducible refine r_p8 ?_
  | with_reducible refine r_p9 ?_
  | with_reducible refine r_p10 ?_
  | with_reducible refine r_p12 ?_
  | with_reducible refine r_p14 ?_
  | with_reducible refine r_p15 ?_
  | with_reducible refine r_p17 ?_
  | with_reducible refine r_p18 ?_
  | ((with_reducible apply r_I); walk_at "ar")
  | ((with_reducible apply a_neNil); walk_at "at"; intro _ _)
  | ((with_reducible apply a_eqNil); walk_at "at"; intro _ _)
  | ((with_reducible apply a_nwT); walk_at "le"; intro _ _ _ _ _)
  | ((with_reducible apply a_nwL); walk_at "le"; intro _ _ _ _ _)
  | ((with_reducible apply r_ixL (j := 0)); walk_at "at"; rfl; rfl)
  | ((with_reducible apply r_ixL (j := 1)); walk_at "at"; rfl; rfl)
  | ((with_reducible apply r_ixL (j := 2)); walk_at "at"; rfl; rfl)
  | ((with_reducible apply r_ixL (j := 3)); walk_at "at"; rfl; rfl)
  | ((with_reducible apply r_ixT (j := 0)); walk_at "at"; rfl; rfl)
  | ((with_reducible apply r_ixT (j := 1)); walk_at "at"; rfl; rfl)
  | ((with_reducible apply r_ixT (j := 2)); walk_at "at"; rfl; rfl)
  | ((with_reducible apply a_pick2); walk_at "at"; omega; omega; intro _ _)
  | ((with_reducible apply a_pick3); walk_at "at"; omega; omega; intro _ _)
  | ((with_reducible apply a_pick4); walk_at "at"; omega; omega; intro _ _)
  | ((with_reducible apply r_gtup); walk_at "at"; rfl)
  | ((with_reducible apply a_lenLI); walk_at "at")
  | ((with_reducible apply r_lenL); walk_at "at")
  | ((with_reducible apply r_lenT); walk_at "at")
  | ((with_reducible apply r_tyL); walk_at "at")
  | ((with_reducible apply a_cat); walk_at "at"; walk_at "at"; walk_at "le"; intro _ _ _ _ _)
  | ((with_reducible apply a_listL); walk_at "at"; intro _ _ _ _ _)
  | ((with_reducible apply a_tupL); walk_at "at"; intro _ _ _ _ _)
  | ((with_reducible apply a_slL); walk_at "at"; intro _ _ _ _ _)
  | ((with_reducible apply a_revL); walk_at "at"; intro _ _ _ _ _)
  | ((with_reducible apply r_sumT); walk_at "at")
  | ((with_reducible apply r_sumL); walk_at "at")
  | ((with_reducible refine ⟨_, rfl, ?_, ?_, ?_⟩); omega; omega)
  | ((with_reducible refine ⟨_, _, rfl, ⟨?_, ?_, ?_, ?_⟩, ?_⟩); omega; omega; omega; omega)
  | with_reducible refine ⟨_, rfl, ⟨_, by walk_at "at"⟩, ?_⟩)
local macro_rules | `(tactic| walk_at "go") => `(tactic| (repeat (walk_at "go1")))
local macro_rules | `(tactic| walk_at "sames") => `(tactic| first | exact sameR | assumption | ((with_reducible apply sameB); assumption; walk_at "sames"))
local macro_rules | `(tactic| walk_at "sameds") => `(tactic| first | assumption | ((with_reducible apply sameD_of); walk_at "sames"; done) | ((with_reducible apply sameDB); assumption; walk_at "sameds") | ((with_reducible apply sameDS); assumption; walk_at "sameds"))
local macro_rules | `(tactic| walk_at "gs") => `(tactic| (repeat ((fail_if_success (with_reducible refine r_stop ?_)); (walk_at "go1"))))
local macro_rules | `(tactic| walk_at "c_d") => `(tactic| first
  | with_reducible assumption
  | ((with_reducible apply bakD_s); (with_reducible assumption); walk_at "c_d")
  | ((with_reducible apply bakD_d); (with_reducible assumption); walk_at "c_h"; walk_at "c_d"))
local macro_rules | `(tactic| walk_at "c_b") => `(tactic| first
  | with_reducible assumption
  | ((with_reducible apply bakAt_s); (with_reducible assumption); walk_at "c_b"))
local macro_rules | `(tactic| walk_at "c_a") => `(tactic| first
  | with_reducible assumption
  | ((with_reducible apply bakAt_D); walk_at "c_d")
  | walk_at "c_b")
local macro_rules | `(tactic| walk_at "c_m1") => `(tactic| first
  | with_reducible assumption
  | ((with_reducible apply bakM_s); (with_reducible assumption); walk_at "c_m1"))
local macro_rules | `(tactic| walk_at "c_m") => `(tactic| first
  | with_reducible assumption
  | ((with_reducible apply bakM_at); walk_at "c_a")
  | walk_at "c_m1")
local macro_rules | `(tactic| walk_at "atx") => `(tactic| first
  | ((with_reducible apply bakD_id); walk_at "c_d")
  | ((with_reducible apply bakAt_id); walk_at "c_a")
  | ((with_reducible apply bakM_id); walk_at "c_m")
  | ((with_reducible apply bakC_M); walk_at "c_m"))
local macro_rules | `(tactic| walk_at "ok") => `(tactic| first | assumption | exact BakD.ok (by assumption) | exact BakAt.ok (by assumption))
local macro_rules | `(tactic| walk_at "use") => `(tactic| first
  | ((with_reducible apply mBk); walk_at "at"; decide)
  | ((with_reducible apply pBk); walk_at "at")
  | ((with_reducible apply use_stk); walk_at "at"; omega; omega; intro _ _)
  | ((with_reducible apply use_msd); walk_at "at"; omega; omega; intro _ _)
  | ((with_reducible apply use_thn); walk_at "at"; omega; omega; intro _ _)
  | ((with_reducible apply use_sld); walk_at "at"; omega; omega; intro _ _)
  | ((with_reducible apply use_tot); walk_at "at"; omega; omega; intro _ _ _ _)
  | ((with_reducible apply use_shf); walk_at "at"; omega; omega; intro _ _ _ _ _ _)
  | ((with_reducible apply use_sdy); walk_at "at"; intro _ _ _)
  | ((with_reducible apply use_lrn); walk_at "at"; intro _ _ _ _)
  | ((with_reducible apply use_bks); walk_at "at"; intro _ _)
  | ((with_reducible apply use_dms); walk_at "at"; intro _ _)
  | ((with_reducible apply use_lif); walk_at "at")
  | ((with_reducible apply use_nxt); walk_at "at"; omega; omega; intro _ _ _ _ _ _)
  | ((with_reducible apply use_num); omega; omega)
  | ((with_reducible apply use_liv); walk_at "at"; (exact liv_ok (by walk_at "ok") (by omega) (by omega)); intro _ _ _ _)
  | ((with_reducible apply use_mor); walk_at "at"; assumption; intro _ _ _ _)
  | ((with_reducible apply a_maxB); walk_at "at"; walk_at "ok"; intro _ _ _)
  | ((with_reducible apply a_minB); walk_at "at"; walk_at "ok"; intro _ _ _)
  | with_reducible refine r_cvalR (fcv_Bakery_MAX_LIFE ‹_›) ?_
  | ((with_reducible apply a_lenTB); walk_at "at")
  | ((with_reducible apply a_lenTD); walk_at "at"; walk_at "ok")
  | ((with_reducible apply a_ixD); walk_at "at"; walk_at "ok")
  | ((with_reducible apply a_ixB); walk_at "at"; walk_at "ok"; omega))
local macro_rules | `(tactic| walk_at "alk") => `(tactic| first
  | ((with_reducible apply alk_tup); walk_at "at"; walk_at "at"; walk_at "le")
  | ((with_reducible apply alk_lst); walk_at "at"; walk_at "at"; walk_at "le")
  | ((with_reducible apply use_alkL); walk_at "at"; walk_at "at"; walk_at "le")
  | ((with_reducible apply use_alkT); walk_at "at"; walk_at "at"; walk_at "le"))
def spNwf (K : PySem.W.Frag) : Sp := fun vs H Q _ => ∃ (a : Addr) (B : Bak) (n : Nat), vs = [.ref a, .int (n : Nat)] ∧ BakM K H a B ∧ n ≤ 1000 ∧
  ∀ p H', Same H H' → H' p = some (.tup [.int (sq (fun j => B.wish (j : Nat) - B.nM j) n), .int (sq B.nM n), .int (sq B.nW n)]) → Q (.ref p) H'
theorem use_pln {K : PySem.W.Frag} {H : Hp} {Q : VK} {E : XK} {a : Addr} {B : Bak} {n : Nat} (hb : BakM K H a B) (hn : n ≤ 1000)
    (k : ∀ p D sv ts H', Same H H' → H' p = some (.tup [.ref D, .int (sq B.nM n), .int (sq B.nW n)]) → H' D = some (.lst sv) → Trips H' sv ts → ts.length ≤ 100000 → snd3 ts = sq (fun j => B.wish (j : Nat) - B.nM j) n → Q (.ref p) H') : spPln K [.ref a, .int (n : Nat), .bl true] H Q E := ⟨a, B, n, rfl, hb, hn, k⟩
local macro_rules | `(tactic| walk_at "use") => `(tactic| first
  | ((with_reducible apply use_pln); walk_at "at"; omega; intro _ _ _ _ _ _ _ _ _ _ _))
theorem ok_newest_first {P : Program} {w : World} {K : PySem.W.Frag} {mg : Str → Option Value} {base : Heap} (T : Tx K mg) : C8.Cal P w K mg base 4 "newest_first" (spNwf K) [] := by
  have G_validate_number := ok_validate_number (P := P) (w := w) (base := base) T
  have G_played := ok_played (P := P) (w := w) (base := base) T
  refine cal_of (d := d_newest_first) (x := "newest_first") (fn_newest_first T) rfl rfl (fg_newest_first T) sc_newest_first (fun _ _ _ _ _ _ us hl => match us, hl with | [_, _], _ => rfl) (fun vs H Q E h => ?_) (fun cdv A outer s H vs Q E hr h => ?_)
  · obtain ⟨a, B, n, rfl, hb, hn, k⟩ := h
    rfl
  obtain ⟨a, B, n, rfl, hb, hn, k⟩ := h
  refine ⟨_, (pss_cons (ps_expr (C8.pe_c G_validate_number hr (by decide) (by rfl) (pa_cons (pv 1) (pa_cons pe_int (pa_cons (C8.pe_gc rfl (gc_int (fi_MAX_PLAYED T))) pa_nil)))))
      (pss_cons (ps_asg (C8.pe_c G_played hr (by decide) (by rfl) (pa_cons (pv 0) (pa_cons (pv 1) (pa_cons pe_bl pa_nil)))) (pg_tup (n := 3) (by rfl) (pgs_cons (pg_name (i := 2) sc_newest_first.nd rfl (Or.inl rfl)) (pgs_cons (pg_name (i := 3) sc_newest_first.nd rfl (Or.inl rfl)) (pgs_cons (pg_name (i := 4) sc_newest_first.nd rfl (Or.inl rfl)) pgs_nil)))))
      (pss_one (ps_ret (pe_tup (pa_cons (pe_callB (cr_sum rfl) (by rfl) (fn_sum T) bb_sum (pa_cons (pe_lc (own := [("baked", 5), ("day", 6), ("count", 7)]) (by rfl) sc_newest_first.nd (pi_list (pv 2)) (blkOk_by (own := [("baked", 5), ("day", 6), ("count", 7)]) (N := ["bakery", "days", "sales", "missed", "thrown", "baked", "day", "count"]) (sc := defScope s_newest_first) (by decide +kernel)) (fun _ _ _ _ _ => by exact (pg_tupK (K := K) (n := 3) rfl (by rfl) (pgs_cons (pg_name (i := 5) sc_newest_first.nd rfl (Or.inl rfl)) (pgs_cons (pg_name (i := 6) sc_newest_first.nd rfl (Or.inl rfl)) (pgs_cons (pg_name (i := 7) sc_newest_first.nd rfl (Or.inl rfl)) pgs_nil))))) (fun _ _ _ _ _ => pts_nil) (fun _ _ _ _ _ => by exact (pv 7))) pa_nil)) (pa_cons (pv 3) (pa_cons (pv 4) pa_nil)))))))), ?_⟩
  try dsimp only [cxOf, Cx.nox, Cx.wish]
  repeat rw [st_cons]
  repeat rw [st_none]
  try rw [st_nn]
  walk_at "go"
  rename_i p D sv ts H1 s1 e1 eD hT tl sn
  refine lcT_list (fun z => z.2.2) (by decide) (by decide) (by decide) eD hT tl (fun z H' Z hz s q => ?_) fun L H2 nL s2 eL => ?_
  · walk_at "go"
    exact q _ (by walk_at "sames")
  walk_at "go"
  rename_i q H3 s3 n3 e3
  have es : (ts.map fun z => z.2.2).sum = sq (fun j => B.wish (j : Nat) - B.nM j) n := sn
  rw [es] at e3
  exact k q H3 (by walk_at "sames") e3

end G57
end
section
set_option maxRecDepth 100000
set_option maxHeartbeats 4000000
namespace G57
open PySem PySem.Spec PyProof.Rows L2
/-! the walk's small steps: "rd" reads on as far as it can -/
local macro_rules | `(tactic| walk_at "fact") => `(tactic| fail)
local macro_rules | `(tactic| walk_at "rd1") => `(tactic| with_reducible first
  | (refine v_id ?_; first | refine r_var_0 ?_ | refine r_var_1 ?_ | refine r_var_2 ?_ | refine r_var_3 ?_ | refine r_var_4 ?_ | refine r_var_5 ?_ | refine r_var_6 ?_ | refine r_var_7 ?_ | refine r_var_8 ?_ | refine r_var_9 ?_ | refine r_var_10 ?_ | refine r_var_11 ?_ | refine r_var_12 ?_ | refine r_var_13 ?_ | refine r_var_14 ?_ | refine r_var_15 ?_ | refine r_var_16 ?_ | refine r_var_17 ?_ | refine r_var_18 ?_ | refine r_var_19 ?_ | refine r_var_20 ?_ | refine r_var_21 ?_ | refine r_var_22 ?_ | refine r_var_23 ?_ | refine r_var_24 ?_ | refine r_var_25 ?_ | refine r_var_26 ?_ | refine r_var_27 ?_ | refine r_var rfl ?_)
  | (refine s_id ?_; first | refine r_set_0 ?_ | refine r_set_1 ?_ | refine r_set_2 ?_ | refine r_set_3 ?_ | refine r_set_4 ?_ | refine r_set_5 ?_ | refine r_set_6 ?_ | refine r_set_7 ?_ | refine r_set_8 ?_ | refine r_set_9 ?_ | refine r_set_10 ?_ | refine r_set_11 ?_ | refine r_set_12 ?_ | refine r_set_13 ?_ | refine r_set_14 ?_ | refine r_set_15 ?_ | refine r_set_16 ?_ | refine r_set_17 ?_ | refine r_set_18 ?_ | refine r_set_19 ?_ | refine r_set_20 ?_ | refine r_set_21 ?_ | refine r_set_22 ?_ | refine r_set_23 ?_ | refine r_set_24 ?_ | refine r_set_25 ?_ | refine r_set_26 ?_ | refine r_set_27 ?_ | refine r_setU ?_)
  | refine r_c ?_
  | refine r_op ?_
  | refine r_I0 ?_
  | refine r_seq ?_
  | refine r_asg ?_
  | refine r_fld ?_
  | refine r_nil ?_
  | refine r_cons ?_
  | refine r_cb ?_
  | refine r_max ?_
  | refine r_min ?_
  | refine r_ret ?_
  | refine r_met ?_
  | refine r_call ?_
  | refine r_B ?_
  | refine r_test ?_
  | refine r_b' ?_
  | refine r_ifS ?_
  | refine r_if ?_
  | refine r_par ?_
  | refine r_par2 ?_
  | refine r_drop ?_
  | refine r_next ?_
  | refine r_make ?_
  | refine r_sfld ?_
  | refine r_int1 ?_
  | refine r_intb ?_
  | refine r_and ?_
  | refine r_or ?_
  | refine r_not ?_
  | refine r_chain ?_
  | refine r_isN ?_
  | refine r_notN ?_
  | refine r_un ?_
  | refine r_U ?_
  | refine r_par3 ?_
  | refine r_par33 ?_
  | refine r_tup ?_
  | refine r_lst ?_
  | refine r_prop ?_
  | refine r_bm ?_
  | refine r_bm0 ?_
  | refine r_andV ?_
  | refine r_orV ?_
  | refine r_notV ?_
  | refine r_asgG ?_
  | refine r_gname ?_
  | refine r_gcons ?_
  | refine r_gnil ?_
  | refine r_rng1 ?_
  | refine r_rng2 ?_
  | refine r_for ?_
  | refine r_lc1 ?_
  | refine r_lc2 ?_
  | refine r_lc3 ?_
  | refine r_lc ?_
  | refine r_while ?_
  | refine r_rev ?_
  | refine r_sl ?_
  | refine r_augS ?_
  | refine r_iL ?_
  | refine r_iT ?_
  | refine r_iE ?_
  | refine r_ipI ?_
  | refine r_aug rfl ?_
  | refine r_cval ?_
  | refine r_turnN ?_
  | refine iT ?_
  | refine iNT ?_
  | refine iNF ?_
  | refine iOF ?_
  | refine iF ?_
  | refine r_part ?_
  | refine r_pi ?_
  | refine r_gsub ?_
  | refine r_noPart ?_)
local macro_rules | `(tactic| walk_at "rd") => `(tactic| (repeat (first | walk_at "rd1" | walk_at "fact")))
local macro_rules | `(tactic| walk_at "plen") => `(tactic| (repeat (first | decide | refine putF_lt ?_)))
local macro_rules | `(tactic| walk_at "rs") => `(tactic| (repeat ((fail_if_success (with_reducible refine r_stop ?_)); (first | walk_at "rd1" | walk_at "fact"))))
/-! finding a fact in the present heap by the way back; each rule is applied by its conclusion before its premises are sought -/
local macro_rules | `(tactic| walk_at "atx") => `(tactic| fail)
local macro_rules | `(tactic| walk_at "c_h") => `(tactic| first
  | with_reducible assumption
  | ((with_reducible apply hat_s); (with_reducible assumption); walk_at "c_h"))
local macro_rules | `(tactic| walk_at "c_n") => `(tactic| first
  | with_reducible assumption
  | ((with_reducible apply hat_ne); (with_reducible assumption); walk_at "c_h"))
local macro_rules | `(tactic| walk_at "c_o") => `(tactic| first
  | with_reducible assumption
  | with_reducible exact upd_same
  | ((with_reducible apply at_s); (with_reducible assumption); walk_at "c_o")
  | ((with_reducible apply atd_tup); (with_reducible assumption); walk_at "c_h"; walk_at "c_o")
  | ((with_reducible apply atd_ins); (with_reducible assumption); walk_at "c_h"; walk_at "c_o")
  | ((with_reducible apply atd_lst); (with_reducible assumption); walk_at "c_n"; walk_at "c_o")
  | ((with_reducible apply atx_tup); (with_reducible assumption); walk_at "c_o"; walk_at "c_o")
  | ((with_reducible apply atx_ins); (with_reducible assumption); walk_at "c_o"; walk_at "c_o")
  | ((with_reducible apply atx_ne); (with_reducible assumption); (with_reducible assumption); walk_at "c_o"))
local macro_rules | `(tactic| walk_at "c_q") => `(tactic| first
  | with_reducible assumption
  | ((with_reducible apply sqL_s); (with_reducible assumption); walk_at "c_q"))
local macro_rules | `(tactic| walk_at "c_t") => `(tactic| first
  | with_reducible assumption
  | ((with_reducible apply sqT_s); (with_reducible assumption); walk_at "c_t")
  | ((with_reducible apply sqT_d); (with_reducible assumption); walk_at "c_h"; walk_at "c_t")
  | ((with_reducible apply sqT_x); (with_reducible assumption); walk_at "c_o"; walk_at "c_t"))
local macro_rules | `(tactic| walk_at "c_p") => `(tactic| first
  | with_reducible assumption
  | ((with_reducible apply pairs_s); (with_reducible assumption); walk_at "c_p"))
local macro_rules | `(tactic| walk_at "at") => `(tactic| first
  | with_reducible assumption
  | with_reducible exact upd_same
  | walk_at "atx"
  | ((with_reducible apply sqL_at); walk_at "c_o")
  | ((with_reducible apply sqL_s); (with_reducible assumption); walk_at "c_q")
  | ((with_reducible apply sqT_at); walk_at "c_o")
  | ((with_reducible apply sqT_id); walk_at "c_t")
  | ((with_reducible apply hat_id); walk_at "c_h")
  | ((with_reducible apply pairs_id); walk_at "c_p")
  | ((with_reducible apply ne_id); walk_at "c_n")
  | ((with_reducible apply at_id); walk_at "c_o"))
/-! a length, an inequality -/
local macro_rules | `(tactic| walk_at "le") => `(tactic| first | exact Nat.le_of_ble_eq_true rfl | omega | (simp; done) | (simp; omega))
local macro_rules | `(tactic| walk_at "ar") => `(tactic| first | omega | exact ⟨by omega, by omega⟩ | exact .inl ⟨by omega, by omega⟩ | exact .inr ⟨by omega, by omega⟩ | exact .inr (by omega) | exact .inl (by omega) | exact ⟨by omega, by omega, by omega⟩ | decide)
/-! calls of the text's own defs, with letters for what they leave -/
local macro_rules | `(tactic| walk_at "use") => `(tactic| fail)
local macro_rules | `(tactic| walk_at "go1") => `(tactic| first
  | walk_at "rd1"
  | walk_at "fact"
  | walk_at "use"
  | with_reducible refine r_p6 ?_
  | with_reducible refine r_p8 ?_
  | with_reducible refine r_p9 ?_
  | with_reducible refine r_p10 ?_
  | with_reducible refine r_p12 ?_
  | with_reducible refine r_p14 ?_
  | with_reducible refine r_p15 ?_
  | with_reducible refine r_p17 ?_
  | with_reducible refine r_p18 ?_
  | ((with_reducible apply r_I); walk_at "ar")
  | ((with_reducible apply a_neNil); walk_at "at"; intro _ _)
  | ((with_reducible apply a_eqNil); walk_at "at"; intro _ _)
  | ((with_reducible apply a_nwT); walk_at "le"; intro _ _ _ _ _)
  | ((with_reducible apply a_nwL); walk_at "le"; intro _ _ _ _ _)
  | ((with_reducible apply r_ixL (j := 0)); walk_at "at"; rfl; rfl)
  | ((with_reducible apply r_ixL (j := 1)); walk_at "at"; rfl; rfl)
  | ((with_reducible apply r_ixL (j := 2)); walk_at "at"; rfl; rfl)
  | ((with_reducible apply r_ixL (j := 3)); walk_at "at"; rfl; rfl)
  | ((with_reducible apply r_ixT (j := 0)); walk_at "at"; rfl; rfl)
  | ((with_reducible apply r_ixT (j := 1)); walk_at "at"; rfl; rfl)
  | ((with_reducible apply r_ixT (j := 2)); walk_at "at"; rfl; rfl)
  | ((with_reducible apply a_pick2); walk_at "at"; omega; omega; intro _ _)
  | ((with_reducible apply a_pick3); walk_at "at"; omega; omega; intro _ _)
  | ((with_reducible apply a_pick4); walk_at "at"; omega; omega; intro _ _)
  | ((with_reducible apply r_gtup); walk_at "at"; rfl)
  | ((with_reducible apply a_lenLI); walk_at "at")
  | ((with_reducible apply r_lenL); walk_at "at")
  | ((with_reducible apply r_lenT); walk_at "at")
  | ((with_reducible apply r_tyL); walk_at "at")
  | ((with_reducible apply a_cat); walk_at "at"; walk_at "at"; walk_at "le"; intro _ _ _ _ _)
  | ((with_reducible apply a_listL); walk_at "at"; intro _ _ _ _ _)
  | ((with_reducible apply a_tupL); walk_at "at"; intro _ _ _ _ _)
  | ((with_reducible apply a_slL); walk_at "at"; intro _ _ _ _ _)
  | ((with_reducible apply a_revL); walk_at "at"; intro _ _ _ _ _)
  | ((with_reducible apply r_sumT); walk_at "at")
  | ((with_reducible apply r_sumL); walk_at "at")
  | ((with_reducible refine ⟨_, rfl, ?_, ?_, ?_⟩); omega; omega)
  | ((with_reducible refine ⟨_, _, rfl, ⟨?_, ?_, ?_, ?_⟩, ?_⟩); omega; omega; omega; omega)
  | with_reducible refine ⟨_, rfl, ⟨_, by walk_at "at"⟩, ?_⟩)
local macro_rules | `(tactic| walk_at "go") => `(tactic| (repeat (walk_at "go1")))
local macro_rules | `(tactic| walk_at "sames") => `(tactic| first | exact sameR | assumption | ((with_reducible apply sameB); assumption; walk_at "sames"))
local macro_rules | `(tactic| walk_at "sameds") => `(tactic| first | assumption | ((with_reducible apply sameD_of); walk_at "sames"; done) | ((with_reducible apply sameDB); assumption; walk_at "sameds") | ((with_reducible apply sameDS); assumption; walk_at "sameds"))
local macro_rules | `(tactic| walk_at "gs") => `(tactic| (repeat ((fail_if_success (with_reducible refine r_stop ?_)); (walk_at "go1"))))
theorem ok_InvalidBakery_init {P : Program} {w : World} {K : PySem.W.Frag} {mg : Str → Option Value} {base : Heap} (T : Tx K mg) : XMak P w K mg base 1 "InvalidBakery" ["part", "index"] (spX2 K "InvalidBakery" "part" "index") := by
  refine xmak_of (d := d_InvalidBakery_init) (C := "InvalidBakery") (fn_InvalidBakery_init T) rfl rfl (fox_InvalidBakery T) sc_InvalidBakery_init (fun _ _ _ _ _ _ us ws h1 h2 => match us, ws, h1, h2 with | [_], [_, _], _, _ => rfl) (fun vs H Q E h => ?_) (fun cdv A outer s H vs Q E hr h => ?_)
  · obtain ⟨x, v1, v2, rfl, ex, k⟩ := h
    rfl
  obtain ⟨x, v1, v2, rfl, ex, k⟩ := h
  refine ⟨_, (pss_cons (ps_expr (pe_linit (pe_glob (v := .ref (He.ga K "LoafError")) rfl (fg_LoafError T) rfl) (fli_LoafError T).1 (fli_LoafError T).2 (pa_cons (pv 0) (pa_cons pe_str pa_nil))))
      (pss_cons (ps_ost (pv 0) (pv 1) rfl)
      (pss_one (ps_ost (pv 0) (pv 2) rfl)))), ?_⟩
  try dsimp only [cxOf, Cx.nox, Cx.wish, NdefX.ncx]
  repeat rw [st_cons]
  repeat rw [st_none]
  try rw [st_nn]
  walk_at "rd"
  refine ⟨rfl, ?_⟩
  walk_at "rd"
  refine ⟨_, _, _, rfl, by decide, (fox_InvalidBakery T).t, ex, ?_⟩
  walk_at "rd"
  try dsimp only
  refine r_ost ?_
  walk_at "rd"
  refine ⟨_, _, rfl, (fox_InvalidBakery T).t, fxn_InvalidBakery_part T, .inl ⟨ex, fun d hd hn => ?_⟩⟩
  walk_at "rd"
  try dsimp only
  refine r_ost ?_
  walk_at "rd"
  refine ⟨_, _, rfl, (fox_InvalidBakery T).t, fxn_InvalidBakery_index T, .inr ⟨d, _, upd_same, (upd_ne hn).trans upd_same, Nat.le_of_ble_eq_true rfl, ?_⟩⟩
  try dsimp only
  exact k d hd hn
theorem ok_InvalidDays_init {P : Program} {w : World} {K : PySem.W.Frag} {mg : Str → Option Value} {base : Heap} (T : Tx K mg) : XMak P w K mg base 1 "InvalidDays" ["index"] (spX1 K "InvalidDays" "index") := by
  refine xmak_of (d := d_InvalidDays_init) (C := "InvalidDays") (fn_InvalidDays_init T) rfl rfl (fox_InvalidDays T) sc_InvalidDays_init (fun _ _ _ _ _ _ us ws h1 h2 => match us, ws, h1, h2 with | [_], [_], _, _ => rfl) (fun vs H Q E h => ?_) (fun cdv A outer s H vs Q E hr h => ?_)
  · obtain ⟨x, v1, rfl, ex, k⟩ := h
    rfl
  obtain ⟨x, v1, rfl, ex, k⟩ := h
  refine ⟨_, (pss_cons (ps_expr (pe_linit (pe_glob (v := .ref (He.ga K "LoafError")) rfl (fg_LoafError T) rfl) (fli_LoafError T).1 (fli_LoafError T).2 (pa_cons (pv 0) (pa_cons pe_str pa_nil))))
      (pss_one (ps_ost (pv 0) (pv 1) rfl))), ?_⟩
  try dsimp only [cxOf, Cx.nox, Cx.wish, NdefX.ncx]
  repeat rw [st_cons]
  repeat rw [st_none]
  try rw [st_nn]
  walk_at "rd"
  refine ⟨rfl, ?_⟩
  walk_at "rd"
  refine ⟨_, _, _, rfl, by decide, (fox_InvalidDays T).t, ex, ?_⟩
  walk_at "rd"
  try dsimp only
  refine r_ost ?_
  walk_at "rd"
  refine ⟨_, _, rfl, (fox_InvalidDays T).t, fxn_InvalidDays_index T, .inl ⟨ex, fun d hd hn => ?_⟩⟩
  try dsimp only
  exact k d hd hn
def partS : Nat → Str
  | 0 => "bakes"
  | 1 => "demands"
  | _ => "life"
def BakE (K : PySem.W.Frag) (E : XK) (H : Hp) (s : Str) (i : Int) : Prop := ∀ (d : Addr) (H' : Hp), Same H H' → H' d = none → E (.ref (He.ga K "InvalidBakery")) (some d) (upd H' d (.xd [("index", .int i), ("part", .str s)]))
theorem BakE.s {K : PySem.W.Frag} {E : XK} {H H1 : Hp} {s : Str} {i : Int} (h : BakE K E H s i) (s1 : Same H H1) : BakE K E H1 s i := fun d H' s2 n => h d H' (sameT s1 s2) n
def spAmX (K : PySem.W.Frag) : Sp := fun vs H Q E => ∃ (s : Str) (a : Addr) (xs : List Int), vs = [.str s, .ref a] ∧ SqT K H a (xs.map V.int) ∧ (∀ k : Nat, amErr xs = some k → BakE K E H s (k : Nat)) ∧ (amErr xs = none → ∀ H', Same H H' → Q .non H')
theorem ok_validate_amounts_x {P : Program} {w : World} {K : PySem.W.Frag} {mg : Str → Option Value} {base : Heap} (T : Tx K mg) : CalX P w K mg base 3 "validate_amounts" (spAmX K) := by
  have G_InvalidBakery := ok_InvalidBakery_init (P := P) (w := w) (base := base) T
  refine calX_of (d := d_validate_amounts) (x := "validate_amounts") (fn_validate_amounts T) rfl rfl (fg_validate_amounts T) sc_validate_amounts (fun _ _ _ _ _ _ us hl => match us, hl with | [_, _], _ => rfl) (fun vs H Q E h => ?_) (fun cdv A outer s H vs Q E hr h => ?_)
  · obtain ⟨s, a, xs, rfl, hx, k1, k2⟩ := h
    rfl
  obtain ⟨s, a, xs, rfl, hx, k1, k2⟩ := h
  refine ⟨_, (pss_one (ps_for (passes_of rfl) rfl (pi_enumT (by rfl) (fn_enumerate T) (pa_cons (pv 1) pa_nil)) (pg_tup (n := 2) (by rfl) (pgs_cons (pg_name (i := 2) sc_validate_amounts.nd rfl (Or.inl rfl)) (pgs_cons (pg_name (i := 3) sc_validate_amounts.nd rfl (Or.inl rfl)) pgs_nil))) (pss_one (ps_if (PW.pt (pw_or (pt_cmpR op_eqI (pv 2) (ClX.pe_cval (pe_glob (v := .ref (He.ga K "Bakery")) rfl (fg_Bakery T) rfl)) (nomark _)) (pw_or1 (pt_not (pt_chain op_le op_le pe_int (pv 3) (C8.pe_gc rfl (gc_int (fi_MAX_AMOUNT T)))))))) (pss_one (ps_rzk rfl rfl rfl rfl rfl G_InvalidBakery hr (by decide) (fg_InvalidBakery T) (by rfl) (pk_cons (pv 0) (pk_cons (pv 2) pk_nil)))) pss_nil)))), ?_⟩
  try dsimp only [cxOf, Cx.nox, Cx.wish, NdefX.ncx]
  repeat rw [st_cons]
  repeat rw [st_none]
  try rw [st_nn]
  walk_at "rd"
  refine ⟨_, _, rfl, hx, ?_⟩
  refine fR_enumT (xs := xs.map V.int) (fun i σ H' => Same H H' ∧ (∀ j, j < i → badAt xs j = false) ∧ ∃ x y, σ = [some (.str s), some (.ref a), x, y]) ⟨sameR, fun j h => absurd h (Nat.not_lt_zero _), none, none, rfl⟩ (fun i σ H' p => same_sqT p.1 hx) ?_ (fun σ H' p => k2 (amErr_no fun j hj => p.2.1 j (by rw [List.length_map]; exact hj)) H' p.1)
  rintro i x t σ H' hi ⟨sm, good, x1, x2, rfl⟩ ht
  obtain ⟨z, hz, rfl⟩ : ∃ z, xs[i]? = some z ∧ V.int z = x := by simpa using hi
  have lt : i < xs.length := (List.getElem?_eq_some_iff.mp hz).1
  have bd := badAt_of hz
  have s2 : Same H (upd H' t (.tup [.int (i : Nat), .int z])) := same_mut sm (none_of_same sm ht)
  have bad : badAt xs i = true → BakE K E H s (i : Nat) := fun b => k1 i (amErr_at lt b good)
  refine r_turnG ?_
  refine r_gtup (sqT_at upd_same) rfl ?_
  walk_at "rd"
  refine r_cvalR (fcv_Bakery_MAX_DAYS T) ?_
  walk_at "rd"
  refine i2 (fun c => ?_) (fun c => ?_)
  · walk_at "rd"
    refine r_rzk ?_
    walk_at "rd"
    exact a_rzk2 fun d hd => bad (by rw [bd, decide_eq_true (show i = 24 by omega)]; rfl) d _ s2 hd
  · walk_at "rd"
    refine i2 (fun c1 => ?_) (fun c1 => ?_)
    · walk_at "rd"
      refine i2n (fun c2 => ?_) (fun c2 => ?_)
      · walk_at "rd"
        refine r_rzk ?_
        walk_at "rd"
        exact a_rzk2 fun d hd => bad (by rw [bd, decide_eq_false (show ¬ z ≤ 1000000000 by omega)]; simp) d _ s2 hd
      · walk_at "rd"
        refine ⟨s2, fun j hj => ?_, _, _, rfl⟩
        by_cases e : j < i
        · exact good j e
        · have : j = i := by omega
          subst this
          rw [bd, decide_eq_false (show ¬ j = 24 by omega), decide_eq_true c1, decide_eq_true (show z ≤ 1000000000 by omega)]
          rfl
    · walk_at "rd"
      refine r_rzk ?_
      walk_at "rd"
      exact a_rzk2 fun d hd => bad (by rw [bd, decide_eq_false c1]; simp) d _ s2 hd
theorem use_amX {K : PySem.W.Frag} {H : Hp} {Q : VK} {E : XK} {s : Str} {a : Addr} {xs : List Int} (hx : SqT K H a (xs.map V.int)) (k1 : ∀ k : Nat, amErr xs = some k → BakE K E H s (k : Nat)) (k2 : amErr xs = none → ∀ H', Same H H' → Q .non H') : spAmX K [.str s, .ref a] H Q E := ⟨s, a, xs, rfl, hx, k1, k2⟩
def spBkX (K : PySem.W.Frag) : Sp := fun vs H _ E => ∃ (v : V) (tb tw : Addr) (b e : List Int) (l : Int) (p : Nat) (i : Int), vs = [v, .ref tb, .ref tw, .int l] ∧ SqT K H tb (b.map V.int) ∧ SqT K H tw (e.map V.int) ∧ bkErr b e l = some (p, i) ∧ BakE K E H (partS p) i
theorem ok_Bakery_init_x {P : Program} {w : World} {K : PySem.W.Frag} {mg : Str → Option Value} {base : Heap} (T : Tx K mg) : MakX P w K mg base 8 "Bakery" (He.ga K "Bakery") (spBkX K) := by
  have G_validate_amounts_x := ok_validate_amounts_x (P := P) (w := w) (base := base) T
  have G_InvalidBakery := ok_InvalidBakery_init (P := P) (w := w) (base := base) T
  have G_Bakery_effect_of := ok_Bakery_effect_of (P := P) (w := w) (base := base) T
  have G_Effect_end := ok_Effect_end (P := P) (w := w) (base := base) T
  have G_Effect_followed := ok_Effect_followed (P := P) (w := w) (base := base) T
  have G_settled_of := ok_settled_of (P := P) (w := w) (base := base) T
  refine makX_of (d := d_Bakery_init) (C := "Bakery") (fn_Bakery_init T) rfl rfl (fg_Bakery T) (fmk_Bakery T) sc_Bakery_init (fun _ _ _ _ _ _ us hl => match us, hl with | [_, _, _, _], _ => rfl) (fun vs H Q E h => ?_) (fun cdv A outer s H vs Q E hr h => ?_)
  · obtain ⟨v, tb, tw, b, e, l, p, i, rfl, hb, hw, he, k⟩ := h
    rfl
  obtain ⟨v, tb, tw, b, e, l, p, i, rfl, hb, hw, he, k⟩ := h
  refine ⟨_, (pss_cons (ps_expr (pe_cX G_validate_amounts_x hr (by decide) (by rfl) (passes_call (takes_of rfl rfl rfl rfl) fun _ _ _ _ h => h) (pa_cons pe_str (pa_cons (pv 1) pa_nil))))
      (pss_cons (ps_if (pt_cmpR (op_eqD hr.units) (pv 1) (pe_tup pa_nil) (nomark _)) (pss_one (ps_rzk rfl rfl rfl rfl rfl G_InvalidBakery hr (by decide) (fg_InvalidBakery T) (by rfl) (pk_cons pe_str (pk_cons (pe_un un_neg pe_int) pk_nil)))) pss_nil)
      (pss_cons (ps_expr (pe_cX G_validate_amounts_x hr (by decide) (by rfl) (passes_call (takes_of rfl rfl rfl rfl) fun _ _ _ _ h => h) (pa_cons pe_str (pa_cons (pv 2) pa_nil))))
      (pss_cons (ps_if (pt_cmpR op_neI (pe_callB cq_len (by rfl) (fn_len T) bb_len (pa_cons (pv 2) pa_nil)) (pe_callB cq_len (by rfl) (fn_len T) bb_len (pa_cons (pv 1) pa_nil)) (nomark _)) (pss_one (ps_rzk rfl rfl rfl rfl rfl G_InvalidBakery hr (by decide) (fg_InvalidBakery T) (by rfl) (pk_cons pe_str (pk_cons (pe_un un_neg pe_int) pk_nil)))) pss_nil)
      (pss_cons (ps_if (pt_not (pt_chain op_le op_le pe_int (pv 3) (ClX.pe_cval (pe_glob (v := .ref (He.ga K "Bakery")) rfl (fg_Bakery T) rfl)))) (pss_one (ps_rzk rfl rfl rfl rfl rfl G_InvalidBakery hr (by decide) (fg_InvalidBakery T) (by rfl) (pk_cons pe_str (pk_cons (pe_un un_neg pe_int) pk_nil)))) pss_nil)
      (pss_cons (ps_fld (pv 0) (pv 1) rfl)
      (pss_cons (ps_fld (pv 0) (pv 2) rfl)
      (pss_cons (ps_fld (pv 0) (pv 3) rfl)
      (pss_cons (ps_fld (pv 0) (pe_callB cq_len (by rfl) (fn_len T) bb_len (pa_cons (pv 1) pa_nil)) rfl)
      (pss_cons (ps_fld (pv 0) (pe_lst (pa_cons pe_int pa_nil)) rfl)
      (pss_cons (ps_while (passes_of rfl) (PW.pt (pw_or (pt_cmpR op_lt (pe_callB cq_len (by rfl) (fn_len T) bb_len (pa_cons (pe_fld (pv 0) rfl) pa_nil)) (pv 3) (nomark _)) (pw_or1 (pt_cmpR op_neI (pe_op op_mod (pe_callTy cq_int (by rfl) (fn_int T) bb_int (pa_cons (pe_op op_sub (pe_callB cq_len (by rfl) (fn_len T) bb_len (pa_cons (pe_fld (pv 0) rfl) pa_nil)) pe_int) pa_nil)) (pe_fld (pv 0) rfl)) pe_int (nomark _))))) (pss_one (ps_expr (pe_bm PySem.F.plainAttrs_list PySem.F.slot_list_append PySem.F.type_list_append mt_append (pe_fld (pv 0) rfl) (pa_cons (C8.pe_mt G_Effect_end hr (by decide) (C8.pe_mt G_Bakery_effect_of hr (by decide) (pv 0) (pa_cons (pe_op op_sub (pe_callB cq_len (by rfl) (fn_len T) bb_len (pa_cons (pe_fld (pv 0) rfl) pa_nil)) pe_int) pa_nil)) (pa_cons (pe_ix ix_list (pe_fld (pv 0) rfl) (pe_un un_neg pe_int) (fun _ _ => rfl)) pa_nil)) pa_nil)))))
      (pss_cons (ps_fld (pv 0) (pe_lc (own := [("day", 4)]) (by rfl) sc_Bakery_init.nd (pi_range1 (by rfl) (fn_range T) (pa_cons (pe_fld (pv 0) rfl) pa_nil)) (blkOk_by (own := [("day", 4)]) (N := ["self", "bakes", "demands", "life", "day", "effect", "last"]) (sc := defScope s_Bakery_init) (by decide +kernel)) (fun _ _ _ _ _ => (pg_name (i := 4) sc_Bakery_init.nd rfl (Or.inl rfl))) (fun _ _ _ _ _ => pts_nil) (fun _ _ _ _ _ => by exact (C8.pe_mt G_Bakery_effect_of hr (by decide) (pv 0) (pa_cons (pe_op op_add (pe_op op_sub (pe_callB (callK (K := K) rfl cq_len) (by rfl) (fn_len T) bb_len (pa_cons (pe_fldK (K := K) rfl (pv 0) rfl) pa_nil)) pe_int) (pv 4)) pa_nil)))) rfl)
      (pss_cons (ps_fld (pv 0) (pe_lst (pa_cons pe_non pa_nil)) rfl)
      (pss_cons (ps_for (passes_of rfl) rfl (pi_list (pe_fld (pv 0) rfl)) (pg_name (i := 5) sc_Bakery_init.nd rfl (Or.inl rfl)) (pss_cons (ps_set (i := 6) sc_Bakery_init.nd rfl (Or.inl rfl) (pe_ix ix_list (pe_fld (pv 0) rfl) (pe_un un_neg pe_int) (fun _ _ => rfl)))
      (pss_one (ps_expr (pe_bm PySem.F.plainAttrs_list PySem.F.slot_list_append PySem.F.type_list_append mt_append (pe_fld (pv 0) rfl) (pa_cons (pe_ifExp (pt_cmp (pc_isN (pv 6))) (pv 5) (C8.pe_mt G_Effect_followed hr (by decide) (pv 6) (pa_cons (pv 5) pa_nil))) pa_nil))))))
      (pss_one (ps_fld (pv 0) (C8.pe_c G_settled_of hr (by decide) (by rfl) (pa_cons (pv 0) pa_nil)) rfl)))))))))))))))), ?_⟩
  try dsimp only [cxOf, Cx.nox, Cx.wish, NdefX.ncx]
  repeat rw [st_cons]
  repeat rw [st_none]
  try rw [st_nn]
  walk_at "rd"
  refine use_amX hb (fun j ej => ?_) (fun gb H1 s1 => ?_)
  · rw [bkErr_b ej] at he
    cases he
    exact k
  walk_at "rd"
  refine r_nwT (Nat.le_of_ble_eq_true rfl) fun q hq => ?_
  have s2 := sameT s1 (same_new hq (o := .tup []))
  generalize hH2 : upd H1 q (.tup []) = H2 at s2 ⊢
  refine r_eqTI (ns := b) (ms := []) (same_sqT s2 hb) (sqT_at (by rw [← hH2]; exact upd_same)) ?_
  walk_at "rd"
  clear hH2
  refine i2 (fun c => ?_) (fun nb => ?_)
  · subst c
    rw [bkErr_b0] at he
    cases he
    walk_at "rd"
    refine r_rzk ?_
    walk_at "rd"
    exact a_rzk2 fun d hd => k d _ s2 hd
  walk_at "rd"
  refine use_amX (same_sqT s2 hw) (fun j ej => ?_) (fun ge H3 s3 => ?_)
  · rw [bkErr_d gb nb ej] at he
    cases he
    exact k.s s2
  have s03 := sameT s2 s3
  walk_at "rd"
  refine r_lenT (same_sqT s03 hw) ?_
  walk_at "rd"
  refine r_lenT (same_sqT s03 hb) ?_
  walk_at "rd"
  rw [List.length_map, List.length_map]
  by_cases m : e.length = b.length
  · refine iN' (by rw [m]) ?_
    walk_at "rd"
    have hl : l < 1 ∨ 30 < l := by
      by_cases x : 1 ≤ l ∧ l ≤ 30
      · rw [bkErr_no gb nb ge m x] at he
        cases he
      · omega
    rw [bkErr_l gb nb ge m hl] at he
    cases he
    refine i2 (fun c1 => ?_) (fun c1 => ?_)
    · walk_at "rd"
      refine r_cvalR (fcv_Bakery_MAX_LIFE T) ?_
      walk_at "rd"
      refine iY' (by omega) ?_
      walk_at "rd"
      refine r_rzk ?_
      walk_at "rd"
      exact a_rzk2 fun d hd => k d _ s03 hd
    · walk_at "rd"
      refine r_rzk ?_
      walk_at "rd"
      exact a_rzk2 fun d hd => k d _ s03 hd
  · rw [bkErr_m gb nb ge m] at he
    cases he
    refine iY' (fun z => m (by omega)) ?_
    walk_at "rd"
    refine r_rzk ?_
    walk_at "rd"
    exact a_rzk2 fun d hd => k d _ s03 hd
theorem use_BakX {K : PySem.W.Frag} {H : Hp} {Q : VK} {E : XK} {tb tw : Addr} {b e : List Int} {l : Int} {p : Nat} {i : Int} (hb : SqT K H tb (b.map V.int)) (hw : SqT K H tw (e.map V.int)) (he : bkErr b e l = some (p, i)) (k : BakE K E H (partS p) i) : MakR (He.ga K "Bakery") (spBkX K) E Q [.ref tb, .ref tw, .int l] H := fun x dx hx hdx ne => by
  have s1 : Same H (upd (upd H dx (.own x)) x (.ins (He.ga K "Bakery") dx [])) := same_mut (same_mut sameR hdx) hx
  exact ⟨_, tb, tw, b, e, l, p, i, rfl, same_sqT s1 hb, same_sqT s1 hw, he, k.s s1⟩

end G57
end
section
set_option maxRecDepth 100000
set_option maxHeartbeats 4000000
namespace G57
open PySem PySem.Spec PyProof.Rows L2
/-! the walk's small steps: "rd" reads on as far as it can -/
local macro_rules | `(tactic| walk_at "fact") => `(tactic| fail)
local macro_rules | `(tactic| walk_at "rd1") => `(tactic| with_reducible first
  | (refine v_id ?_; first | refine r_var_0 ?_ | refine r_var_1 ?_ | refine r_var_2 ?_ | refine r_var_3 ?_ | refine r_var_4 ?_ | refine r_var_5 ?_ | refine r_var_6 ?_ | refine r_var_7 ?_ | refine r_var_8 ?_ | refine r_var_9 ?_ | refine r_var_10 ?_ | refine r_var_11 ?_ | refine r_var_12 ?_ | refine r_var_13 ?_ | refine r_var_14 ?_ | refine r_var_15 ?_ | refine r_var_16 ?_ | refine r_var_17 ?_ | refine r_var_18 ?_ | refine r_var_19 ?_ | refine r_var_20 ?_ | refine r_var_21 ?_ | refine r_var_22 ?_ | refine r_var_23 ?_ | refine r_var_24 ?_ | refine r_var_25 ?_ | refine r_var_26 ?_ | refine r_var_27 ?_ | refine r_var rfl ?_)
  | (refine s_id ?_; first | refine r_set_0 ?_ | refine r_set_1 ?_ | refine r_set_2 ?_ | refine r_set_3 ?_ | refine r_set_4 ?_ | refine r_set_5 ?_ | refine r_set_6 ?_ | refine r_set_7 ?_ | refine r_set_8 ?_ | refine r_set_9 ?_ | refine r_set_10 ?_ | refine r_set_11 ?_ | refine r_set_12 ?_ | refine r_set_13 ?_ | refine r_set_14 ?_ | refine r_set_15 ?_ | refine r_set_16 ?_ | refine r_set_17 ?_ | refine r_set_18 ?_ | refine r_set_19 ?_ | refine r_set_20 ?_ | refine r_set_21 ?_ | refine r_set_22 ?_ | refine r_set_23 ?_ | refine r_set_24 ?_ | refine r_set_25 ?_ | refine r_set_26 ?_ | refine r_set_27 ?_ | refine r_setU ?_)
  | refine r_c ?_
  | refine r_op ?_
  | refine r_I0 ?_
  | refine r_seq ?_
  | refine r_asg ?_
  | refine r_fld ?_
  | refine r_nil ?_
  | refine r_cons ?_
  | refine r_cb ?_
  | refine r_max ?_
  | refine r_min ?_
  | refine r_ret ?_
  | refine r_met ?_
  | refine r_call ?_
  | refine r_B ?_
  | refine r_test ?_
  | refine r_b' ?_
  | refine r_ifS ?_
  | refine r_if ?_
  | refine r_par ?_
  | refine r_par2 ?_
  | refine r_drop ?_
  | refine r_next ?_
  | refine r_make ?_
  | refine r_sfld ?_
  | refine r_int1 ?_
  | refine r_intb ?_
  | refine r_and ?_
  | refine r_or ?_
  | refine r_not ?_
  | refine r_chain ?_
  | refine r_isN ?_
  | refine r_notN ?_
  | refine r_un ?_
  | refine r_U ?_
  | refine r_par3 ?_
  | refine r_par33 ?_
  | refine r_tup ?_
  | refine r_lst ?_
  | refine r_prop ?_
  | refine r_bm ?_
  | refine r_bm0 ?_
  | refine r_andV ?_
  | refine r_orV ?_
  | refine r_notV ?_
  | refine r_asgG ?_
  | refine r_gname ?_
  | refine r_gcons ?_
  | refine r_gnil ?_
  | refine r_rng1 ?_
  | refine r_rng2 ?_
  | refine r_for ?_
  | refine r_lc1 ?_
  | refine r_lc2 ?_
  | refine r_lc3 ?_
  | refine r_lc ?_
  | refine r_while ?_
  | refine r_rev ?_
  | refine r_sl ?_
  | refine r_augS ?_
  | refine r_iL ?_
  | refine r_iT ?_
  | refine r_iE ?_
  | refine r_ipI ?_
  | refine r_aug rfl ?_
  | refine r_cval ?_
  | refine r_turnN ?_
  | refine iT ?_
  | refine iNT ?_
  | refine iNF ?_
  | refine iOF ?_
  | refine iF ?_
  | refine r_part ?_
  | refine r_pi ?_
  | refine r_gsub ?_
  | refine r_noPart ?_)
local macro_rules | `(tactic| walk_at "rd") => `(tactic| (repeat (first | walk_at "rd1" | walk_at "fact")))
local macro_rules | `(tactic| walk_at "plen") => `(tactic| (repeat (first | decide | refine putF_lt ?_)))
local macro_rules | `(tactic| walk_at "rs") => `(tactic| (repeat ((fail_if_success (with_reducible refine r_stop ?_)); (first | walk_at "rd1" | walk_at "fact"))))
/-! finding a fact in the present heap by the way back; each rule is applied by its conclusion before its premises are sought -/
local macro_rules | `(tactic| walk_at "atx") => `(tactic| fail)
local macro_rules | `(tactic| walk_at "c_h") => `(tactic| first
  | with_reducible assumption
  | ((with_reducible apply hat_s); (with_reducible assumption); walk_at "c_h"))
local macro_rules | `(tactic| walk_at "c_n") => `(tactic| first
  | with_reducible assumption
  | ((with_reducible apply hat_ne); (with_reducible assumption); walk_at "c_h"))
local macro_rules | `(tactic| walk_at "c_o") => `(tactic| first
  | with_reducible assumption
  | with_reducible exact upd_same
  | ((with_reducible apply at_s); (with_reducible assumption); walk_at "c_o")
  | ((with_reducible apply atd_tup); (with_reducible assumption); walk_at "c_h"; walk_at "c_o")
  | ((with_reducible apply atd_ins); (with_reducible assumption); walk_at "c_h"; walk_at "c_o")
  | ((with_reducible apply atd_lst); (with_reducible assumption); walk_at "c_n"; walk_at "c_o")
  | ((with_reducible apply atx_tup); (with_reducible assumption); walk_at "c_o"; walk_at "c_o")
  | ((with_reducible apply atx_ins); (with_reducible assumption); walk_at "c_o"; walk_at "c_o")
  | ((with_reducible apply atx_ne); (with_reducible assumption); (with_reducible assumption); walk_at "c_o"))
local macro_rules | `(tactic| walk_at "c_q") => `(tactic| first
  | with_reducible assumption
  | ((with_reducible apply sqL_s); (with_reducible assumption); walk_at "c_q"))
local macro_rules | `(tactic| walk_at "c_t") => `(tactic| first
  | with_reducible assumption
  | ((with_reducible apply sqT_s); (with_reducible assumption); walk_at "c_t")
  | ((with_reducible apply sqT_d); (with_reducible assumption); walk_at "c_h"; walk_at "c_t")
  | ((with_reducible apply sqT_x); (with_reducible assumption); walk_at "c_o"; walk_at "c_t"))
local macro_rules | `(tactic| walk_at "c_p") => `(tactic| first
  | with_reducible assumption
  | ((with_reducible apply pairs_s); (with_reducible assumption); walk_at "c_p"))
local macro_rules | `(tactic| walk_at "at") => `(tactic| first
  | with_reducible assumption
  | with_reducible exact upd_same
  | walk_at "atx"
  | ((with_reducible apply sqL_at); walk_at "c_o")
  | ((with_reducible apply sqL_s); (with_reducible assumption); walk_at "c_q")
  | ((with_reducible apply sqT_at); walk_at "c_o")
  | ((with_reducible apply sqT_id); walk_at "c_t")
  | ((with_reducible apply hat_id); walk_at "c_h")
  | ((with_reducible apply pairs_id); walk_at "c_p")
  | ((with_reducible apply ne_id); walk_at "c_n")
  | ((with_reducible apply at_id); walk_at "c_o"))
/-! a length, an inequality -/
local macro_rules | `(tactic| walk_at "le") => `(tactic| first | exact Nat.le_of_ble_eq_true rfl | omega | (simp; done) | (simp; omega))
local macro_rules | `(tactic| walk_at "ar") => `(tactic| first | omega | exact ⟨by omega, by omega⟩ | exact .inl ⟨by omega, by omega⟩ | exact .inr ⟨by omega, by omega⟩ | exact .inr (by omega) | exact .inl (by omega) | exact ⟨by omega, by omega, by omega⟩ | decide)
/-! calls of the text's own defs, with letters for what they leave -/
local macro_rules | `(tactic| walk_at "use") => `(tactic| fail)
local macro_rules | `(tactic| walk_at "go1") => `(tactic| first
  | walk_at "rd1"
  | walk_at "fact"
  | walk_at "use"
  | with_reducible refine r_p6 ?_
  | with_reducible refine r_p8 ?_
  | with_reducible refine r_p9 ?_
  | with_reducible refine r_p10 ?_
  | with_reducible refine r_p12 ?_
  | with_reducible refine r_p14 ?_
  | with_reducible refine r_p15 ?_
  | with_reducible refine r_p17 ?_
  | with_reducible refine r_p18 ?_
  | ((with_reducible apply r_I); walk_at "ar")
  | ((with_reducible apply a_neNil); walk_at "at"; intro _ _)
  | ((with_reducible apply a_eqNil); walk_at "at"; intro _ _)
  | ((with_reducible apply a_nwT); walk_at "le"; intro _ _ _ _ _)
  | ((with_reducible apply a_nwL); walk_at "le"; intro _ _ _ _ _)
  | ((with_reducible apply r_ixL (j := 0)); walk_at "at"; rfl; rfl)
  | ((with_reducible apply r_ixL (j := 1)); walk_at "at"; rfl; rfl)
  | ((with_reducible apply r_ixL (j := 2)); walk_at "at"; rfl; rfl)
  | ((with_reducible apply r_ixL (j := 3)); walk_at "at"; rfl; rfl)
  | ((with_reducible apply r_ixT (j := 0)); walk_at "at"; rfl; rfl)
  | ((with_reducible apply r_ixT (j := 1)); walk_at "at"; rfl; rfl)
  | ((with_reducible apply r_ixT (j := 2)); walk_at "at"; rfl; rfl)
  | ((with_reducible apply a_pick2); walk_at "at"; omega; omega; intro _ _)
  | ((with_reducible apply a_pick3); walk_at "at"; omega; omega; intro _ _)
  | ((with_reducible apply a_pick4); walk_at "at"; omega; omega; intro _ _)
  | ((with_reducible apply r_gtup); walk_at "at"; rfl)
  | ((with_reducible apply a_lenLI); walk_at "at")
  | ((with_reducible apply r_lenL); walk_at "at")
  | ((with_reducible apply r_lenT); walk_at "at")
  | ((with_reducible apply r_tyL); walk_at "at")
  | ((with_reducible apply a_cat); walk_at "at"; walk_at "at"; walk_at "le"; intro _ _ _ _ _)
  | ((with_reducible apply a_listL); walk_at "at"; intro _ _ _ _ _)
  | ((with_reducible apply a_tupL); walk_at "at"; intro _ _ _ _ _)
  | ((with_reducible apply a_slL); walk_at "at"; intro _ _ _ _ _)
  | ((with_reducible apply a_revL); walk_at "at"; intro _ _ _ _ _)
  | ((with_reducible apply r_sumT); walk_at "at")
  | ((with_reducible apply r_sumL); walk_at "at")
  | ((with_reducible refine ⟨_, rfl, ?_, ?_, ?_⟩); omega; omega)
  | ((with_reducible refine ⟨_, _, rfl, ⟨?_, ?_, ?_, ?_⟩, ?_⟩); omega; omega; omega; omega)
  | with_reducible refine ⟨_, rfl, ⟨_, by walk_at "at"⟩, ?_⟩)
local macro_rules | `(tactic| walk_at "go") => `(tactic| (repeat (walk_at "go1")))
local macro_rules | `(tactic| walk_at "sames") => `(tactic| first | exact sameR | assumption | ((with_reducible apply sameB); assumption; walk_at "sames"))
local macro_rules | `(tactic| walk_at "sameds") => `(tactic| first | assumption | ((with_reducible apply sameD_of); walk_at "sames"; done) | ((with_reducible apply sameDB); assumption; walk_at "sameds") | ((with_reducible apply sameDS); assumption; walk_at "sameds"))
local macro_rules | `(tactic| walk_at "gs") => `(tactic| (repeat ((fail_if_success (with_reducible refine r_stop ?_)); (walk_at "go1"))))
/-- what an error tells -/
inductive Er | num | con | bak (p : Nat) (i : Int) | days (i : Int)
def Er.val : Er → List V
  | .num => [.str "number"]
  | .con => [.str "contradiction"]
  | .bak p i => [.str "bakery", .str (partS p), .int i]
  | .days i => [.str "days", .int i]
def Er.Is (K : PySem.W.Frag) : Er → Value → Option Addr → Hp → Prop
  | .num, c, d, _ => c = .ref (He.ga K "InvalidNumber") ∧ d = none
  | .con, c, d, _ => c = .ref (He.ga K "Contradiction") ∧ d = none
  | .bak p i, c, d, H => c = .ref (He.ga K "InvalidBakery") ∧ ∃ dd, d = some dd ∧ H dd = some (.xd [("index", .int i), ("part", .str (partS p))])
  | .days i, c, d, H => c = .ref (He.ga K "InvalidDays") ∧ ∃ dd, d = some dd ∧ H dd = some (.xd [("index", .int i)])
def erE (K : PySem.W.Frag) (Q : VK) : XK := fun c d H1 => ∃ er, Er.Is K er c d H1 ∧ ∀ p H', Same H1 H' → H' p = some (.tup er.val) → Q (.ref p) H'
def erN (Q : VK) : VK := fun _ H1 => ∀ p H', Same H1 H' → H' p = some (.tup [.str "none"]) → Q (.ref p) H'
theorem r_idxL {K : PySem.W.Frag} {a : Addr} {H : Hp} {Q : VK} {ys : List V} {y z : V} {j : Nat} (h : SqL K H a ys) (fy : flatV y = true) (fys : ys.all flatV = true) (hz : ys[j]? = some z) (e : eqV z y = true) (no : ((ys.take j).all fun z => !eqV z y) = true) (q : Q (.int (j : Nat)) H) : rIndex K (.ref a) [y] H Q :=
  ⟨a, ys, y, j, z, rfl, rfl, h, fy, fys, hz, e, fun m z' hm hz' => by
    have h2 : z' ∈ ys.take j := List.mem_of_getElem? (i := m) (by rw [List.getElem?_take_of_lt hm]; exact hz')
    have := List.all_eq_true.mp no _ h2
    simpa using this, q⟩
abbrev lamLev : Nat := 12
def spErr (P : Program) (w : World) (K : PySem.W.Frag) (mg : Str → Option Value) (base : Heap) (kl : Nat) : SpS := fun s vs H Q _ => ∃ (f : Addr) (sp : Sp), vs = [.ref f] ∧ Clo P w K mg base kl f sp s H ∧ ∀ (Q' : VK) (E' : XK), (∀ v H1, erN Q v H1 → Q' v H1) → (∀ c d H1, erE K Q c d H1 → E' c d H1) → sp [] H Q' E'
theorem ok_law_error_s {P : Program} {w : World} {K : PySem.W.Frag} {mg : Str → Option Value} {base : Heap} (T : Tx K mg) : CalS P w K mg base CX0 13 "_law_error" (spErr P w K mg base lamLev) := by
  refine cals_of (d := d_law_error) (x := "_law_error") (fn_law_error T) rfl rfl (fg_law_error T) sc_law_error (fun _ _ _ _ _ _ us hl => match us, hl with | [_], _ => rfl) (fun s vs H Q E h => ?_) (fun cdv A outer s H vs Q E hr h => ?_)
  · obtain ⟨f, sp, rfl, hc, k⟩ := h
    rfl
  obtain ⟨f, sp, rfl, hc, k⟩ := h
  refine ⟨_, (pss_cons (ps_try_as (i := 1) (c := .ref (He.ga K "LoafError")) rfl rfl sc_law_error.nd rfl (by rfl) ⟨by rfl, by decide, .inl (fg_LoafError T)⟩ LamX.takes0 (fun W pn xe tk _ => (pss_one (ps_expr (pe_cloT (k := lamLev) (i := 0) hr (by decide) tk rfl (by rfl) (.inl rfl))))) (fun a oe cls d pn hz hf => (pss_cons (ps_set (i := 2) sc_law_error.nd rfl (Or.inl rfl) (pe_lst (pa_cons (by exact (pe_callB (call_isG hz hf) (by rfl) (fn_isinstance T) bb_isinstance (pa_cons (pv 1) (pa_cons (pe_glob (v := .ref (He.ga K "Contradiction")) rfl (fg_Contradiction T) rfl) pa_nil)))) (pa_cons (by exact (pe_callB (call_isG hz hf) (by rfl) (fn_isinstance T) bb_isinstance (pa_cons (pv 1) (pa_cons (pe_glob (v := .ref (He.ga K "InvalidBakery")) rfl (fg_InvalidBakery T) rfl) pa_nil)))) (pa_cons (by exact (pe_callB (call_isG hz hf) (by rfl) (fn_isinstance T) bb_isinstance (pa_cons (pv 1) (pa_cons (pe_glob (v := .ref (He.ga K "InvalidDays")) rfl (fg_InvalidDays T) rfl) pa_nil)))) pa_nil)))))
      (pss_cons (ps_expr (pe_bmK (K := K) rfl PySem.F.plainAttrs_list PySem.F.slot_list_append PySem.F.type_list_append mt_append (pv 2) (pa_cons (by exact (pe_callB (call_isG hz hf) (by rfl) (fn_isinstance T) bb_isinstance (pa_cons (pv 1) (pa_cons (pe_glob (v := .ref (He.ga K "InvalidNumber")) rfl (fg_InvalidNumber T) rfl) pa_nil)))) pa_nil)))
      (pss_cons (ps_if (PW.pt (pw_or (pt_cmpR op_neI (pe_bmK (K := K) rfl PySem.F.plainAttrs_list PySem.F.slot_list_count PySem.F.type_list_count (mtK (K := K) rfl mt_cntL) (pv 2) (pa_cons pe_bl pa_nil)) pe_int (nomark _)) (pw_or1 (pt_not (pt_val (by exact (pe_callB (call_isG hz hf) (by rfl) (fn_isinstance T) bb_isinstance (pa_cons (pv 1) (pa_cons (pe_bltn (v := .ty "ValueError") rfl (fn_ValueError T) bb_ValueError rfl) pa_nil))))))))) (pss_one (ps_ret (pe_tup (pa_cons pe_str pa_nil)))) pss_nil)
      (pss_cons (ps_set (i := 3) sc_law_error.nd rfl (Or.inl rfl) (pe_ix (ixK (K := K) rfl ix_list) (pe_lst (pa_cons pe_str (pa_cons pe_str (pa_cons pe_str (pa_cons pe_str pa_nil))))) (pe_bmK (K := K) rfl PySem.F.plainAttrs_list PySem.F.slot_list_index PySem.F.type_list_index (mtK (K := K) rfl mt_index) (pv 2) (pa_cons pe_bl pa_nil)) (fun _ _ => rfl)))
      (pss_cons (ps_if (pt_cmpR op_eq (pv 3) pe_str (nomark _)) (pss_one (ps_ret (pe_tup (pa_cons (pv 3) (pa_cons (by exact (pe_xfG hz hf (pv 1))) (pa_cons (by exact (pe_xfG hz hf (pv 1))) pa_nil)))))) pss_nil)
      (pss_one (ps_ret (pe_ifExp (pt_cmpR op_eq (pv 3) pe_str (nomark _)) (pe_tup (pa_cons (pv 3) (pa_cons (by exact (pe_xfG hz hf (pv 1))) pa_nil))) (pe_tup (pa_cons (pv 3) pa_nil))))))))))))
      (pss_one (ps_ret (pe_tup (pa_cons pe_str pa_nil))))), ?_⟩
  try dsimp only [cxOf, Cx.nox, Cx.wish, NdefX.ncx]
  repeat rw [st_cons]
  repeat rw [st_none]
  try rw [st_nn]
  walk_at "rd"
  refine r_clo rfl rfl rfl hc (k _ _ (fun v H1 q => ?_) (fun c d H1 q => ?_))
  · walk_at "rd"
    exact a_nwT (Nat.le_of_ble_eq_true rfl) fun p H2 s2 _ e2 => q p H2 s2 e2
  · obtain ⟨er, he, q⟩ := q
    cases er with
    | num =>
      obtain ⟨rfl, rfl⟩ := he
      refine ⟨true, fxm_InvalidNumber_LoafError T, fun _ a ha => ?_, fun z => nomatch z⟩
      have C := fei_InvalidNumber T
      have i1 := fki_InvalidNumber_Contradiction T
      have i2 := fki_InvalidNumber_InvalidBakery T
      have i3 := fki_InvalidNumber_InvalidDays T
      have i4 := fki_InvalidNumber_InvalidNumber T
      have i5 := fki_InvalidNumber_ValueError T
      walk_at "rd"
      refine r_isG C (.inl rfl) i1 ?_
      walk_at "rd"
      refine r_isG C (.inl rfl) i2 ?_
      walk_at "rd"
      refine r_isG C (.inl rfl) i3 ?_
      walk_at "rd"
      refine a_nwL (by decide) fun L H2 s2 n2 e2 => ?_
      walk_at "go"
      refine r_isG C (.inl rfl) i4 ?_
      walk_at "go"
      refine r_append e2 (by decide) ?_
      have s3 : Same H1 (upd H2 L (.lst ([.bl false, .bl false, .bl false] ++ [.bl true]))) := same_mut s2 n2
      have e3 : (upd H2 L (.lst ([.bl false, .bl false, .bl false] ++ [.bl true]))) L = some (.lst [.bl false, .bl false, .bl false, .bl true]) := upd_same
      generalize upd H2 L (.lst ([V.bl false, V.bl false, V.bl false] ++ [V.bl true])) = H3 at s3 e3 ⊢
      walk_at "go"
      refine r_cntL (n := 1) (sqL_at e3) rfl rfl rfl ?_
      walk_at "go"
      refine iN' rfl ?_
      walk_at "go"
      refine r_isGT C (.inl rfl) i5 ?_
      walk_at "go"
      rename_i p4 H4 s4 n4 e4
      refine r_idxL (j := 3) (sqL_at (s4 _ _ e3)) rfl rfl rfl rfl rfl ?_
      walk_at "go"
      refine r_eqS rfl ⟨_, rfl, ?_⟩
      refine iN (by decide) ?_
      walk_at "go"
      refine r_eqS rfl ⟨_, rfl, ?_⟩
      refine iN (by decide) ?_
      walk_at "go"
      exact q _ _ (by walk_at "sames") (by assumption)
    | con =>
      obtain ⟨rfl, rfl⟩ := he
      refine ⟨true, fxm_Contradiction_LoafError T, fun _ a ha => ?_, fun z => nomatch z⟩
      have C := fei_Contradiction T
      have i1 := fki_Contradiction_Contradiction T
      have i2 := fki_Contradiction_InvalidBakery T
      have i3 := fki_Contradiction_InvalidDays T
      have i4 := fki_Contradiction_InvalidNumber T
      have i5 := fki_Contradiction_ValueError T
      walk_at "rd"
      refine r_isG C (.inl rfl) i1 ?_
      walk_at "rd"
      refine r_isG C (.inl rfl) i2 ?_
      walk_at "rd"
      refine r_isG C (.inl rfl) i3 ?_
      walk_at "rd"
      refine a_nwL (by decide) fun L H2 s2 n2 e2 => ?_
      walk_at "go"
      refine r_isG C (.inl rfl) i4 ?_
      walk_at "go"
      refine r_append e2 (by decide) ?_
      have s3 : Same H1 (upd H2 L (.lst ([.bl true, .bl false, .bl false] ++ [.bl false]))) := same_mut s2 n2
      have e3 : (upd H2 L (.lst ([.bl true, .bl false, .bl false] ++ [.bl false]))) L = some (.lst [.bl true, .bl false, .bl false, .bl false]) := upd_same
      generalize upd H2 L (.lst ([V.bl true, V.bl false, V.bl false] ++ [V.bl false])) = H3 at s3 e3 ⊢
      walk_at "go"
      refine r_cntL (n := 1) (sqL_at e3) rfl rfl rfl ?_
      walk_at "go"
      refine iN' rfl ?_
      walk_at "go"
      refine r_isGT C (.inl rfl) i5 ?_
      walk_at "go"
      rename_i p4 H4 s4 n4 e4
      refine r_idxL (j := 0) (sqL_at (s4 _ _ e3)) rfl rfl rfl rfl rfl ?_
      walk_at "go"
      refine r_eqS rfl ⟨_, rfl, ?_⟩
      refine iN (by decide) ?_
      walk_at "go"
      refine r_eqS rfl ⟨_, rfl, ?_⟩
      refine iN (by decide) ?_
      walk_at "go"
      exact q _ _ (by walk_at "sames") (by assumption)
    | bak p i =>
      obtain ⟨rfl, dd, rfl, hd⟩ := he
      refine ⟨true, fxm_InvalidBakery_LoafError T, fun _ a ha => ?_, fun z => nomatch z⟩
      have C := fei_InvalidBakery T
      have i1 := fki_InvalidBakery_Contradiction T
      have i2 := fki_InvalidBakery_InvalidBakery T
      have i3 := fki_InvalidBakery_InvalidDays T
      have i4 := fki_InvalidBakery_InvalidNumber T
      have i5 := fki_InvalidBakery_ValueError T
      walk_at "rd"
      refine r_isG C (.inr ⟨dd, _, rfl, hd⟩) i1 ?_
      walk_at "rd"
      refine r_isG C (.inr ⟨dd, _, rfl, hd⟩) i2 ?_
      walk_at "rd"
      refine r_isG C (.inr ⟨dd, _, rfl, hd⟩) i3 ?_
      walk_at "rd"
      refine a_nwL (by decide) fun L H2 s2 n2 e2 => ?_
      walk_at "go"
      refine r_isG C (.inr ⟨dd, _, rfl, (s2 _ _ hd)⟩) i4 ?_
      walk_at "go"
      refine r_append e2 (by decide) ?_
      have s3 : Same H1 (upd H2 L (.lst ([.bl false, .bl true, .bl false] ++ [.bl false]))) := same_mut s2 n2
      have e3 : (upd H2 L (.lst ([.bl false, .bl true, .bl false] ++ [.bl false]))) L = some (.lst [.bl false, .bl true, .bl false, .bl false]) := upd_same
      generalize upd H2 L (.lst ([V.bl false, V.bl true, V.bl false] ++ [V.bl false])) = H3 at s3 e3 ⊢
      walk_at "go"
      refine r_cntL (n := 1) (sqL_at e3) rfl rfl rfl ?_
      walk_at "go"
      refine iN' rfl ?_
      walk_at "go"
      refine r_isGT C (.inr ⟨dd, _, rfl, (s3 _ _ hd)⟩) i5 ?_
      walk_at "go"
      rename_i p4 H4 s4 n4 e4
      refine r_idxL (j := 1) (sqL_at (s4 _ _ e3)) rfl rfl rfl rfl rfl ?_
      walk_at "go"
      refine r_eqS rfl ⟨_, rfl, ?_⟩
      refine iY rfl ?_
      walk_at "go"
      refine r_xf ?_
      walk_at "rd"
      refine ⟨rfl, _, _, _, _, rfl, (fox_InvalidBakery T).x, fxn_InvalidBakery_part T, rfl, s4 _ _ (s3 _ _ hd), rfl, ?_⟩
      walk_at "rd"
      refine r_xf ?_
      walk_at "rd"
      refine ⟨rfl, _, _, _, _, rfl, (fox_InvalidBakery T).x, fxn_InvalidBakery_index T, rfl, s4 _ _ (s3 _ _ hd), rfl, ?_⟩
      walk_at "go"
      exact q _ _ (by walk_at "sames") (by assumption)
    | days i =>
      obtain ⟨rfl, dd, rfl, hd⟩ := he
      refine ⟨true, fxm_InvalidDays_LoafError T, fun _ a ha => ?_, fun z => nomatch z⟩
      have C := fei_InvalidDays T
      have i1 := fki_InvalidDays_Contradiction T
      have i2 := fki_InvalidDays_InvalidBakery T
      have i3 := fki_InvalidDays_InvalidDays T
      have i4 := fki_InvalidDays_InvalidNumber T
      have i5 := fki_InvalidDays_ValueError T
      walk_at "rd"
      refine r_isG C (.inr ⟨dd, _, rfl, hd⟩) i1 ?_
      walk_at "rd"
      refine r_isG C (.inr ⟨dd, _, rfl, hd⟩) i2 ?_
      walk_at "rd"
      refine r_isG C (.inr ⟨dd, _, rfl, hd⟩) i3 ?_
      walk_at "rd"
      refine a_nwL (by decide) fun L H2 s2 n2 e2 => ?_
      walk_at "go"
      refine r_isG C (.inr ⟨dd, _, rfl, (s2 _ _ hd)⟩) i4 ?_
      walk_at "go"
      refine r_append e2 (by decide) ?_
      have s3 : Same H1 (upd H2 L (.lst ([.bl false, .bl false, .bl true] ++ [.bl false]))) := same_mut s2 n2
      have e3 : (upd H2 L (.lst ([.bl false, .bl false, .bl true] ++ [.bl false]))) L = some (.lst [.bl false, .bl false, .bl true, .bl false]) := upd_same
      generalize upd H2 L (.lst ([V.bl false, V.bl false, V.bl true] ++ [V.bl false])) = H3 at s3 e3 ⊢
      walk_at "go"
      refine r_cntL (n := 1) (sqL_at e3) rfl rfl rfl ?_
      walk_at "go"
      refine iN' rfl ?_
      walk_at "go"
      refine r_isGT C (.inr ⟨dd, _, rfl, (s3 _ _ hd)⟩) i5 ?_
      walk_at "go"
      rename_i p4 H4 s4 n4 e4
      refine r_idxL (j := 2) (sqL_at (s4 _ _ e3)) rfl rfl rfl rfl rfl ?_
      walk_at "go"
      refine r_eqS rfl ⟨_, rfl, ?_⟩
      refine iN (by decide) ?_
      walk_at "go"
      refine r_eqS rfl ⟨_, rfl, ?_⟩
      refine iY rfl ?_
      walk_at "go"
      refine r_xf ?_
      walk_at "rd"
      refine ⟨rfl, _, _, _, _, rfl, (fox_InvalidDays T).x, fxn_InvalidDays_index T, rfl, s4 _ _ (s3 _ _ hd), rfl, ?_⟩
      walk_at "go"
      exact q _ _ (by walk_at "sames") (by assumption)

end G57
end
section
set_option maxRecDepth 100000
set_option maxHeartbeats 4000000
namespace G57
open PySem PySem.Spec PyProof.Rows L2
/-! the walk's small steps: "rd" reads on as far as it can -/
local macro_rules | `(tactic| walk_at "fact") => `(tactic| fail)
local macro_rules | `(tactic| walk_at "rd1") => `(tactic| with_reducible first
  | (refine v_id ?_; first | refine r_var_0 ?_ | refine r_var_1 ?_ | refine r_var_2 ?_ | refine r_var_3 ?_ | refine r_var_4 ?_ | refine r_var_5 ?_ | refine r_var_6 ?_ | refine r_var_7 ?_ | refine r_var_8 ?_ | refine r_var_9 ?_ | refine r_var_10 ?_ | refine r_var_11 ?_ | refine r_var_12 ?_ | refine r_var_13 ?_ | refine r_var_14 ?_ | refine r_var_15 ?_ | refine r_var_16 ?_ | refine r_var_17 ?_ | refine r_var_18 ?_ | refine r_var_19 ?_ | refine r_var_20 ?_ | refine r_var_21 ?_ | refine r_var_22 ?_ | refine r_var_23 ?_ | refine r_var_24 ?_ | refine r_var_25 ?_ | refine r_var_26 ?_ | refine r_var_27 ?_ | refine r_var rfl ?_)
  | (refine s_id ?_; first | refine r_set_0 ?_ | refine r_set_1 ?_ | refine r_set_2 ?_ | refine r_set_3 ?_ | refine r_set_4 ?_ | refine r_set_5 ?_ | refine r_set_6 ?_ | refine r_set_7 ?_ | refine r_set_8 ?_ | refine r_set_9 ?_ | refine r_set_10 ?_ | refine r_set_11 ?_ | refine r_set_12 ?_ | refine r_set_13 ?_ | refine r_set_14 ?_ | refine r_set_15 ?_ | refine r_set_16 ?_ | refine r_set_17 ?_ | refine r_set_18 ?_ | refine r_set_19 ?_ | refine r_set_20 ?_ | refine r_set_21 ?_ | refine r_set_22 ?_ | refine r_set_23 ?_ | refine r_set_24 ?_ | refine r_set_25 ?_ | refine r_set_26 ?_ | refine r_set_27 ?_ | refine r_setU ?_)
  | refine r_c ?_
  | refine r_op ?_
  | refine r_I0 ?_
  | refine r_seq ?_
  | refine r_asg ?_
  | refine r_fld ?_
  | refine r_nil ?_
  | refine r_cons ?_
  | refine r_cb ?_
  | refine r_max ?_
  | refine r_min ?_
  | refine r_ret ?_
  | refine r_met ?_
  | refine r_call ?_
  | refine r_B ?_
  | refine r_test ?_
  | refine r_b' ?_
  | refine r_ifS ?_
  | refine r_if ?_
  | refine r_par ?_
  | refine r_par2 ?_
  | refine r_drop ?_
  | refine r_next ?_
  | refine r_make ?_
  | refine r_sfld ?_
  | refine r_int1 ?_
  | refine r_intb ?_
  | refine r_and ?_
  | refine r_or ?_
  | refine r_not ?_
  | refine r_chain ?_
  | refine r_isN ?_
  | refine r_notN ?_
  | refine r_un ?_
  | refine r_U ?_
  | refine r_par3 ?_
  | refine r_par33 ?_
  | refine r_tup ?_
  | refine r_lst ?_
  | refine r_prop ?_
  | refine r_bm ?_
  | refine r_bm0 ?_
  | refine r_andV ?_
  | refine r_orV ?_
  | refine r_notV ?_
  | refine r_asgG ?_
  | refine r_gname ?_
  | refine r_gcons ?_
  | refine r_gnil ?_
  | refine r_rng1 ?_
  | refine r_rng2 ?_
  | refine r_for ?_
  | refine r_lc1 ?_
  | refine r_lc2 ?_
  | refine r_lc3 ?_
  | refine r_lc ?_
  | refine r_while ?_
  | refine r_rev ?_
  | refine r_sl ?_
  | refine r_augS ?_
  | refine r_iL ?_
  | refine r_iT ?_
  | refine r_iE ?_
  | refine r_ipI ?_
  | refine r_aug rfl ?_
  | refine r_cval ?_
  | refine r_turnN ?_
  | refine iT ?_
  | refine iNT ?_
  | refine iNF ?_
  | refine iOF ?_
  | refine iF ?_
  | refine r_part ?_
  | refine r_pi ?_
  | refine r_gsub ?_
  | refine r_noPart ?_)
local macro_rules | `(tactic| walk_at "rd") => `(tactic| (repeat (first | walk_at "rd1" | walk_at "fact")))
local macro_rules | `(tactic| walk_at "plen") => `(tactic| (repeat (first | decide | refine putF_lt ?_)))
local macro_rules | `(tactic| walk_at "rs") => `(tactic| (repeat ((fail_if_success (with_reducible refine r_stop ?_)); (first | walk_at "rd1" | walk_at "fact"))))
/-! finding a fact in the present heap by the way back; each rule is applied by its conclusion before its premises are sought -/
local macro_rules | `(tactic| walk_at "atx") => `(tactic| fail)
local macro_rules | `(tactic| walk_at "c_h") => `(tactic| first
  | with_reducible assumption
  | ((with_reducible apply hat_s); (with_reducible assumption); walk_at "c_h"))
local macro_rules | `(tactic| walk_at "c_n") => `(tactic| first
  | with_reducible assumption
  | ((with_reducible apply hat_ne); (with_reducible assumption); walk_at "c_h"))
local macro_rules | `(tactic| walk_at "c_o") => `(tactic| first
  | with_reducible assumption
  | with_reducible exact upd_same
  | ((with_reducible apply at_s); (with_reducible assumption); walk_at "c_o")
  | ((with_reducible apply atd_tup); (with_reducible assumption); walk_at "c_h"; walk_at "c_o")
  | ((with_reducible apply atd_ins); (with_reducible assumption); walk_at "c_h"; walk_at "c_o")
  | ((with_reducible apply atd_lst); (with_reducible assumption); walk_at "c_n"; walk_at "c_o")
  | ((with_reducible apply atx_tup); (with_reducible assumption); walk_at "c_o"; walk_at "c_o")
  | ((with_reducible apply atx_ins); (with_reducible assumption); walk_at "c_o"; walk_at "c_o")
  | ((with_reducible apply atx_ne); (with_reducible assumption); (with_reducible assumption); walk_at "c_o"))
local macro_rules | `(tactic| walk_at "c_q") => `(tactic| first
  | with_reducible assumption
  | ((with_reducible apply sqL_s); (with_reducible assumption); walk_at "c_q"))
local macro_rules | `(tactic| walk_at "c_t") => `(tactic| first
  | with_reducible assumption
  | ((with_reducible apply sqT_s); (with_reducible assumption); walk_at "c_t")
  | ((with_reducible apply sqT_d); (with_reducible assumption); walk_at "c_h"; walk_at "c_t")
  | ((with_reducible apply sqT_x); (with_reducible assumption); walk_at "c_o"; walk_at "c_t"))
local macro_rules | `(tactic| walk_at "c_p") => `(tactic| first
  | with_reducible assumption
  | ((with_reducible apply pairs_s); (with_reducible assumption); walk_at "c_p"))
local macro_rules | `(tactic| walk_at "at") => `(tactic| first
  | with_reducible assumption
  | with_reducible exact upd_same
  | walk_at "atx"
  | ((with_reducible apply sqL_at); walk_at "c_o")
  | ((with_reducible apply sqL_s); (with_reducible assumption); walk_at "c_q")
  | ((with_reducible apply sqT_at); walk_at "c_o")
  | ((with_reducible apply sqT_id); walk_at "c_t")
  | ((with_reducible apply hat_id); walk_at "c_h")
  | ((with_reducible apply pairs_id); walk_at "c_p")
  | ((with_reducible apply ne_id); walk_at "c_n")
  | ((with_reducible apply at_id); walk_at "c_o"))
/-! a length, an inequality -/
local macro_rules | `(tactic| walk_at "le") => `(tactic| first | exact Nat.le_of_ble_eq_true rfl | omega | (simp; done) | (simp; omega))
local macro_rules | `(tactic| walk_at "ar") => `(tactic| first | omega | exact ⟨by omega, by omega⟩ | exact .inl ⟨by omega, by omega⟩ | exact .inr ⟨by omega, by omega⟩ | exact .inr (by omega) | exact .inl (by omega) | exact ⟨by omega, by omega, by omega⟩ | decide)
/-! calls of the text's own defs, with letters for what they leave -/
local macro_rules | `(tactic| walk_at "use") => `(tactic| fail)
local macro_rules | `(tactic| walk_at "go1") => `(tactic| first
  | walk_at "rd1"
  | walk_at "fact"
  | walk_at "use"
  | with_reducible refine r_p6 ?_
  | with_reducible refine r_p8 ?_
  | with_reducible refine r_p9 ?_
  | with_reducible refine r_p10 ?_
  | with_reducible refine r_p12 ?_
  | with_reducible refine r_p14 ?_
  | with_reducible refine r_p15 ?_
  | with_reducible refine r_p17 ?_
  | with_reducible refine r_p18 ?_
  | ((with_reducible apply r_I); walk_at "ar")
  | ((with_reducible apply a_neNil); walk_at "at"; intro _ _)
  | ((with_reducible apply a_eqNil); walk_at "at"; intro _ _)
  | ((with_reducible apply a_nwT); walk_at "le"; intro _ _ _ _ _)
  | ((with_reducible apply a_nwL); walk_at "le"; intro _ _ _ _ _)
  | ((with_reducible apply r_ixL (j := 0)); walk_at "at"; rfl; rfl)
  | ((with_reducible apply r_ixL (j := 1)); walk_at "at"; rfl; rfl)
  | ((with_reducible apply r_ixL (j := 2)); walk_at "at"; rfl; rfl)
  | ((with_reducible apply r_ixL (j := 3)); walk_at "at"; rfl; rfl)
  | ((with_reducible apply r_ixT (j := 0)); walk_at "at"; rfl; rfl)
  | ((with_reducible apply r_ixT (j := 1)); walk_at "at"; rfl; rfl)
  | ((with_reducible apply r_ixT (j := 2)); walk_at "at"; rfl; rfl)
  | ((with_reducible apply a_pick2); walk_at "at"; omega; omega; intro _ _)
  | ((with_reducible apply a_pick3); walk_at "at"; omega; omega; intro _ _)
  | ((with_reducible apply a_pick4); walk_at "at"; omega; omega; intro _ _)
  | ((with_reducible apply r_gtup); walk_at "at"; rfl)
  | ((with_reducible apply a_lenLI); walk_at "at")
  | ((with_reducible apply r_lenL); walk_at "at")
  | ((with_reducible apply r_lenT); walk_at "at")
  | ((with_reducible apply r_tyL); walk_at "at")
  | ((with_reducible apply a_cat); walk_at "at"; walk_at "at"; walk_at "le"; intro _ _ _ _ _)
  | ((with_reducible apply a_listL); walk_at "at"; intro _ _ _ _ _)
  | ((with_reducible apply a_tupL); walk_at "at"; intro _ _ _ _ _)
  | ((with_reducible apply a_slL); walk_at "at"; intro _ _ _ _ _)
  | ((with_reducible apply a_revL); walk_at "at"; intro _ _ _ _ _)
  | ((with_reducible apply r_sumT); walk_at "at")
  | ((with_reducible apply r_sumL); walk_at "at")
  | ((with_reducible refine ⟨_, rfl, ?_, ?_, ?_⟩); omega; omega)
  | ((with_reducible refine ⟨_, _, rfl, ⟨?_, ?_, ?_, ?_⟩, ?_⟩); omega; omega; omega; omega)
  | with_reducible refine ⟨_, rfl, ⟨_, by walk_at "at"⟩, ?_⟩)
local macro_rules | `(tactic| walk_at "go") => `(tactic| (repeat (walk_at "go1")))
local macro_rules | `(tactic| walk_at "sames") => `(tactic| first | exact sameR | assumption | ((with_reducible apply sameB); assumption; walk_at "sames"))
local macro_rules | `(tactic| walk_at "sameds") => `(tactic| first | assumption | ((with_reducible apply sameD_of); walk_at "sames"; done) | ((with_reducible apply sameDB); assumption; walk_at "sameds") | ((with_reducible apply sameDS); assumption; walk_at "sameds"))
local macro_rules | `(tactic| walk_at "gs") => `(tactic| (repeat ((fail_if_success (with_reducible refine r_stop ?_)); (walk_at "go1"))))
local macro_rules | `(tactic| walk_at "c_d") => `(tactic| first
  | with_reducible assumption
  | ((with_reducible apply bakD_s); (with_reducible assumption); walk_at "c_d")
  | ((with_reducible apply bakD_d); (with_reducible assumption); walk_at "c_h"; walk_at "c_d"))
local macro_rules | `(tactic| walk_at "c_b") => `(tactic| first
  | with_reducible assumption
  | ((with_reducible apply bakAt_s); (with_reducible assumption); walk_at "c_b"))
local macro_rules | `(tactic| walk_at "c_a") => `(tactic| first
  | with_reducible assumption
  | ((with_reducible apply bakAt_D); walk_at "c_d")
  | walk_at "c_b")
local macro_rules | `(tactic| walk_at "c_m1") => `(tactic| first
  | with_reducible assumption
  | ((with_reducible apply bakM_s); (with_reducible assumption); walk_at "c_m1"))
local macro_rules | `(tactic| walk_at "c_m") => `(tactic| first
  | with_reducible assumption
  | ((with_reducible apply bakM_at); walk_at "c_a")
  | walk_at "c_m1")
local macro_rules | `(tactic| walk_at "atx") => `(tactic| first
  | ((with_reducible apply bakD_id); walk_at "c_d")
  | ((with_reducible apply bakAt_id); walk_at "c_a")
  | ((with_reducible apply bakM_id); walk_at "c_m")
  | ((with_reducible apply bakC_M); walk_at "c_m"))
local macro_rules | `(tactic| walk_at "ok") => `(tactic| first | assumption | exact BakD.ok (by assumption) | exact BakAt.ok (by assumption))
local macro_rules | `(tactic| walk_at "use") => `(tactic| first
  | ((with_reducible apply mBk); walk_at "at"; decide)
  | ((with_reducible apply pBk); walk_at "at")
  | ((with_reducible apply use_stk); walk_at "at"; omega; omega; intro _ _)
  | ((with_reducible apply use_msd); walk_at "at"; omega; omega; intro _ _)
  | ((with_reducible apply use_thn); walk_at "at"; omega; omega; intro _ _)
  | ((with_reducible apply use_sld); walk_at "at"; omega; omega; intro _ _)
  | ((with_reducible apply use_tot); walk_at "at"; omega; omega; intro _ _ _ _)
  | ((with_reducible apply use_shf); walk_at "at"; omega; omega; intro _ _ _ _ _ _)
  | ((with_reducible apply use_sdy); walk_at "at"; intro _ _ _)
  | ((with_reducible apply use_lrn); walk_at "at"; intro _ _ _ _)
  | ((with_reducible apply use_bks); walk_at "at"; intro _ _)
  | ((with_reducible apply use_dms); walk_at "at"; intro _ _)
  | ((with_reducible apply use_lif); walk_at "at")
  | ((with_reducible apply use_nxt); walk_at "at"; omega; omega; intro _ _ _ _ _ _)
  | ((with_reducible apply use_num); omega; omega)
  | ((with_reducible apply use_liv); walk_at "at"; (exact liv_ok (by walk_at "ok") (by omega) (by omega)); intro _ _ _ _)
  | ((with_reducible apply use_mor); walk_at "at"; assumption; intro _ _ _ _)
  | ((with_reducible apply a_maxB); walk_at "at"; walk_at "ok"; intro _ _ _)
  | ((with_reducible apply a_minB); walk_at "at"; walk_at "ok"; intro _ _ _)
  | with_reducible refine r_cvalR (fcv_Bakery_MAX_LIFE ‹_›) ?_
  | ((with_reducible apply a_lenTB); walk_at "at")
  | ((with_reducible apply a_lenTD); walk_at "at"; walk_at "ok")
  | ((with_reducible apply a_ixD); walk_at "at"; walk_at "ok")
  | ((with_reducible apply a_ixB); walk_at "at"; walk_at "ok"; omega))
local macro_rules | `(tactic| walk_at "alk") => `(tactic| first
  | ((with_reducible apply alk_tup); walk_at "at"; walk_at "at"; walk_at "le")
  | ((with_reducible apply alk_lst); walk_at "at"; walk_at "at"; walk_at "le")
  | ((with_reducible apply use_alkL); walk_at "at"; walk_at "at"; walk_at "le")
  | ((with_reducible apply use_alkT); walk_at "at"; walk_at "at"; walk_at "le"))
def NumE (K : PySem.W.Frag) (E : XK) (H : Hp) : Prop := ∀ H', Same H H' → E (.ref (He.ga K "InvalidNumber")) none H'
def spNumX (K : PySem.W.Frag) : Sp := fun vs H _ E => ∃ n lo hi : Int, vs = [.int n, .int lo, .int hi] ∧ (n < lo ∨ hi < n) ∧ NumE K E H
theorem ok_validate_number_x {P : Program} {w : World} {K : PySem.W.Frag} {mg : Str → Option Value} {base : Heap} (T : Tx K mg) : CalX P w K mg base 1 "validate_number" (spNumX K) := by
  refine calX_of (d := d_validate_number) (x := "validate_number") (fn_validate_number T) rfl rfl (fg_validate_number T) sc_validate_number (fun _ _ _ _ _ _ us hl => match us, hl with | [_, _, _], _ => rfl) (fun vs H Q E h => ?_) (fun cdv A outer s H vs Q E hr h => ?_)
  · obtain ⟨n, lo, hi, rfl, h, k⟩ := h
    rfl
  obtain ⟨n, lo, hi, rfl, h, k⟩ := h
  refine ⟨_, (pss_one (ps_if (pt_not (pt_chain op_le op_le (pv 1) (pv 0) (pv 2))) (pss_one (ps_rz rfl rfl rfl rfl rfl (fex_InvalidNumber T) (fg_InvalidNumber T) (by rfl))) pss_nil)), ?_⟩
  try dsimp only [cxOf, Cx.nox, Cx.wish, NdefX.ncx]
  repeat rw [st_cons]
  repeat rw [st_none]
  try rw [st_nn]
  walk_at "rd"
  refine i2 (fun c => ?_) (fun c => ?_)
  · walk_at "rd"
    refine iY' (by omega) ?_
    exact r_rz (k _ sameR)
  · walk_at "rd"
    exact r_rz (k _ sameR)
theorem use_numX {K : PySem.W.Frag} {H : Hp} {Q : VK} {E : XK} {x lo hi : Int} (h : x < lo ∨ hi < x) (q : NumE K E H) : spNumX K [.int x, .int lo, .int hi] H Q E := ⟨x, lo, hi, rfl, h, q⟩
def spNX (K : PySem.W.Frag) (lo hi : Int) : Sp := fun vs H _ E => ∃ (v : V) (x : Int), vs = [v, .int x] ∧ (x < lo ∨ hi < x) ∧ NumE K E H
theorem use_nX {K : PySem.W.Frag} {H : Hp} {Q : VK} {E : XK} {v : V} {x lo hi : Int} (h : x < lo ∨ hi < x) (q : NumE K E H) : spNX K lo hi [v, .int x] H Q E := ⟨v, x, rfl, h, q⟩
theorem ok_Bakery_stock_x {P : Program} {w : World} {K : PySem.W.Frag} {mg : Str → Option Value} {base : Heap} (T : Tx K mg) : MetX P w K mg base 2 (He.ga K "Bakery") "stock" (spNX K 0 1000000000000000000) := by
  have G_validate_number_x := ok_validate_number_x (P := P) (w := w) (base := base) T
  refine metX_of (d := d_Bakery_stock) (C := "Bakery") (m := "stock") (fn_Bakery_stock T) rfl rfl (fc_Bakery T) (fme_Bakery_stock T) sc_Bakery_stock (fun _ _ _ _ _ _ us hl => match us, hl with | [_, _], _ => rfl) (fun vs H Q E h => ?_) (fun cdv A outer s H vs Q E hr h => ?_)
  · obtain ⟨v, x, rfl, h, k⟩ := h
    rfl
  obtain ⟨v, x, rfl, h, k⟩ := h
  refine ⟨_, (pss_cons (ps_expr (pe_cX G_validate_number_x hr (by decide) (by rfl) (passes_call (takes_of rfl rfl rfl rfl) fun _ _ _ _ h => h) (pa_cons (pv 1) (pa_cons pe_int (pa_cons (C8.pe_gc rfl (gc_int (fi_MAX_DAY T))) pa_nil))))) (pss_one ps_never)), ?_⟩
  try dsimp only [cxOf, Cx.nox, Cx.wish, NdefX.ncx]
  repeat rw [st_cons]
  repeat rw [st_none]
  try rw [st_nn]
  walk_at "rd"
  exact use_numX h k
theorem ok_Bakery_missed_x {P : Program} {w : World} {K : PySem.W.Frag} {mg : Str → Option Value} {base : Heap} (T : Tx K mg) : MetX P w K mg base 2 (He.ga K "Bakery") "missed" (spNX K 0 1000000000000000000) := by
  have G_validate_number_x := ok_validate_number_x (P := P) (w := w) (base := base) T
  refine metX_of (d := d_Bakery_missed) (C := "Bakery") (m := "missed") (fn_Bakery_missed T) rfl rfl (fc_Bakery T) (fme_Bakery_missed T) sc_Bakery_missed (fun _ _ _ _ _ _ us hl => match us, hl with | [_, _], _ => rfl) (fun vs H Q E h => ?_) (fun cdv A outer s H vs Q E hr h => ?_)
  · obtain ⟨v, x, rfl, h, k⟩ := h
    rfl
  obtain ⟨v, x, rfl, h, k⟩ := h
  refine ⟨_, (pss_cons (ps_expr (pe_cX G_validate_number_x hr (by decide) (by rfl) (passes_call (takes_of rfl rfl rfl rfl) fun _ _ _ _ h => h) (pa_cons (pv 1) (pa_cons pe_int (pa_cons (C8.pe_gc rfl (gc_int (fi_MAX_DAY T))) pa_nil))))) (pss_one ps_never)), ?_⟩
  try dsimp only [cxOf, Cx.nox, Cx.wish, NdefX.ncx]
  repeat rw [st_cons]
  repeat rw [st_none]
  try rw [st_nn]
  walk_at "rd"
  exact use_numX h k
theorem ok_Bakery_thrown_x {P : Program} {w : World} {K : PySem.W.Frag} {mg : Str → Option Value} {base : Heap} (T : Tx K mg) : MetX P w K mg base 2 (He.ga K "Bakery") "thrown" (spNX K 0 1000000000000000000) := by
  have G_validate_number_x := ok_validate_number_x (P := P) (w := w) (base := base) T
  refine metX_of (d := d_Bakery_thrown) (C := "Bakery") (m := "thrown") (fn_Bakery_thrown T) rfl rfl (fc_Bakery T) (fme_Bakery_thrown T) sc_Bakery_thrown (fun _ _ _ _ _ _ us hl => match us, hl with | [_, _], _ => rfl) (fun vs H Q E h => ?_) (fun cdv A outer s H vs Q E hr h => ?_)
  · obtain ⟨v, x, rfl, h, k⟩ := h
    rfl
  obtain ⟨v, x, rfl, h, k⟩ := h
  refine ⟨_, (pss_cons (ps_expr (pe_cX G_validate_number_x hr (by decide) (by rfl) (passes_call (takes_of rfl rfl rfl rfl) fun _ _ _ _ h => h) (pa_cons (pv 1) (pa_cons pe_int (pa_cons (C8.pe_gc rfl (gc_int (fi_MAX_DAY T))) pa_nil))))) (pss_one ps_never)), ?_⟩
  try dsimp only [cxOf, Cx.nox, Cx.wish, NdefX.ncx]
  repeat rw [st_cons]
  repeat rw [st_none]
  try rw [st_nn]
  walk_at "rd"
  exact use_numX h k
theorem ok_Bakery_shelf_x {P : Program} {w : World} {K : PySem.W.Frag} {mg : Str → Option Value} {base : Heap} (T : Tx K mg) : MetX P w K mg base 2 (He.ga K "Bakery") "shelf" (spNX K 0 1000000000000000000) := by
  have G_validate_number_x := ok_validate_number_x (P := P) (w := w) (base := base) T
  refine metX_of (d := d_Bakery_shelf) (C := "Bakery") (m := "shelf") (fn_Bakery_shelf T) rfl rfl (fc_Bakery T) (fme_Bakery_shelf T) sc_Bakery_shelf (fun _ _ _ _ _ _ us hl => match us, hl with | [_, _], _ => rfl) (fun vs H Q E h => ?_) (fun cdv A outer s H vs Q E hr h => ?_)
  · obtain ⟨v, x, rfl, h, k⟩ := h
    rfl
  obtain ⟨v, x, rfl, h, k⟩ := h
  refine ⟨_, (pss_cons (ps_expr (pe_cX G_validate_number_x hr (by decide) (by rfl) (passes_call (takes_of rfl rfl rfl rfl) fun _ _ _ _ h => h) (pa_cons (pv 1) (pa_cons pe_int (pa_cons (C8.pe_gc rfl (gc_int (fi_MAX_DAY T))) pa_nil))))) (pss_cons ps_never (pss_cons ps_never (pss_one ps_never)))), ?_⟩
  try dsimp only [cxOf, Cx.nox, Cx.wish, NdefX.ncx]
  repeat rw [st_cons]
  repeat rw [st_none]
  try rw [st_nn]
  walk_at "rd"
  exact use_numX h k
theorem ok_Bakery_totals_x {P : Program} {w : World} {K : PySem.W.Frag} {mg : Str → Option Value} {base : Heap} (T : Tx K mg) : MetX P w K mg base 2 (He.ga K "Bakery") "totals" (spNX K 0 1000000000000000000) := by
  have G_validate_number_x := ok_validate_number_x (P := P) (w := w) (base := base) T
  refine metX_of (d := d_Bakery_totals) (C := "Bakery") (m := "totals") (fn_Bakery_totals T) rfl rfl (fc_Bakery T) (fme_Bakery_totals T) sc_Bakery_totals (fun _ _ _ _ _ _ us hl => match us, hl with | [_, _], _ => rfl) (fun vs H Q E h => ?_) (fun cdv A outer s H vs Q E hr h => ?_)
  · obtain ⟨v, x, rfl, h, k⟩ := h
    rfl
  obtain ⟨v, x, rfl, h, k⟩ := h
  refine ⟨_, (pss_cons (ps_expr (pe_cX G_validate_number_x hr (by decide) (by rfl) (passes_call (takes_of rfl rfl rfl rfl) fun _ _ _ _ h => h) (pa_cons (pv 1) (pa_cons pe_int (pa_cons (C8.pe_gc rfl (gc_int (fi_MAX_DAY T))) pa_nil))))) (pss_cons ps_never (pss_cons ps_never (pss_cons ps_never (pss_cons ps_never (pss_cons ps_never (pss_one ps_never))))))), ?_⟩
  try dsimp only [cxOf, Cx.nox, Cx.wish, NdefX.ncx]
  repeat rw [st_cons]
  repeat rw [st_none]
  try rw [st_nn]
  walk_at "rd"
  exact use_numX h k
theorem ok_next_missed_x {P : Program} {w : World} {K : PySem.W.Frag} {mg : Str → Option Value} {base : Heap} (T : Tx K mg) : CalX P w K mg base 2 "next_missed" (spNX K 0 1000000000000000000) := by
  have G_validate_number_x := ok_validate_number_x (P := P) (w := w) (base := base) T
  refine calX_of (d := d_next_missed) (x := "next_missed") (fn_next_missed T) rfl rfl (fg_next_missed T) sc_next_missed (fun _ _ _ _ _ _ us hl => match us, hl with | [_, _], _ => rfl) (fun vs H Q E h => ?_) (fun cdv A outer s H vs Q E hr h => ?_)
  · obtain ⟨v, x, rfl, h, k⟩ := h
    rfl
  obtain ⟨v, x, rfl, h, k⟩ := h
  refine ⟨_, (pss_cons (ps_expr (pe_cX G_validate_number_x hr (by decide) (by rfl) (passes_call (takes_of rfl rfl rfl rfl) fun _ _ _ _ h => h) (pa_cons (pv 1) (pa_cons pe_int (pa_cons (C8.pe_gc rfl (gc_int (fi_MAX_DAY T))) pa_nil))))) (pss_one ps_never)), ?_⟩
  try dsimp only [cxOf, Cx.nox, Cx.wish, NdefX.ncx]
  repeat rw [st_cons]
  repeat rw [st_none]
  try rw [st_nn]
  walk_at "rd"
  exact use_numX h k
theorem ok_next_thrown_x {P : Program} {w : World} {K : PySem.W.Frag} {mg : Str → Option Value} {base : Heap} (T : Tx K mg) : CalX P w K mg base 2 "next_thrown" (spNX K 0 1000000000000000000) := by
  have G_validate_number_x := ok_validate_number_x (P := P) (w := w) (base := base) T
  refine calX_of (d := d_next_thrown) (x := "next_thrown") (fn_next_thrown T) rfl rfl (fg_next_thrown T) sc_next_thrown (fun _ _ _ _ _ _ us hl => match us, hl with | [_, _], _ => rfl) (fun vs H Q E h => ?_) (fun cdv A outer s H vs Q E hr h => ?_)
  · obtain ⟨v, x, rfl, h, k⟩ := h
    rfl
  obtain ⟨v, x, rfl, h, k⟩ := h
  refine ⟨_, (pss_cons (ps_expr (pe_cX G_validate_number_x hr (by decide) (by rfl) (passes_call (takes_of rfl rfl rfl rfl) fun _ _ _ _ h => h) (pa_cons (pv 1) (pa_cons pe_int (pa_cons (C8.pe_gc rfl (gc_int (fi_MAX_DAY T))) pa_nil))))) (pss_one ps_never)), ?_⟩
  try dsimp only [cxOf, Cx.nox, Cx.wish, NdefX.ncx]
  repeat rw [st_cons]
  repeat rw [st_none]
  try rw [st_nn]
  walk_at "rd"
  exact use_numX h k
theorem ok_least_life_x {P : Program} {w : World} {K : PySem.W.Frag} {mg : Str → Option Value} {base : Heap} (T : Tx K mg) : CalX P w K mg base 2 "least_life" (spNX K 0 1000000000000) := by
  have G_validate_number_x := ok_validate_number_x (P := P) (w := w) (base := base) T
  refine calX_of (d := d_least_life) (x := "least_life") (fn_least_life T) rfl rfl (fg_least_life T) sc_least_life (fun _ _ _ _ _ _ us hl => match us, hl with | [_, _], _ => rfl) (fun vs H Q E h => ?_) (fun cdv A outer s H vs Q E hr h => ?_)
  · obtain ⟨v, x, rfl, h, k⟩ := h
    rfl
  obtain ⟨v, x, rfl, h, k⟩ := h
  refine ⟨_, (pss_cons (ps_expr (pe_cX G_validate_number_x hr (by decide) (by rfl) (passes_call (takes_of rfl rfl rfl rfl) fun _ _ _ _ h => h) (pa_cons (pv 1) (pa_cons pe_int (pa_cons (C8.pe_gc rfl (gc_int (fi_MAX_MISSED T))) pa_nil))))) (pss_cons ps_never (pss_one ps_never))), ?_⟩
  try dsimp only [cxOf, Cx.nox, Cx.wish, NdefX.ncx]
  repeat rw [st_cons]
  repeat rw [st_none]
  try rw [st_nn]
  walk_at "rd"
  exact use_numX h k
theorem ok_least_baking_x {P : Program} {w : World} {K : PySem.W.Frag} {mg : Str → Option Value} {base : Heap} (T : Tx K mg) : CalX P w K mg base 2 "least_baking" (spNX K 0 1000000000000) := by
  have G_validate_number_x := ok_validate_number_x (P := P) (w := w) (base := base) T
  refine calX_of (d := d_least_baking) (x := "least_baking") (fn_least_baking T) rfl rfl (fg_least_baking T) sc_least_baking (fun _ _ _ _ _ _ us hl => match us, hl with | [_, _], _ => rfl) (fun vs H Q E h => ?_) (fun cdv A outer s H vs Q E hr h => ?_)
  · obtain ⟨v, x, rfl, h, k⟩ := h
    rfl
  obtain ⟨v, x, rfl, h, k⟩ := h
  refine ⟨_, (pss_cons (ps_expr (pe_cX G_validate_number_x hr (by decide) (by rfl) (passes_call (takes_of rfl rfl rfl rfl) fun _ _ _ _ h => h) (pa_cons (pv 1) (pa_cons pe_int (pa_cons (C8.pe_gc rfl (gc_int (fi_MAX_MISSED T))) pa_nil))))) (pss_cons ps_never (pss_cons ps_never (pss_cons ps_never (pss_one ps_never))))), ?_⟩
  try dsimp only [cxOf, Cx.nox, Cx.wish, NdefX.ncx]
  repeat rw [st_cons]
  repeat rw [st_none]
  try rw [st_nn]
  walk_at "rd"
  exact use_numX h k
theorem ok_newest_first_x {P : Program} {w : World} {K : PySem.W.Frag} {mg : Str → Option Value} {base : Heap} (T : Tx K mg) : CalX P w K mg base 2 "newest_first" (spNX K 0 1000) := by
  have G_validate_number_x := ok_validate_number_x (P := P) (w := w) (base := base) T
  refine calX_of (d := d_newest_first) (x := "newest_first") (fn_newest_first T) rfl rfl (fg_newest_first T) sc_newest_first (fun _ _ _ _ _ _ us hl => match us, hl with | [_, _], _ => rfl) (fun vs H Q E h => ?_) (fun cdv A outer s H vs Q E hr h => ?_)
  · obtain ⟨v, x, rfl, h, k⟩ := h
    rfl
  obtain ⟨v, x, rfl, h, k⟩ := h
  refine ⟨_, (pss_cons (ps_expr (pe_cX G_validate_number_x hr (by decide) (by rfl) (passes_call (takes_of rfl rfl rfl rfl) fun _ _ _ _ h => h) (pa_cons (pv 1) (pa_cons pe_int (pa_cons (C8.pe_gc rfl (gc_int (fi_MAX_PLAYED T))) pa_nil))))) (pss_cons ps_never (pss_one ps_never))), ?_⟩
  try dsimp only [cxOf, Cx.nox, Cx.wish, NdefX.ncx]
  repeat rw [st_cons]
  repeat rw [st_none]
  try rw [st_nn]
  walk_at "rd"
  exact use_numX h k
def spSldX (K : PySem.W.Frag) : Sp := fun vs H _ E => ∃ (a : Addr) (B : Bak) (x : Int), vs = [.ref a, .int x] ∧ BakAt K H a B ∧ (x < 0 ∨ 1000000000000000000 < x) ∧ NumE K E H
theorem ok_Bakery_sold_x {P : Program} {w : World} {K : PySem.W.Frag} {mg : Str → Option Value} {base : Heap} (T : Tx K mg) : MetX P w K mg base 3 (He.ga K "Bakery") "sold" (spSldX K) := by
  have G_Bakery_missed_x := ok_Bakery_missed_x (P := P) (w := w) (base := base) T
  refine metX_of (d := d_Bakery_sold) (C := "Bakery") (m := "sold") (fn_Bakery_sold T) rfl rfl (fc_Bakery T) (fme_Bakery_sold T) sc_Bakery_sold (fun _ _ _ _ _ _ us hl => match us, hl with | [_, _], _ => rfl) (fun vs H Q E h => ?_) (fun cdv A outer s H vs Q E hr h => ?_)
  · obtain ⟨a, B, x, rfl, hb, h, k⟩ := h
    rfl
  obtain ⟨a, B, x, rfl, hb, h, k⟩ := h
  refine ⟨_, (pss_one (ps_ret (pe_op op_sub (pe_ix ix_tup (pe_fld (pv 0) rfl) (pe_op op_mod (pe_callTy cq_int (by rfl) (fn_int T) bb_int (pa_cons (pv 1) pa_nil)) (pe_fld (pv 0) rfl)) (fun _ _ => rfl)) (pe_mX G_Bakery_missed_x hr (by decide) (passes_call (takes_of rfl rfl rfl rfl) fun _ _ _ _ h => h) (pv 0) (pa_cons (pv 1) pa_nil))))), ?_⟩
  try dsimp only [cxOf, Cx.nox, Cx.wish, NdefX.ncx]
  repeat rw [st_cons]
  repeat rw [st_none]
  try rw [st_nn]
  have ok := hb.1
  have n0 := ok.n0
  obtain ⟨_, dx, tb, tw, r, hB, hq, hb1, hw⟩ := BakM.c (bakM_at hb)
  walk_at "rd"
  refine fB_wishes T hB ?_
  walk_at "rd"
  refine fB_size T hB ?_
  walk_at "rd"
  refine r_I (by omega) ?_
  refine a_ixD hw ok ?_
  walk_at "rd"
  refine mBk (bakC_M (bakM_at hb)) (by decide) ?_
  walk_at "rd"
  exact use_nX h k
theorem use_sldX {K : PySem.W.Frag} {H : Hp} {Q : VK} {E : XK} {a : Addr} {B : Bak} {x : Int} (hb : BakAt K H a B) (h : x < 0 ∨ 1000000000000000000 < x) (q : NumE K E H) : spSldX K [.ref a, .int x] H Q E := ⟨a, B, x, rfl, hb, h, q⟩
def spNX3 (K : PySem.W.Frag) : Sp := fun vs H _ E => ∃ (v w : V) (x : Int), vs = [v, .int x, w] ∧ (x < 0 ∨ 1000000000000000000 < x) ∧ NumE K E H
theorem use_nX3 {K : PySem.W.Frag} {H : Hp} {Q : VK} {E : XK} {v w : V} {x : Int} (h : x < 0 ∨ 1000000000000000000 < x) (q : NumE K E H) : spNX3 K [v, .int x, w] H Q E := ⟨v, w, x, rfl, h, q⟩
theorem ok_LifeObserver_see_sold_x {P : Program} {w : World} {K : PySem.W.Frag} {mg : Str → Option Value} {base : Heap} (T : Tx K mg) : MetX P w K mg base 2 (He.ga K "LifeObserver") "see_sold" (spNX3 K) := by
  have G_validate_number_x := ok_validate_number_x (P := P) (w := w) (base := base) T
  refine metX_of (d := d_LifeObserver_see_sold) (C := "LifeObserver") (m := "see_sold") (fn_LifeObserver_see_sold T) rfl rfl (fc_LifeObserver T) (fme_LifeObserver_see_sold T) sc_LifeObserver_see_sold (fun _ _ _ _ _ _ us hl => match us, hl with | [_, _, _], _ => rfl) (fun vs H Q E h => ?_) (fun cdv A outer s H vs Q E hr h => ?_)
  · obtain ⟨v, w, x, rfl, h, k⟩ := h
    rfl
  obtain ⟨v, w, x, rfl, h, k⟩ := h
  refine ⟨_, (pss_cons (ps_expr (pe_cX G_validate_number_x hr (by decide) (by rfl) (passes_call (takes_of rfl rfl rfl rfl) fun _ _ _ _ h => h) (pa_cons (pv 1) (pa_cons pe_int (pa_cons (C8.pe_gc rfl (gc_int (fi_MAX_DAY T))) pa_nil))))) (pss_one ps_never)), ?_⟩
  try dsimp only [cxOf, Cx.nox, Cx.wish, NdefX.ncx]
  repeat rw [st_cons]
  repeat rw [st_none]
  try rw [st_nn]
  walk_at "rd"
  exact use_numX h k
theorem ok_LifeObserver_see_thrown_x {P : Program} {w : World} {K : PySem.W.Frag} {mg : Str → Option Value} {base : Heap} (T : Tx K mg) : MetX P w K mg base 2 (He.ga K "LifeObserver") "see_thrown" (spNX3 K) := by
  have G_validate_number_x := ok_validate_number_x (P := P) (w := w) (base := base) T
  refine metX_of (d := d_LifeObserver_see_thrown) (C := "LifeObserver") (m := "see_thrown") (fn_LifeObserver_see_thrown T) rfl rfl (fc_LifeObserver T) (fme_LifeObserver_see_thrown T) sc_LifeObserver_see_thrown (fun _ _ _ _ _ _ us hl => match us, hl with | [_, _, _], _ => rfl) (fun vs H Q E h => ?_) (fun cdv A outer s H vs Q E hr h => ?_)
  · obtain ⟨v, w, x, rfl, h, k⟩ := h
    rfl
  obtain ⟨v, w, x, rfl, h, k⟩ := h
  refine ⟨_, (pss_cons (ps_expr (pe_cX G_validate_number_x hr (by decide) (by rfl) (passes_call (takes_of rfl rfl rfl rfl) fun _ _ _ _ h => h) (pa_cons (pv 1) (pa_cons pe_int (pa_cons (C8.pe_gc rfl (gc_int (fi_MAX_DAY T))) pa_nil))))) (pss_one ps_never)), ?_⟩
  try dsimp only [cxOf, Cx.nox, Cx.wish, NdefX.ncx]
  repeat rw [st_cons]
  repeat rw [st_none]
  try rw [st_nn]
  walk_at "rd"
  exact use_numX h k
theorem ok_LifeObserver_see_stock_x {P : Program} {w : World} {K : PySem.W.Frag} {mg : Str → Option Value} {base : Heap} (T : Tx K mg) : MetX P w K mg base 2 (He.ga K "LifeObserver") "see_stock" (spNX3 K) := by
  have G_validate_number_x := ok_validate_number_x (P := P) (w := w) (base := base) T
  refine metX_of (d := d_LifeObserver_see_stock) (C := "LifeObserver") (m := "see_stock") (fn_LifeObserver_see_stock T) rfl rfl (fc_LifeObserver T) (fme_LifeObserver_see_stock T) sc_LifeObserver_see_stock (fun _ _ _ _ _ _ us hl => match us, hl with | [_, _, _], _ => rfl) (fun vs H Q E h => ?_) (fun cdv A outer s H vs Q E hr h => ?_)
  · obtain ⟨v, w, x, rfl, h, k⟩ := h
    rfl
  obtain ⟨v, w, x, rfl, h, k⟩ := h
  refine ⟨_, (pss_cons (ps_expr (pe_cX G_validate_number_x hr (by decide) (by rfl) (passes_call (takes_of rfl rfl rfl rfl) fun _ _ _ _ h => h) (pa_cons (pv 1) (pa_cons pe_int (pa_cons (C8.pe_gc rfl (gc_int (fi_MAX_DAY T))) pa_nil))))) (pss_one ps_never)), ?_⟩
  try dsimp only [cxOf, Cx.nox, Cx.wish, NdefX.ncx]
  repeat rw [st_cons]
  repeat rw [st_none]
  try rw [st_nn]
  walk_at "rd"
  exact use_numX h k

end G57
end
section
set_option maxRecDepth 100000
set_option maxHeartbeats 4000000
namespace G57
open PySem PySem.Spec PyProof.Rows L2
/-! the walk's small steps: "rd" reads on as far as it can -/
local macro_rules | `(tactic| walk_at "fact") => `(tactic| fail)
local macro_rules | `(tactic| walk_at "rd1") => `(tactic| with_reducible first
  | (refine v_id ?_; first | refine r_var_0 ?_ | refine r_var_1 ?_ | refine r_var_2 ?_ | refine r_var_3 ?_ | refine r_var_4 ?_ | refine r_var_5 ?_ | refine r_var_6 ?_ | refine r_var_7 ?_ | refine r_var_8 ?_ | refine r_var_9 ?_ | refine r_var_10 ?_ | refine r_var_11 ?_ | refine r_var_12 ?_ | refine r_var_13 ?_ | refine r_var_14 ?_ | refine r_var_15 ?_ | refine r_var_16 ?_ | refine r_var_17 ?_ | refine r_var_18 ?_ | refine r_var_19 ?_ | refine r_var_20 ?_ | refine r_var_21 ?_ | refine r_var_22 ?_ | refine r_var_23 ?_ | refine r_var_24 ?_ | refine r_var_25 ?_ | refine r_var_26 ?_ | refine r_var_27 ?_ | refine r_var rfl ?_)
  | (refine s_id ?_; first | refine r_set_0 ?_ | refine r_set_1 ?_ | refine r_set_2 ?_ | refine r_set_3 ?_ | refine r_set_4 ?_ | refine r_set_5 ?_ | refine r_set_6 ?_ | refine r_set_7 ?_ | refine r_set_8 ?_ | refine r_set_9 ?_ | refine r_set_10 ?_ | refine r_set_11 ?_ | refine r_set_12 ?_ | refine r_set_13 ?_ | refine r_set_14 ?_ | refine r_set_15 ?_ | refine r_set_16 ?_ | refine r_set_17 ?_ | refine r_set_18 ?_ | refine r_set_19 ?_ | refine r_set_20 ?_ | refine r_set_21 ?_ | refine r_set_22 ?_ | refine r_set_23 ?_ | refine r_set_24 ?_ | refine r_set_25 ?_ | refine r_set_26 ?_ | refine r_set_27 ?_ | refine r_setU ?_)
  | refine r_c ?_
  | refine r_op ?_
  | refine r_I0 ?_
  | refine r_seq ?_
  | refine r_asg ?_
  | refine r_fld ?_
  | refine r_nil ?_
  | refine r_cons ?_
  | refine r_cb ?_
  | refine r_max ?_
  | refine r_min ?_
  | refine r_ret ?_
  | refine r_met ?_
  | refine r_call ?_
  | refine r_B ?_
  | refine r_test ?_
  | refine r_b' ?_
  | refine r_ifS ?_
  | refine r_if ?_
  | refine r_par ?_
  | refine r_par2 ?_
  | refine r_drop ?_
  | refine r_next ?_
  | refine r_make ?_
  | refine r_sfld ?_
  | refine r_int1 ?_
  | refine r_intb ?_
  | refine r_and ?_
  | refine r_or ?_
  | refine r_not ?_
  | refine r_chain ?_
  | refine r_isN ?_
  | refine r_notN ?_
  | refine r_un ?_
  | refine r_U ?_
  | refine r_par3 ?_
  | refine r_par33 ?_
  | refine r_tup ?_
  | refine r_lst ?_
  | refine r_prop ?_
  | refine r_bm ?_
  | refine r_bm0 ?_
  | refine r_andV ?_
  | refine r_orV ?_
  | refine r_notV ?_
  | refine r_asgG ?_
  | refine r_gname ?_
  | refine r_gcons ?_
  | refine r_gnil ?_
  | refine r_rng1 ?_
  | refine r_rng2 ?_
  | refine r_for ?_
  | refine r_lc1 ?_
  | refine r_lc2 ?_
  | refine r_lc3 ?_
  | refine r_lc ?_
  | refine r_while ?_
  | refine r_rev ?_
  | refine r_sl ?_
  | refine r_augS ?_
  | refine r_iL ?_
  | refine r_iT ?_
  | refine r_iE ?_
  | refine r_ipI ?_
  | refine r_aug rfl ?_
  | refine r_cval ?_
  | refine r_turnN ?_
  | refine iT ?_
  | refine iNT ?_
  | refine iNF ?_
  | refine iOF ?_
  | refine iF ?_
  | refine r_part ?_
  | refine r_pi ?_
  | refine r_gsub ?_
  | refine r_noPart ?_)
local macro_rules | `(tactic| walk_at "rd") => `(tactic| (repeat (first | walk_at "rd1" | walk_at "fact")))
local macro_rules | `(tactic| walk_at "plen") => `(tactic| (repeat (first | decide | refine putF_lt ?_)))
local macro_rules | `(tactic| walk_at "rs") => `(tactic| (repeat ((fail_if_success (with_reducible refine r_stop ?_)); (first | walk_at "rd1" | walk_at "fact"))))
/-! finding a fact in the present heap by the way back; each rule is applied by its conclusion before its premises are sought -/
local macro_rules | `(tactic| walk_at "atx") => `(tactic| fail)
local macro_rules | `(tactic| walk_at "c_h") => `(tactic| first
  | with_reducible assumption
  | ((with_reducible apply hat_s); (with_reducible assumption); walk_at "c_h"))
local macro_rules | `(tactic| walk_at "c_n") => `(tactic| first
  | with_reducible assumption
  | ((with_reducible apply hat_ne); (with_reducible assumption); walk_at "c_h"))
local macro_rules | `(tactic| walk_at "c_o") => `(tactic| first
  | with_reducible assumption
  | with_reducible exact upd_same
  | ((with_reducible apply at_s); (with_reducible assumption); walk_at "c_o")
  | ((with_reducible apply atd_tup); (with_reducible assumption); walk_at "c_h"; walk_at "c_o")
  | ((with_reducible apply atd_ins); (with_reducible assumption); walk_at "c_h"; walk_at "c_o")
  | ((with_reducible apply atd_lst); (with_reducible assumption); walk_at "c_n"; walk_at "c_o")
  | ((with_reducible apply atx_tup); (with_reducible assumption); walk_at "c_o"; walk_at "c_o")
  | ((with_reducible apply atx_ins); (with_reducible assumption); walk_at "c_o"; walk_at "c_o")
  | ((with_reducible apply atx_ne); (with_reducible assumption); (with_reducible assumption); walk_at "c_o"))
local macro_rules | `(tactic| walk_at "c_q") => `(tactic| first
  | with_reducible assumption
  | ((with_reducible apply sqL_s); (with_reducible assumption); walk_at "c_q"))
local macro_rules | `(tactic| walk_at "c_t") => `(tactic| first
  | with_reducible assumption
  | ((with_reducible apply sqT_s); (with_reducible assumption); walk_at "c_t")
  | ((with_reducible apply sqT_d); (with_reducible assumption); walk_at "c_h"; walk_at "c_t")
  | ((with_reducible apply sqT_x); (with_reducible assumption); walk_at "c_o"; walk_at "c_t"))
local macro_rules | `(tactic| walk_at "c_p") => `(tactic| first
  | with_reducible assumption
  | ((with_reducible apply pairs_s); (with_reducible assumption); walk_at "c_p"))
local macro_rules | `(tactic| walk_at "at") => `(tactic| first
  | with_reducible assumption
  | with_reducible exact upd_same
  | walk_at "atx"
  | ((with_reducible apply sqL_at); walk_at "c_o")
  | ((with_reducible apply sqL_s); (with_reducible assumption); walk_at "c_q")
  | ((with_reducible apply sqT_at); walk_at "c_o")
  | ((with_reducible apply sqT_id); walk_at "c_t")
  | ((with_reducible apply hat_id); walk_at "c_h")
  | ((with_reducible apply pairs_id); walk_at "c_p")
  | ((with_reducible apply ne_id); walk_at "c_n")
  | ((with_reducible apply at_id); walk_at "c_o"))
/-! a length, an inequality -/
local macro_rules | `(tactic| walk_at "le") => `(tactic| first | exact Nat.le_of_ble_eq_true rfl | omega | (simp; done) | (simp; omega))
local macro_rules | `(tactic| walk_at "ar") => `(tactic| first | omega | exact ⟨by omega, by omega⟩ | exact .inl ⟨by omega, by omega⟩ | exact .inr ⟨by omega, by omega⟩ | exact .inr (by omega) | exact .inl (by omega) | exact ⟨by omega, by omega, by omega⟩ | decide)
/-! calls of the text's own defs, with letters for what they leave -/
local macro_rules | `(tactic| walk_at "use") => `(tactic| fail)
local macro_rules | `(tactic| walk_at "go1") => `(tactic| first
  | walk_at "rd1"
  | walk_at "fact"
  | walk_at "use"
  | with_reducible refine r_p6 ?_
  | with_reducible refine r_p8 ?_
  | with_reducible refine r_p9 ?_
  | with_reducible refine r_p10 ?_
  | with_reducible refine r_p12 ?_
  | with_reducible refine r_p14 ?_
  | with_reducible refine r_p15 ?_
  | with_reducible refine r_p17 ?_
  | with_reducible refine r_p18 ?_
  | ((with_reducible apply r_I); walk_at "ar")
  | ((with_reducible apply a_neNil); walk_at "at"; intro _ _)
  | ((with_reducible apply a_eqNil); walk_at "at"; intro _ _)
  | ((with_reducible apply a_nwT); walk_at "le"; intro _ _ _ _ _)
  | ((with_reducible apply a_nwL); walk_at "le"; intro _ _ _ _ _)
  | ((with_reducible apply r_ixL (j := 0)); walk_at "at"; rfl; rfl)
  | ((with_reducible apply r_ixL (j := 1)); walk_at "at"; rfl; rfl)
  | ((with_reducible apply r_ixL (j := 2)); walk_at "at"; rfl; rfl)
  | ((with_reducible apply r_ixL (j := 3)); walk_at "at"; rfl; rfl)
  | ((with_reducible apply r_ixT (j := 0)); walk_at "at"; rfl; rfl)
  | ((with_reducible apply r_ixT (j := 1)); walk_at "at"; rfl; rfl)
  | ((with_reducible apply r_ixT (j := 2)); walk_at "at"; rfl; rfl)
  | ((with_reducible apply a_pick2); walk_at "at"; omega; omega; intro _ _)
  | ((with_reducible apply a_pick3); walk_at "at"; omega; omega; intro _ _)
  | ((with_reducible apply a_pick4); walk_at "at"; omega; omega; intro _ _)
  | ((with_reducible apply r_gtup); walk_at "at"; rfl)
  | ((with_reducible apply a_lenLI); walk_at "at")
  | ((with_reducible apply r_lenL); walk_at "at")
  | ((with_reducible apply r_lenT); walk_at "at")
  | ((with_reducible apply r_tyL); walk_at "at")
  | ((with_reducible apply a_cat); walk_at "at"; walk_at "at"; walk_at "le"; intro _ _ _ _ _)
  | ((with_reducible apply a_listL); walk_at "at"; intro _ _ _ _ _)
  | ((with_reducible apply a_tupL); walk_at "at"; intro _ _ _ _ _)
  | ((with_reducible apply a_slL); walk_at "at"; intro _ _ _ _ _)
  | ((with_reducible apply a_revL); walk_at "at"; intro _ _ _ _ _)
  | ((with_reducible apply r_sumT); walk_at "at")
  | ((with_reducible apply r_sumL); walk_at "at")
  | ((with_reducible refine ⟨_, rfl, ?_, ?_, ?_⟩); omega; omega)
  | ((with_reducible refine ⟨_, _, rfl, ⟨?_, ?_, ?_, ?_⟩, ?_⟩); omega; omega; omega; omega)
  | with_reducible refine ⟨_, rfl, ⟨_, by walk_at "at"⟩, ?_⟩)
local macro_rules | `(tactic| walk_at "go") => `(tactic| (repeat (walk_at "go1")))
local macro_rules | `(tactic| walk_at "sames") => `(tactic| first | exact sameR | assumption | ((with_reducible apply sameB); assumption; walk_at "sames"))
local macro_rules | `(tactic| walk_at "sameds") => `(tactic| first | assumption | ((with_reducible apply sameD_of); walk_at "sames"; done) | ((with_reducible apply sameDB); assumption; walk_at "sameds") | ((with_reducible apply sameDS); assumption; walk_at "sameds"))
local macro_rules | `(tactic| walk_at "gs") => `(tactic| (repeat ((fail_if_success (with_reducible refine r_stop ?_)); (walk_at "go1"))))
local macro_rules | `(tactic| walk_at "c_d") => `(tactic| first
  | with_reducible assumption
  | ((with_reducible apply bakD_s); (with_reducible assumption); walk_at "c_d")
  | ((with_reducible apply bakD_d); (with_reducible assumption); walk_at "c_h"; walk_at "c_d"))
local macro_rules | `(tactic| walk_at "c_b") => `(tactic| first
  | with_reducible assumption
  | ((with_reducible apply bakAt_s); (with_reducible assumption); walk_at "c_b"))
local macro_rules | `(tactic| walk_at "c_a") => `(tactic| first
  | with_reducible assumption
  | ((with_reducible apply bakAt_D); walk_at "c_d")
  | walk_at "c_b")
local macro_rules | `(tactic| walk_at "c_m1") => `(tactic| first
  | with_reducible assumption
  | ((with_reducible apply bakM_s); (with_reducible assumption); walk_at "c_m1"))
local macro_rules | `(tactic| walk_at "c_m") => `(tactic| first
  | with_reducible assumption
  | ((with_reducible apply bakM_at); walk_at "c_a")
  | walk_at "c_m1")
local macro_rules | `(tactic| walk_at "atx") => `(tactic| first
  | ((with_reducible apply bakD_id); walk_at "c_d")
  | ((with_reducible apply bakAt_id); walk_at "c_a")
  | ((with_reducible apply bakM_id); walk_at "c_m")
  | ((with_reducible apply bakC_M); walk_at "c_m"))
local macro_rules | `(tactic| walk_at "ok") => `(tactic| first | assumption | exact BakD.ok (by assumption) | exact BakAt.ok (by assumption))
local macro_rules | `(tactic| walk_at "use") => `(tactic| first
  | ((with_reducible apply mBk); walk_at "at"; decide)
  | ((with_reducible apply pBk); walk_at "at")
  | ((with_reducible apply use_stk); walk_at "at"; omega; omega; intro _ _)
  | ((with_reducible apply use_msd); walk_at "at"; omega; omega; intro _ _)
  | ((with_reducible apply use_thn); walk_at "at"; omega; omega; intro _ _)
  | ((with_reducible apply use_sld); walk_at "at"; omega; omega; intro _ _)
  | ((with_reducible apply use_tot); walk_at "at"; omega; omega; intro _ _ _ _)
  | ((with_reducible apply use_shf); walk_at "at"; omega; omega; intro _ _ _ _ _ _)
  | ((with_reducible apply use_sdy); walk_at "at"; intro _ _ _)
  | ((with_reducible apply use_lrn); walk_at "at"; intro _ _ _ _)
  | ((with_reducible apply use_bks); walk_at "at"; intro _ _)
  | ((with_reducible apply use_dms); walk_at "at"; intro _ _)
  | ((with_reducible apply use_lif); walk_at "at")
  | ((with_reducible apply use_nxt); walk_at "at"; omega; omega; intro _ _ _ _ _ _)
  | ((with_reducible apply use_num); omega; omega)
  | ((with_reducible apply use_liv); walk_at "at"; (exact liv_ok (by walk_at "ok") (by omega) (by omega)); intro _ _ _ _)
  | ((with_reducible apply use_mor); walk_at "at"; assumption; intro _ _ _ _)
  | ((with_reducible apply a_maxB); walk_at "at"; walk_at "ok"; intro _ _ _)
  | ((with_reducible apply a_minB); walk_at "at"; walk_at "ok"; intro _ _ _)
  | with_reducible refine r_cvalR (fcv_Bakery_MAX_LIFE ‹_›) ?_
  | ((with_reducible apply a_lenTB); walk_at "at")
  | ((with_reducible apply a_lenTD); walk_at "at"; walk_at "ok")
  | ((with_reducible apply a_ixD); walk_at "at"; walk_at "ok")
  | ((with_reducible apply a_ixB); walk_at "at"; walk_at "ok"; omega))
local macro_rules | `(tactic| walk_at "alk") => `(tactic| first
  | ((with_reducible apply alk_tup); walk_at "at"; walk_at "at"; walk_at "le")
  | ((with_reducible apply alk_lst); walk_at "at"; walk_at "at"; walk_at "le")
  | ((with_reducible apply use_alkL); walk_at "at"; walk_at "at"; walk_at "le")
  | ((with_reducible apply use_alkT); walk_at "at"; walk_at "at"; walk_at "le"))
/-- an observer that has noted nothing -/
def obsF (tl tv tn : Addr) : List (Str × V) := [("left", .ref tl), ("lives", .ref tv), ("noted", .ref tn)]
def Obs0 (K : PySem.W.Frag) (H : Hp) (a tn : Addr) : Prop := ∃ dx tl tv, H a = some (.ins (He.ga K "LifeObserver") dx (obsF tl tv tn)) ∧ H tn = some (.lst [])
def spObsI (K : PySem.W.Frag) : Sp := fun vs H Q _ => ∃ (a dx tb tw : Addr) (B : Bak), vs = [.ref a, .ref tb, .ref tw] ∧ H a = some (.ins (He.ga K "LifeObserver") dx []) ∧ SqT K H tb (B.bakes.map V.int) ∧ SqT K H tw (B.dems.map V.int) ∧ B.Ok ∧ ∀ tn H', SameX a H H' → H tn = none → Obs0 K H' a tn → Q .non H'
theorem bakC_s {K : PySem.W.Frag} {H H' : Hp} {a : Addr} {B : Bak} (s : Same H H') (b : BakC K H a B) : BakC K H' a B := let ⟨ok, dx, tb, tw, r, h1, h2, h3, h4⟩ := b; ⟨ok, dx, tb, tw, r, s _ _ h1, h2, same_sqT s h3, same_sqT s h4⟩
theorem bakC_u {K : PySem.W.Frag} {H : Hp} {a D : Addr} {B : Bak} {zs zs' : List V} (b : BakC K H a B) (hD : H D = some (.lst zs)) : BakC K (upd H D (.lst zs')) a B := by
  obtain ⟨ok, dx, tb, tw, r, h1, h2, h3, h4⟩ := b
  have x : SameX D H (upd H D (.lst zs')) := fun b o n e => by rw [upd_ne n]; exact e
  exact ⟨ok, dx, tb, tw, r, atx_ins x hD h1, h2, sqT_x x hD h3, sqT_x x hD h4⟩
theorem sqT_xi {K : PySem.W.Frag} {H H' : Hp} {L a C dx : Addr} {fs : List (Str × V)} {xs : List V} (s : SameX L H H') (hl : H L = some (.ins C dx fs)) (h : SqT K H a xs) : SqT K H' a xs := by
  rcases h with (h | ⟨o, h⟩) | h
  · exact .inl (.inl (s _ _ (fun z => by rw [z, hl] at h; cases h) h))
  · exact .inl (.inr ⟨o, s _ _ (fun z => by rw [z, hl] at h; cases h) h⟩)
  · exact .inr h
theorem stabC {K : PySem.W.Frag} {v : V} {B : Bak} : Stab fun H => ∃ p, v = V.ref p ∧ BakC K H p B := ⟨fun _ _ ⟨p, e, z⟩ s => ⟨p, e, bakC_s s z⟩, fun _ _ _ _ ⟨p, e, z⟩ hD => ⟨p, e, bakC_u z hD⟩⟩
theorem ok_LifeObserver_init {P : Program} {w : World} {K : PySem.W.Frag} {mg : Str → Option Value} {base : Heap} (T : Tx K mg) : C8.Mak P w K mg base 10 "LifeObserver" (He.ga K "LifeObserver") (spObsI K) [] := by
  have G_Bakery := ok_Bakery_init (P := P) (w := w) (base := base) T
  have G_Bakery_life := ok_Bakery_life (P := P) (w := w) (base := base) T
  refine mak_of (d := d_LifeObserver_init) (C := "LifeObserver") (fn_LifeObserver_init T) rfl rfl (fg_LifeObserver T) (fmk_LifeObserver T) sc_LifeObserver_init (fun _ _ _ _ _ _ us hl => match us, hl with | [_, _, _], _ => rfl) (fun vs H Q E h => ?_) (fun cdv A outer s H vs Q E hr h => ?_)
  · obtain ⟨a, dx, tb, tw, B, rfl, ha, hb, hw, ok, k⟩ := h
    rfl
  obtain ⟨a, dx, tb, tw, B, rfl, ha, hb, hw, ok, k⟩ := h
  refine ⟨_, (pss_cons (ps_fld (pv 0) (pe_callTy cq_tupL (by rfl) (fn_tuple T) bb_tuple (pa_cons (pe_lc (own := [("life", 3)]) (by rfl) sc_LifeObserver_init.nd (pi_range2 (by rfl) (fn_range T) (pa_cons pe_int (pa_cons (pe_op op_add (ClX.pe_cval (pe_glob (v := .ref (He.ga K "Bakery")) rfl (fg_Bakery T) rfl)) pe_int) pa_nil))) (blkOk_by (own := [("life", 3)]) (N := ["self", "bakes", "demands", "life", "bakery"]) (sc := defScope s_LifeObserver_init) (by decide +kernel)) (fun _ _ _ _ _ => (pg_name (i := 3) sc_LifeObserver_init.nd rfl (Or.inl rfl))) (fun _ _ _ _ _ => pts_nil) (fun _ _ _ _ _ => by exact (C8.pe_mk G_Bakery hr (by decide) (by rfl) (pa_cons (pv 1) (pa_cons (pv 2) (pa_cons (pv 3) pa_nil)))))) pa_nil)) rfl)
      (pss_cons (ps_fld (pv 0) (pe_callTy cq_tupL (by rfl) (fn_tuple T) bb_tuple (pa_cons (pe_lc (own := [("bakery", 4)]) (by rfl) sc_LifeObserver_init.nd (pi_tup (pe_fld (pv 0) rfl)) (blkOk_by (own := [("bakery", 4)]) (N := ["self", "bakes", "demands", "life", "bakery"]) (sc := defScope s_LifeObserver_init) (by decide +kernel)) (fun _ _ _ _ _ => (pg_name (i := 4) sc_LifeObserver_init.nd rfl (Or.inl rfl))) (fun _ _ _ _ _ => pts_nil) (fun _ _ _ _ _ => by exact (pe_pr G_Bakery_life hr (by decide) (pv 4)))) pa_nil)) rfl)
      (pss_one (ps_fld (pv 0) (pe_lst pa_nil) rfl)))), ?_⟩
  try dsimp only [cxOf, Cx.nox, Cx.wish]
  repeat rw [st_cons]
  repeat rw [st_none]
  try rw [st_nn]
  walk_at "go"
  refine lcN_range (fun i v H' => ∃ p, v = .ref p ∧ BakC K H' p (B.liv (1 + (i : Nat)))) (fun i v => stabC) (Nat.le_trans (show _ ≤ 100 by decide) (by decide)) wipe1' (fun i H' Z hi s z => ?_) fun D H1 ys nD s1 hD yl all => ?_
  · rw [wipe1]
    have hi30 : i < 30 := hi
    walk_at "rd"
    refine use_BakeryF (B := B.liv (1 + (i : Nat))) rfl (same_sqT s hb) (same_sqT s hw) (liv_ok ok (by omega) (by omega)) fun p H2 te tp s2 n1 n2 hB => ?_
    exact z _ H2 s2 ⟨p, rfl, bakC_M (bakM_at hB.at)⟩
  have yl30 : ys.length = 30 := yl
  walk_at "rd"
  refine a_tupL (sqL_at hD) fun t1 H2 s2 n2 e2 => ?_
  have ha2 := s2 _ _ (s1 _ _ ha)
  have na2 : a ≠ t1 := ne_of_none ha (none_of_same s1 n2)
  have nDa : a ≠ D := ne_of_none ha nD
  walk_at "rd"
  refine r_sfldR ha2 (fc_LifeObserver T) (fna_LifeObserver_left T) (by decide) ?_
  have x2 : SameX a H (upd H2 a (.ins (He.ga K "LifeObserver") dx [("left", .ref t1)])) := fun b o nb e => by
    rw [upd_ne nb]
    exact s2 _ _ (s1 _ _ e)
  have y2 : SameX a H2 (upd H2 a (.ins (He.ga K "LifeObserver") dx [("left", .ref t1)])) := fun b o nb e => by
    rw [upd_ne nb]
    exact e
  have e2' : (upd H2 a (.ins (He.ga K "LifeObserver") dx [("left", .ref t1)])) t1 = some (.tup ys) := by
    rw [upd_ne (Ne.symm na2)]
    exact e2
  have all2 : ∀ (i : Nat) (y : V), ys[i]? = some y → ∃ p, y = V.ref p ∧ BakC K (upd H2 a (.ins (He.ga K "LifeObserver") dx [("left", .ref t1)])) p (B.liv (1 + (i : Nat))) := fun i y hy => by
    obtain ⟨p, rfl, hp⟩ := all i y hy
    obtain ⟨okp, dx', tb', tw', r', h1, h2, h3, h4⟩ := bakC_s s2 hp
    have np : p ≠ a := fun z => by
      rw [z, ha2] at h1
      have q := (HO.ins.inj (Option.some.inj h1)).2.2
      unfold bakF at q
      exact (nomatch q)
    exact ⟨p, rfl, okp, dx', tb', tw', r', y2 _ _ np h1, h2, sqT_xi y2 ha2 h3, sqT_xi y2 ha2 h4⟩
  have ea : (upd H2 a (.ins (He.ga K "LifeObserver") dx [("left", .ref t1)])) a = some (.ins (He.ga K "LifeObserver") dx [("left", .ref t1)]) := upd_same
  show tSeq _ _ _ _ (upd H2 a (.ins (He.ga K "LifeObserver") dx [("left", .ref t1)]))
  generalize upd H2 a (.ins (He.ga K "LifeObserver") dx [("left", .ref t1)]) = H3 at x2 e2' all2 ea ⊢
  clear y2
  walk_at "rd"
  refine r_fldR ea (fc_LifeObserver T) (fna_LifeObserver_left T) rfl ?_
  walk_at "rd"
  refine ⟨t1, rfl, ⟨_, sqT_at e2'⟩, ?_⟩
  refine lcN_tup (xs := ys) (fun i v H' => True) (fun i v => Stab.triv) (sqT_at e2') (Nat.le_trans (show _ ≤ 100 by omega) (by decide)) wipe1' (fun i x H' Z hx s z => ?_) fun D2 H4 zs nD2 s4 hD2 zl _ => ?_
  · rw [wipe1]
    obtain ⟨p, rfl, hp⟩ := all2 i x hx
    walk_at "rd"
    refine pBk (bakC_s s hp) ?_
    refine use_lif (bakC_s s hp) ?_
    exact z _ _ sameR True.intro
  walk_at "rd"
  refine a_tupL (sqL_at hD2) fun t2 H5 s5 n5 e5 => ?_
  have ea5 := s5 _ _ (s4 _ _ ea)
  walk_at "rd"
  refine r_sfldR ea5 (fc_LifeObserver T) (fna_LifeObserver_lives T) (by show 1 < 1000; decide) ?_
  have x5 : SameX a H (upd H5 a (.ins (He.ga K "LifeObserver") dx (putF "lives" (.ref t2) [("left", .ref t1)]))) := fun b o nb e => by
    rw [upd_ne nb]
    exact s5 _ _ (s4 _ _ (x2 _ _ nb e))
  have ea6 : (upd H5 a (.ins (He.ga K "LifeObserver") dx (putF "lives" (.ref t2) [("left", .ref t1)]))) a = some (.ins (He.ga K "LifeObserver") dx (putF "lives" (.ref t2) [("left", .ref t1)])) := upd_same
  generalize upd H5 a (.ins (He.ga K "LifeObserver") dx (putF "lives" (.ref t2) [("left", .ref t1)])) = H6 at x5 ea6 ⊢
  walk_at "rd"
  refine a_nwL (by decide) fun tn H7 s7 n7 e7 => ?_
  have ea7 := s7 _ _ ea6
  have na7 : a ≠ tn := ne_of_none ea6 n7
  walk_at "rd"
  refine r_sfldR ea7 (fc_LifeObserver T) (fna_LifeObserver_noted T) (Nat.lt_of_lt_of_le (putF_lt (n := 2) (show 1 < 2 by decide)) (show 3 ≤ 1000 by decide)) ?_
  walk_at "rd"
  refine k tn _ (fun b o nb e => ?_) ?_ ⟨dx, t1, t2, upd_same, ?_⟩
  · rw [upd_ne nb]
    exact s7 _ _ (x5 _ _ nb e)
  · cases q : H tn with
    | none => rfl
    | some o =>
      have := x5 _ _ (Ne.symm na7) q
      rw [n7] at this
      cases this
  · rw [upd_ne (Ne.symm na7)]
    exact e7
theorem use_Obs0 {K : PySem.W.Frag} {H : Hp} {Q : VK} {E : XK} {tb tw : Addr} {B : Bak} (hb : SqT K H tb (B.bakes.map V.int)) (hw : SqT K H tw (B.dems.map V.int)) (ok : B.Ok) (k : ∀ a tn H', Same H H' → H tn = none → Obs0 K H' a tn → Q (.ref a) H') : MakR (He.ga K "LifeObserver") (spObsI K) E Q [.ref tb, .ref tw] H := by
  intro x dx hx hdx ne
  have s1 : Same H (upd (upd H dx (.own x)) x (.ins (He.ga K "LifeObserver") dx [])) := same_mut (same_mut sameR hdx) hx
  refine ⟨x, dx, tb, tw, B, rfl, upd_same, same_sqT s1 hb, same_sqT s1 hw, ok, fun tn H' s n o => ⟨rfl, k x tn H' (fun b u e => ?_) ?_ o⟩⟩
  · have nb : b ≠ x := ne_of_none e hx
    exact s b u nb (s1 _ _ e)
  · cases q : H tn with
    | none => rfl
    | some o =>
      have := s1 _ _ q
      rw [n] at this
      cases this
theorem lcX_range0 {lo : Int} {n j : Nat} {te : TE} {σ : L2.St} {Q : VK} {H1 : Hp} (n0 : 0 < n) (hs : ∀ D H' (Z : VK), H1 D = none → Same H1 H' → SetR j (.int lo) (fun s => te s H' Z) σ) : LcR (Itr lo n) (gName j) tYes te [j] σ Q H1 := fun D hD =>
  ⟨fun i m H => i = 0 ∧ H = upd H1 D (.lst []), ⟨0, rfl, rfl⟩, fun i m H ⟨hi, hH⟩ => .inr ⟨by subst hi; exact n0, fun _ => False, fun _ f => f.elim, fun x H' y => by
    obtain ⟨rfl, rfl⟩ := y
    subst hi hH
    refine ⟨wipe1' _, tYes_of ?_⟩
    rw [wipe1, show lo + ((0 : Nat) : Int) = lo from Int.add_zero lo]
    exact hs D _ _ hD (same_new hD)⟩⟩
def spObsX (K : PySem.W.Frag) : Sp := fun vs H _ E => ∃ (v : V) (tb tw : Addr) (b e : List Int) (p : Nat) (i : Int), vs = [v, .ref tb, .ref tw] ∧ SqT K H tb (b.map V.int) ∧ SqT K H tw (e.map V.int) ∧ bkErr b e 1 = some (p, i) ∧ BakE K E H (partS p) i
theorem ok_LifeObserver_init_x {P : Program} {w : World} {K : PySem.W.Frag} {mg : Str → Option Value} {base : Heap} (T : Tx K mg) : MakX P w K mg base 10 "LifeObserver" (He.ga K "LifeObserver") (spObsX K) := by
  have G_Bakery_x := ok_Bakery_init_x (P := P) (w := w) (base := base) T
  refine makX_of (d := d_LifeObserver_init) (C := "LifeObserver") (fn_LifeObserver_init T) rfl rfl (fg_LifeObserver T) (fmk_LifeObserver T) sc_LifeObserver_init (fun _ _ _ _ _ _ us hl => match us, hl with | [_, _, _], _ => rfl) (fun vs H Q E h => ?_) (fun cdv A outer s H vs Q E hr h => ?_)
  · obtain ⟨v, tb, tw, b, e, p, i, rfl, hb, hw, he, k⟩ := h
    rfl
  obtain ⟨v, tb, tw, b, e, p, i, rfl, hb, hw, he, k⟩ := h
  refine ⟨_, (pss_cons (ps_fld (pv 0) (pe_callTy cq_tupL (by rfl) (fn_tuple T) bb_tuple (pa_cons (pe_lcX (own := [("life", 3)]) (by rfl) sc_LifeObserver_init.nd (pi_range2 (by rfl) (fn_range T) (pa_cons pe_int (pa_cons (pe_op op_add (ClX.pe_cval (pe_glob (v := .ref (He.ga K "Bakery")) rfl (fg_Bakery T) rfl)) pe_int) pa_nil))) (blkOk_by (own := [("life", 3)]) (N := ["self", "bakes", "demands", "life", "bakery"]) (sc := defScope s_LifeObserver_init) (by decide +kernel)) rfl rfl (takes_of rfl rfl rfl rfl) (fun _ _ _ _ _ _ pas => ⟨(pg_name (i := 3) sc_LifeObserver_init.nd rfl (Or.inl rfl)), pts_nil, by exact (pe_kX G_Bakery_x hr (by decide) (by rfl) pas (pa_cons (pv 1) (pa_cons (pv 2) (pa_cons (pv 3) pa_nil))))⟩)) pa_nil)) rfl) (pss_cons ps_never (pss_one ps_never))), ?_⟩
  try dsimp only [cxOf, Cx.nox, Cx.wish, NdefX.ncx]
  repeat rw [st_cons]
  repeat rw [st_none]
  try rw [st_nn]
  walk_at "rd"
  refine r_cvalR (fcv_Bakery_MAX_LIFE T) ?_
  walk_at "go"
  refine lcX_range0 (by decide) fun D H' Z nD s => ?_
  walk_at "rd"
  exact use_BakX (same_sqT s hb) (same_sqT s hw) he (k.s s)
theorem use_ObsX {K : PySem.W.Frag} {H : Hp} {Q : VK} {E : XK} {tb tw : Addr} {b e : List Int} {p : Nat} {i : Int} (hb : SqT K H tb (b.map V.int)) (hw : SqT K H tw (e.map V.int)) (he : bkErr b e 1 = some (p, i)) (k : BakE K E H (partS p) i) : MakR (He.ga K "LifeObserver") (spObsX K) E Q [.ref tb, .ref tw] H := fun x dx hx hdx ne => by
  have s1 : Same H (upd (upd H dx (.own x)) x (.ins (He.ga K "LifeObserver") dx [])) := same_mut (same_mut sameR hdx) hx
  exact ⟨_, tb, tw, b, e, p, i, rfl, same_sqT s1 hb, same_sqT s1 hw, he, k.s s1⟩
def spRec (K : PySem.W.Frag) : Sp := fun vs H Q _ => ∃ (a tn : Addr), vs = [.ref a] ∧ Obs0 K H a tn ∧ ∀ t H', Same H H' → H t = none → H' t = some (.lst []) → Q (.ref t) H'
theorem ok_LifeObserver_records {P : Program} {w : World} {K : PySem.W.Frag} {mg : Str → Option Value} {base : Heap} (T : Tx K mg) : Prp P w K mg base 1 (He.ga K "LifeObserver") "records" (spRec K) := by
  refine prp_of (d := d_LifeObserver_records) (C := "LifeObserver") (f := "records") (fn_LifeObserver_records T) rfl rfl (fc_LifeObserver T) (fpr_LifeObserver_records T) sc_LifeObserver_records (fun _ _ _ _ _ _ us hl => match us, hl with | [_], _ => rfl) (fun vs H Q E h => ?_) (fun cdv A outer s H vs Q E hr h => ?_)
  · obtain ⟨a, tn, rfl, ⟨dx, tl, tv, ha, hn⟩, k⟩ := h
    rfl
  obtain ⟨a, tn, rfl, ⟨dx, tl, tv, ha, hn⟩, k⟩ := h
  refine ⟨_, (pss_one (ps_ret (pe_callTy cq_list (by rfl) (fn_list T) bb_list (pa_cons (pe_fld (pv 0) rfl) pa_nil)))), ?_⟩
  try dsimp only [cxOf, Cx.nox, Cx.wish]
  repeat rw [st_cons]
  repeat rw [st_none]
  try rw [st_nn]
  walk_at "go"
  refine r_fldR ha (fc_LifeObserver T) (fna_LifeObserver_noted T) rfl ?_
  walk_at "go"
  exact k _ _ (by assumption) (by assumption) (by assumption)

end G57
end
section
set_option maxRecDepth 100000
set_option maxHeartbeats 4000000
namespace G57
open PySem PySem.Spec PyProof.Rows L2
/-! the walk's small steps: "rd" reads on as far as it can -/
local macro_rules | `(tactic| walk_at "fact") => `(tactic| fail)
local macro_rules | `(tactic| walk_at "rd1") => `(tactic| with_reducible first
  | (refine v_id ?_; first | refine r_var_0 ?_ | refine r_var_1 ?_ | refine r_var_2 ?_ | refine r_var_3 ?_ | refine r_var_4 ?_ | refine r_var_5 ?_ | refine r_var_6 ?_ | refine r_var_7 ?_ | refine r_var_8 ?_ | refine r_var_9 ?_ | refine r_var_10 ?_ | refine r_var_11 ?_ | refine r_var_12 ?_ | refine r_var_13 ?_ | refine r_var_14 ?_ | refine r_var_15 ?_ | refine r_var_16 ?_ | refine r_var_17 ?_ | refine r_var_18 ?_ | refine r_var_19 ?_ | refine r_var_20 ?_ | refine r_var_21 ?_ | refine r_var_22 ?_ | refine r_var_23 ?_ | refine r_var_24 ?_ | refine r_var_25 ?_ | refine r_var_26 ?_ | refine r_var_27 ?_ | refine r_var rfl ?_)
  | (refine s_id ?_; first | refine r_set_0 ?_ | refine r_set_1 ?_ | refine r_set_2 ?_ | refine r_set_3 ?_ | refine r_set_4 ?_ | refine r_set_5 ?_ | refine r_set_6 ?_ | refine r_set_7 ?_ | refine r_set_8 ?_ | refine r_set_9 ?_ | refine r_set_10 ?_ | refine r_set_11 ?_ | refine r_set_12 ?_ | refine r_set_13 ?_ | refine r_set_14 ?_ | refine r_set_15 ?_ | refine r_set_16 ?_ | refine r_set_17 ?_ | refine r_set_18 ?_ | refine r_set_19 ?_ | refine r_set_20 ?_ | refine r_set_21 ?_ | refine r_set_22 ?_ | refine r_set_23 ?_ | refine r_set_24 ?_ | refine r_set_25 ?_ | refine r_set_26 ?_ | refine r_set_27 ?_ | refine r_setU ?_)
  | refine r_c ?_
  | refine r_op ?_
  | refine r_I0 ?_
  | refine r_seq ?_
  | refine r_asg ?_
  | refine r_fld ?_
  | refine r_nil ?_
  | refine r_cons ?_
  | refine r_cb ?_
  | refine r_max ?_
  | refine r_min ?_
  | refine r_ret ?_
  | refine r_met ?_
  | refine r_call ?_
  | refine r_B ?_
  | refine r_test ?_
  | refine r_b' ?_
  | refine r_ifS ?_
  | refine r_if ?_
  | refine r_par ?_
  | refine r_par2 ?_
  | refine r_drop ?_
  | refine r_next ?_
  | refine r_make ?_
  | refine r_sfld ?_
  | refine r_int1 ?_
  | refine r_intb ?_
  | refine r_and ?_
  | refine r_or ?_
  | refine r_not ?_
  | refine r_chain ?_
  | refine r_isN ?_
  | refine r_notN ?_
  | refine r_un ?_
  | refine r_U ?_
  | refine r_par3 ?_
  | refine r_par33 ?_
  | refine r_tup ?_
  | refine r_lst ?_
  | refine r_prop ?_
  | refine r_bm ?_
  | refine r_bm0 ?_
  | refine r_andV ?_
  | refine r_orV ?_
  | refine r_notV ?_
  | refine r_asgG ?_
  | refine r_gname ?_
  | refine r_gcons ?_
  | refine r_gnil ?_
  | refine r_rng1 ?_
  | refine r_rng2 ?_
  | refine r_for ?_
  | refine r_lc1 ?_
  | refine r_lc2 ?_
  | refine r_lc3 ?_
  | refine r_lc ?_
  | refine r_while ?_
  | refine r_rev ?_
  | refine r_sl ?_
  | refine r_augS ?_
  | refine r_iL ?_
  | refine r_iT ?_
  | refine r_iE ?_
  | refine r_ipI ?_
  | refine r_aug rfl ?_
  | refine r_cval ?_
  | refine r_turnN ?_
  | refine iT ?_
  | refine iNT ?_
  | refine iNF ?_
  | refine iOF ?_
  | refine iF ?_
  | refine r_part ?_
  | refine r_pi ?_
  | refine r_gsub ?_
  | refine r_noPart ?_)
local macro_rules | `(tactic| walk_at "rd") => `(tactic| (repeat (first | walk_at "rd1" | walk_at "fact")))
local macro_rules | `(tactic| walk_at "plen") => `(tactic| (repeat (first | decide | refine putF_lt ?_)))
local macro_rules | `(tactic| walk_at "rs") => `(tactic| (repeat ((fail_if_success (with_reducible refine r_stop ?_)); (first | walk_at "rd1" | walk_at "fact"))))
/-! finding a fact in the present heap by the way back; each rule is applied by its conclusion before its premises are sought -/
local macro_rules | `(tactic| walk_at "atx") => `(tactic| fail)
local macro_rules | `(tactic| walk_at "c_h") => `(tactic| first
  | with_reducible assumption
  | ((with_reducible apply hat_s); (with_reducible assumption); walk_at "c_h"))
local macro_rules | `(tactic| walk_at "c_n") => `(tactic| first
  | with_reducible assumption
  | ((with_reducible apply hat_ne); (with_reducible assumption); walk_at "c_h"))
local macro_rules | `(tactic| walk_at "c_o") => `(tactic| first
  | with_reducible assumption
  | with_reducible exact upd_same
  | ((with_reducible apply at_s); (with_reducible assumption); walk_at "c_o")
  | ((with_reducible apply atd_tup); (with_reducible assumption); walk_at "c_h"; walk_at "c_o")
  | ((with_reducible apply atd_ins); (with_reducible assumption); walk_at "c_h"; walk_at "c_o")
  | ((with_reducible apply atd_lst); (with_reducible assumption); walk_at "c_n"; walk_at "c_o")
  | ((with_reducible apply atx_tup); (with_reducible assumption); walk_at "c_o"; walk_at "c_o")
  | ((with_reducible apply atx_ins); (with_reducible assumption); walk_at "c_o"; walk_at "c_o")
  | ((with_reducible apply atx_ne); (with_reducible assumption); (with_reducible assumption); walk_at "c_o"))
local macro_rules | `(tactic| walk_at "c_q") => `(tactic| first
  | with_reducible assumption
  | ((with_reducible apply sqL_s); (with_reducible assumption); walk_at "c_q"))
local macro_rules | `(tactic| walk_at "c_t") => `(tactic| first
  | with_reducible assumption
  | ((with_reducible apply sqT_s); (with_reducible assumption); walk_at "c_t")
  | ((with_reducible apply sqT_d); (with_reducible assumption); walk_at "c_h"; walk_at "c_t")
  | ((with_reducible apply sqT_x); (with_reducible assumption); walk_at "c_o"; walk_at "c_t"))
local macro_rules | `(tactic| walk_at "c_p") => `(tactic| first
  | with_reducible assumption
  | ((with_reducible apply pairs_s); (with_reducible assumption); walk_at "c_p"))
local macro_rules | `(tactic| walk_at "at") => `(tactic| first
  | with_reducible assumption
  | with_reducible exact upd_same
  | walk_at "atx"
  | ((with_reducible apply sqL_at); walk_at "c_o")
  | ((with_reducible apply sqL_s); (with_reducible assumption); walk_at "c_q")
  | ((with_reducible apply sqT_at); walk_at "c_o")
  | ((with_reducible apply sqT_id); walk_at "c_t")
  | ((with_reducible apply hat_id); walk_at "c_h")
  | ((with_reducible apply pairs_id); walk_at "c_p")
  | ((with_reducible apply ne_id); walk_at "c_n")
  | ((with_reducible apply at_id); walk_at "c_o"))
/-! a length, an inequality -/
local macro_rules | `(tactic| walk_at "le") => `(tactic| first | exact Nat.le_of_ble_eq_true rfl | omega | (simp; done) | (simp; omega))
local macro_rules | `(tactic| walk_at "ar") => `(tactic| first | omega | exact ⟨by omega, by omega⟩ | exact .inl ⟨by omega, by omega⟩ | exact .inr ⟨by omega, by omega⟩ | exact .inr (by omega) | exact .inl (by omega) | exact ⟨by omega, by omega, by omega⟩ | decide)
/-! calls of the text's own defs, with letters for what they leave -/
local macro_rules | `(tactic| walk_at "use") => `(tactic| fail)
local macro_rules | `(tactic| walk_at "go1") => `(tactic| first
  | walk_at "rd1"
  | walk_at "fact"
  | walk_at "use"
  | with_reducible refine r_p6 ?_
  | with_reducible refine r_p8 ?_
  | with_reducible refine r_p9 ?_
  | with_reducible refine r_p10 ?_
  | with_reducible refine r_p12 ?_
  | with_reducible refine r_p14 ?_
  | with_reducible refine r_p15 ?_
  | with_reducible refine r_p17 ?_
  | with_reducible refine r_p18 ?_
  | ((with_reducible apply r_I); walk_at "ar")
  | ((with_reducible apply a_neNil); walk_at "at"; intro _ _)
  | ((with_reducible apply a_eqNil); walk_at "at"; intro _ _)
  | ((with_reducible apply a_nwT); walk_at "le"; intro _ _ _ _ _)
  | ((with_reducible apply a_nwL); walk_at "le"; intro _ _ _ _ _)
  | ((with_reducible apply r_ixL (j := 0)); walk_at "at"; rfl; rfl)
  | ((with_reducible apply r_ixL (j := 1)); walk_at "at"; rfl; rfl)
  | ((with_reducible apply r_ixL (j := 2)); walk_at "at"; rfl; rfl)
  | ((with_reducible apply r_ixL (j := 3)); walk_at "at"; rfl; rfl)
  | ((with_reducible apply r_ixT (j := 0)); walk_at "at"; rfl; rfl)
  | ((with_reducible apply r_ixT (j := 1)); walk_at "at"; rfl; rfl)
  | ((with_reducible apply r_ixT (j := 2)); walk_at "at"; rfl; rfl)
  | ((with_reducible apply a_pick2); walk_at "at"; omega; omega; intro _ _)
  | ((with_reducible apply a_pick3); walk_at "at"; omega; omega; intro _ _)
  | ((with_reducible apply a_pick4); walk_at "at"; omega; omega; intro _ _)
  | ((with_reducible apply r_gtup); walk_at "at"; rfl)
  | ((with_reducible apply a_lenLI); walk_at "at")
  | ((with_reducible apply r_lenL); walk_at "at")
  | ((with_reducible apply r_lenT); walk_at "at")
  | ((with_reducible apply r_tyL); walk_at "at")
  | ((with_reducible apply a_cat); walk_at "at"; walk_at "at"; walk_at "le"; intro _ _ _ _ _)
  | ((with_reducible apply a_listL); walk_at "at"; intro _ _ _ _ _)
  | ((with_reducible apply a_tupL); walk_at "at"; intro _ _ _ _ _)
  | ((with_reducible apply a_slL); walk_at "at"; intro _ _ _ _ _)
  | ((with_reducible apply a_revL); walk_at "at"; intro _ _ _ _ _)
  | ((with_reducible apply r_sumT); walk_at "at")
  | ((with_reducible apply r_sumL); walk_at "at")
  | ((with_reducible refine ⟨_, rfl, ?_, ?_, ?_⟩); omega; omega)
  | ((with_reducible refine ⟨_, _, rfl, ⟨?_, ?_, ?_, ?_⟩, ?_⟩); omega; omega; omega; omega)
  | with_reducible refine ⟨_, rfl, ⟨_, by walk_at "at"⟩, ?_⟩)
local macro_rules | `(tactic| walk_at "go") => `(tactic| (repeat (walk_at "go1")))
local macro_rules | `(tactic| walk_at "sames") => `(tactic| first | exact sameR | assumption | ((with_reducible apply sameB); assumption; walk_at "sames"))
local macro_rules | `(tactic| walk_at "sameds") => `(tactic| first | assumption | ((with_reducible apply sameD_of); walk_at "sames"; done) | ((with_reducible apply sameDB); assumption; walk_at "sameds") | ((with_reducible apply sameDS); assumption; walk_at "sameds"))
local macro_rules | `(tactic| walk_at "gs") => `(tactic| (repeat ((fail_if_success (with_reducible refine r_stop ?_)); (walk_at "go1"))))
local macro_rules | `(tactic| walk_at "c_d") => `(tactic| first
  | with_reducible assumption
  | ((with_reducible apply bakD_s); (with_reducible assumption); walk_at "c_d")
  | ((with_reducible apply bakD_d); (with_reducible assumption); walk_at "c_h"; walk_at "c_d"))
local macro_rules | `(tactic| walk_at "c_b") => `(tactic| first
  | with_reducible assumption
  | ((with_reducible apply bakAt_s); (with_reducible assumption); walk_at "c_b"))
local macro_rules | `(tactic| walk_at "c_a") => `(tactic| first
  | with_reducible assumption
  | ((with_reducible apply bakAt_D); walk_at "c_d")
  | walk_at "c_b")
local macro_rules | `(tactic| walk_at "c_m1") => `(tactic| first
  | with_reducible assumption
  | ((with_reducible apply bakM_s); (with_reducible assumption); walk_at "c_m1"))
local macro_rules | `(tactic| walk_at "c_m") => `(tactic| first
  | with_reducible assumption
  | ((with_reducible apply bakM_at); walk_at "c_a")
  | walk_at "c_m1")
local macro_rules | `(tactic| walk_at "atx") => `(tactic| first
  | ((with_reducible apply bakD_id); walk_at "c_d")
  | ((with_reducible apply bakAt_id); walk_at "c_a")
  | ((with_reducible apply bakM_id); walk_at "c_m")
  | ((with_reducible apply bakC_M); walk_at "c_m"))
local macro_rules | `(tactic| walk_at "ok") => `(tactic| first | assumption | exact BakD.ok (by assumption) | exact BakAt.ok (by assumption))
local macro_rules | `(tactic| walk_at "use") => `(tactic| first
  | ((with_reducible apply mBk); walk_at "at"; decide)
  | ((with_reducible apply pBk); walk_at "at")
  | ((with_reducible apply use_stk); walk_at "at"; omega; omega; intro _ _)
  | ((with_reducible apply use_msd); walk_at "at"; omega; omega; intro _ _)
  | ((with_reducible apply use_thn); walk_at "at"; omega; omega; intro _ _)
  | ((with_reducible apply use_sld); walk_at "at"; omega; omega; intro _ _)
  | ((with_reducible apply use_tot); walk_at "at"; omega; omega; intro _ _ _ _)
  | ((with_reducible apply use_shf); walk_at "at"; omega; omega; intro _ _ _ _ _ _)
  | ((with_reducible apply use_sdy); walk_at "at"; intro _ _ _)
  | ((with_reducible apply use_lrn); walk_at "at"; intro _ _ _ _)
  | ((with_reducible apply use_bks); walk_at "at"; intro _ _)
  | ((with_reducible apply use_dms); walk_at "at"; intro _ _)
  | ((with_reducible apply use_lif); walk_at "at")
  | ((with_reducible apply use_nxt); walk_at "at"; omega; omega; intro _ _ _ _ _ _)
  | ((with_reducible apply use_num); omega; omega)
  | ((with_reducible apply use_liv); walk_at "at"; (exact liv_ok (by walk_at "ok") (by omega) (by omega)); intro _ _ _ _)
  | ((with_reducible apply use_mor); walk_at "at"; assumption; intro _ _ _ _)
  | ((with_reducible apply a_maxB); walk_at "at"; walk_at "ok"; intro _ _ _)
  | ((with_reducible apply a_minB); walk_at "at"; walk_at "ok"; intro _ _ _)
  | with_reducible refine r_cvalR (fcv_Bakery_MAX_LIFE ‹_›) ?_
  | ((with_reducible apply a_lenTB); walk_at "at")
  | ((with_reducible apply a_lenTD); walk_at "at"; walk_at "ok")
  | ((with_reducible apply a_ixD); walk_at "at"; walk_at "ok")
  | ((with_reducible apply a_ixB); walk_at "at"; walk_at "ok"; omega))
local macro_rules | `(tactic| walk_at "alk") => `(tactic| first
  | ((with_reducible apply alk_tup); walk_at "at"; walk_at "at"; walk_at "le")
  | ((with_reducible apply alk_lst); walk_at "at"; walk_at "at"; walk_at "le")
  | ((with_reducible apply use_alkL); walk_at "at"; walk_at "at"; walk_at "le")
  | ((with_reducible apply use_alkT); walk_at "at"; walk_at "at"; walk_at "le"))
open LamX NdefX
/-- a call that leaves anything, or raises InvalidNumber -/
def NumK (K : PySem.W.Frag) (hi x : Int) (H : Hp) (Q : VK) (E : XK) : Prop := TabsF (TL K) H ∧ (0 ≤ x → x ≤ hi → ∀ v H', ExtN H H' → TabsF (TL K) H' → Q v H') ∧ ((x < 0 ∨ hi < x) → NumE K E H)
def splNb (K : PySem.W.Frag) (hi : Int) : List (Option V) → Sp := fun ws vs H Q E => ∃ (a : Addr) (B : Bak) (x : Int), ws = [some (.int x), some (.ref a)] ∧ vs = [] ∧ BakAt K H a B ∧ NumK K hi x H Q E
def splBn (K : PySem.W.Frag) (hi : Int) : List (Option V) → Sp := fun ws vs H Q E => ∃ (a : Addr) (B : Bak) (x : Int), ws = [some (.ref a), some (.int x)] ∧ vs = [] ∧ BakAt K H a B ∧ NumK K hi x H Q E
theorem use_nxV {K : PySem.W.Frag} {f : Bak → Nat → Int} {H : Hp} {Q : VK} {E : XK} {a : Addr} {B : Bak} {x : Int} (hb : BakAt K H a B) (x0 : 0 ≤ x) (x1 : x ≤ 1000000000000000000) (hT : TabsF (TL K) H)
    (k : ∀ v H', ExtN H H' → TabsF (TL K) H' → Q v H') : spNx K f [.ref a, .int x] H Q E :=
  use_nx hb x0 x1 hT (fun m H' x' t fs => k _ H' x' t) (fun H' x' t z => k _ H' x' t)
theorem top_ex {l : List Int} (h : l ≠ []) : ∃ top, 1000000000 - top ∈ l ∧ ∀ x ∈ l, x ≤ 1000000000 - top := by
  have key : ∀ l : List Int, l ≠ [] → ∃ m, m ∈ l ∧ ∀ x ∈ l, x ≤ m := by
    intro l
    induction l with
    | nil => intro h; exact absurd rfl h
    | cons a l ih =>
      intro _
      by_cases e : l = []
      · subst e
        exact ⟨a, List.mem_cons_self, fun x hx => by rcases List.mem_cons.mp hx with rfl | h; exact Int.le_refl _; cases h⟩
      · obtain ⟨m, hm, hx⟩ := ih e
        by_cases le : a ≤ m
        · exact ⟨m, List.mem_cons_of_mem _ hm, fun x h => by rcases List.mem_cons.mp h with rfl | h; exact le; exact hx x h⟩
        · exact ⟨a, List.mem_cons_self, fun x h => by rcases List.mem_cons.mp h with rfl | h; exact Int.le_refl _; have := hx x h; omega⟩
  obtain ⟨m, hm, hx⟩ := key l h
  exact ⟨1000000000 - m, by rw [show 1000000000 - (1000000000 - m) = m by omega]; exact hm, fun x h => by have := hx x h; omega⟩
theorem okl_law_0 {P : Program} {w : World} {K : PySem.W.Frag} {mg : Str → Option Value} {base : Heap} (T : Tx K mg) : LOk P w K mg base 7 lm_law_0 [] ["_law_number", "_law_bakery"] [] (splNb K 1000000000000000000) := by
  have G_Bakery_stock := ok_Bakery_stock (P := P) (w := w) (base := base) T
  have G_Bakery_stock_x := ok_Bakery_stock_x (P := P) (w := w) (base := base) T
  refine lok_of ns_law_0 lb_law_0 (fun ws vs H Q E h => ?_) (fun F f A outer s H vs ws Q E hd hr hw h => ?_)
  · obtain ⟨a, B, x, rfl, rfl, hb, hT, k1, k2⟩ := h
    rfl
  obtain ⟨a, B, x, rfl, rfl, hb, hT, k1, k2⟩ := h
  obtain ⟨_, _, _, _, _⟩ := F
  cases hd
  refine ⟨_, (pe_two (C8.pe_mt G_Bakery_stock hr (by decide) (pv 1) (pa_cons (pv 0) pa_nil)) (pe_mX G_Bakery_stock_x hr (by decide) (passes_call (takes_of rfl rfl rfl rfl) fun _ _ _ _ h => h) (pv 1) (pa_cons (pv 0) pa_nil))), ?_⟩
  try dsimp only [cxOf, Cx.nox, Cx.wish, NdefX.ncx]
  repeat rw [st_cons]
  repeat rw [st_none]
  try rw [st_nn]
  walk_at "rd"
  by_cases h : 0 ≤ x ∧ x ≤ 1000000000000000000
  · obtain ⟨h0, h1⟩ := h
    refine r_two1 ?_
    walk_at "go"
    exact k1 h0 h1 _ _ (extN_s (by walk_at "sames")) (tabsF_s (by walk_at "sames") hT)
  · refine r_two2 ?_
    walk_at "rd"
    refine mBk (bakC_M (bakM_at hb)) (by decide) ?_
    walk_at "rd"
    exact use_nX (by omega) (k2 (by omega))
theorem okl_law_1 {P : Program} {w : World} {K : PySem.W.Frag} {mg : Str → Option Value} {base : Heap} (T : Tx K mg) : LOk P w K mg base 8 lm_law_1 ["_law_a"] ["_law_number", "_law_bakery"] [.int 0] (splNb K 1000000000000000000) := by
  have G_Bakery_sold := ok_Bakery_sold (P := P) (w := w) (base := base) T
  have G_Bakery_sold_x := ok_Bakery_sold_x (P := P) (w := w) (base := base) T
  refine lok_of ns_law_1 lb_law_1 (fun ws vs H Q E h => ?_) (fun F f A outer s H vs ws Q E hd hr hw h => ?_)
  · obtain ⟨a, B, x, rfl, rfl, hb, hT, k1, k2⟩ := h
    rfl
  obtain ⟨a, B, x, rfl, rfl, hb, hT, k1, k2⟩ := h
  obtain ⟨_, _, _, _, _⟩ := F
  cases hd
  refine ⟨_, (pe_two (C8.pe_mt G_Bakery_sold hr (by decide) (pv 2) (pa_cons (pv 1) pa_nil)) (pe_mX G_Bakery_sold_x hr (by decide) (passes_call (takes_of rfl rfl rfl rfl) fun _ _ _ _ h => h) (pv 2) (pa_cons (pv 1) pa_nil))), ?_⟩
  try dsimp only [cxOf, Cx.nox, Cx.wish, NdefX.ncx]
  repeat rw [st_cons]
  repeat rw [st_none]
  try rw [st_nn]
  walk_at "rd"
  by_cases h : 0 ≤ x ∧ x ≤ 1000000000000000000
  · obtain ⟨h0, h1⟩ := h
    refine r_two1 ?_
    walk_at "go"
    exact k1 h0 h1 _ _ (extN_s (by walk_at "sames")) (tabsF_s (by walk_at "sames") hT)
  · refine r_two2 ?_
    walk_at "rd"
    refine mBk (bakC_M (bakM_at hb)) (by decide) ?_
    walk_at "rd"
    exact use_sldX hb (by omega) (k2 (by omega))
theorem okl_law_2 {P : Program} {w : World} {K : PySem.W.Frag} {mg : Str → Option Value} {base : Heap} (T : Tx K mg) : LOk P w K mg base 7 lm_law_2 ["_law_b"] ["_law_number", "_law_bakery"] [.int 0] (splNb K 1000000000000000000) := by
  have G_Bakery_missed := ok_Bakery_missed (P := P) (w := w) (base := base) T
  have G_Bakery_missed_x := ok_Bakery_missed_x (P := P) (w := w) (base := base) T
  refine lok_of ns_law_2 lb_law_2 (fun ws vs H Q E h => ?_) (fun F f A outer s H vs ws Q E hd hr hw h => ?_)
  · obtain ⟨a, B, x, rfl, rfl, hb, hT, k1, k2⟩ := h
    rfl
  obtain ⟨a, B, x, rfl, rfl, hb, hT, k1, k2⟩ := h
  obtain ⟨_, _, _, _, _⟩ := F
  cases hd
  refine ⟨_, (pe_two (C8.pe_mt G_Bakery_missed hr (by decide) (pv 2) (pa_cons (pv 1) pa_nil)) (pe_mX G_Bakery_missed_x hr (by decide) (passes_call (takes_of rfl rfl rfl rfl) fun _ _ _ _ h => h) (pv 2) (pa_cons (pv 1) pa_nil))), ?_⟩
  try dsimp only [cxOf, Cx.nox, Cx.wish, NdefX.ncx]
  repeat rw [st_cons]
  repeat rw [st_none]
  try rw [st_nn]
  walk_at "rd"
  by_cases h : 0 ≤ x ∧ x ≤ 1000000000000000000
  · obtain ⟨h0, h1⟩ := h
    refine r_two1 ?_
    walk_at "go"
    exact k1 h0 h1 _ _ (extN_s (by walk_at "sames")) (tabsF_s (by walk_at "sames") hT)
  · refine r_two2 ?_
    walk_at "rd"
    refine mBk (bakC_M (bakM_at hb)) (by decide) ?_
    walk_at "rd"
    exact use_nX (by omega) (k2 (by omega))
theorem okl_law_3 {P : Program} {w : World} {K : PySem.W.Frag} {mg : Str → Option Value} {base : Heap} (T : Tx K mg) : LOk P w K mg base 7 lm_law_3 [] ["_law_number", "_law_bakery"] [] (splNb K 1000000000000000000) := by
  have G_Bakery_thrown := ok_Bakery_thrown (P := P) (w := w) (base := base) T
  have G_Bakery_thrown_x := ok_Bakery_thrown_x (P := P) (w := w) (base := base) T
  refine lok_of ns_law_3 lb_law_3 (fun ws vs H Q E h => ?_) (fun F f A outer s H vs ws Q E hd hr hw h => ?_)
  · obtain ⟨a, B, x, rfl, rfl, hb, hT, k1, k2⟩ := h
    rfl
  obtain ⟨a, B, x, rfl, rfl, hb, hT, k1, k2⟩ := h
  obtain ⟨_, _, _, _, _⟩ := F
  cases hd
  refine ⟨_, (pe_two (C8.pe_mt G_Bakery_thrown hr (by decide) (pv 1) (pa_cons (pv 0) pa_nil)) (pe_mX G_Bakery_thrown_x hr (by decide) (passes_call (takes_of rfl rfl rfl rfl) fun _ _ _ _ h => h) (pv 1) (pa_cons (pv 0) pa_nil))), ?_⟩
  try dsimp only [cxOf, Cx.nox, Cx.wish, NdefX.ncx]
  repeat rw [st_cons]
  repeat rw [st_none]
  try rw [st_nn]
  walk_at "rd"
  by_cases h : 0 ≤ x ∧ x ≤ 1000000000000000000
  · obtain ⟨h0, h1⟩ := h
    refine r_two1 ?_
    walk_at "go"
    exact k1 h0 h1 _ _ (extN_s (by walk_at "sames")) (tabsF_s (by walk_at "sames") hT)
  · refine r_two2 ?_
    walk_at "rd"
    refine mBk (bakC_M (bakM_at hb)) (by decide) ?_
    walk_at "rd"
    exact use_nX (by omega) (k2 (by omega))
theorem okl_law_4 {P : Program} {w : World} {K : PySem.W.Frag} {mg : Str → Option Value} {base : Heap} (T : Tx K mg) : LOk P w K mg base 7 lm_law_4 ["_law_a"] ["_law_number", "_law_bakery"] [.int 0] (splNb K 1000000000000000000) := by
  have G_Bakery_shelf := ok_Bakery_shelf (P := P) (w := w) (base := base) T
  have G_Bakery_shelf_x := ok_Bakery_shelf_x (P := P) (w := w) (base := base) T
  refine lok_of ns_law_4 lb_law_4 (fun ws vs H Q E h => ?_) (fun F f A outer s H vs ws Q E hd hr hw h => ?_)
  · obtain ⟨a, B, x, rfl, rfl, hb, hT, k1, k2⟩ := h
    rfl
  obtain ⟨a, B, x, rfl, rfl, hb, hT, k1, k2⟩ := h
  obtain ⟨_, _, _, _, _⟩ := F
  cases hd
  refine ⟨_, (pe_two (C8.pe_mt G_Bakery_shelf hr (by decide) (pv 2) (pa_cons (pv 1) pa_nil)) (pe_mX G_Bakery_shelf_x hr (by decide) (passes_call (takes_of rfl rfl rfl rfl) fun _ _ _ _ h => h) (pv 2) (pa_cons (pv 1) pa_nil))), ?_⟩
  try dsimp only [cxOf, Cx.nox, Cx.wish, NdefX.ncx]
  repeat rw [st_cons]
  repeat rw [st_none]
  try rw [st_nn]
  walk_at "rd"
  by_cases h : 0 ≤ x ∧ x ≤ 1000000000000000000
  · obtain ⟨h0, h1⟩ := h
    refine r_two1 ?_
    walk_at "go"
    exact k1 h0 h1 _ _ (extN_s (by walk_at "sames")) (tabsF_s (by walk_at "sames") hT)
  · refine r_two2 ?_
    walk_at "rd"
    refine mBk (bakC_M (bakM_at hb)) (by decide) ?_
    walk_at "rd"
    exact use_nX (by omega) (k2 (by omega))
theorem okl_law_5 {P : Program} {w : World} {K : PySem.W.Frag} {mg : Str → Option Value} {base : Heap} (T : Tx K mg) : LOk P w K mg base 6 lm_law_5 ["_law_b"] ["_law_number", "_law_bakery"] [.int 0] (splNb K 1000000000000000000) := by
  have G_Bakery_totals := ok_Bakery_totals (P := P) (w := w) (base := base) T
  have G_Bakery_totals_x := ok_Bakery_totals_x (P := P) (w := w) (base := base) T
  refine lok_of ns_law_5 lb_law_5 (fun ws vs H Q E h => ?_) (fun F f A outer s H vs ws Q E hd hr hw h => ?_)
  · obtain ⟨a, B, x, rfl, rfl, hb, hT, k1, k2⟩ := h
    rfl
  obtain ⟨a, B, x, rfl, rfl, hb, hT, k1, k2⟩ := h
  obtain ⟨_, _, _, _, _⟩ := F
  cases hd
  refine ⟨_, (pe_two (C8.pe_mt G_Bakery_totals hr (by decide) (pv 2) (pa_cons (pv 1) pa_nil)) (pe_mX G_Bakery_totals_x hr (by decide) (passes_call (takes_of rfl rfl rfl rfl) fun _ _ _ _ h => h) (pv 2) (pa_cons (pv 1) pa_nil))), ?_⟩
  try dsimp only [cxOf, Cx.nox, Cx.wish, NdefX.ncx]
  repeat rw [st_cons]
  repeat rw [st_none]
  try rw [st_nn]
  walk_at "rd"
  by_cases h : 0 ≤ x ∧ x ≤ 1000000000000000000
  · obtain ⟨h0, h1⟩ := h
    refine r_two1 ?_
    walk_at "go"
    exact k1 h0 h1 _ _ (extN_s (by walk_at "sames")) (tabsF_s (by walk_at "sames") hT)
  · refine r_two2 ?_
    walk_at "rd"
    refine mBk (bakC_M (bakM_at hb)) (by decide) ?_
    walk_at "rd"
    exact use_nX (by omega) (k2 (by omega))
theorem okl_law_6 {P : Program} {w : World} {K : PySem.W.Frag} {mg : Str → Option Value} {base : Heap} (TB : TxB K mg base) : LOk P w K mg base 9 lm_law_6 [] ["_law_bakery", "_law_number"] [] (splBn K 1000000000000000000) := by
  have T := TB.t
  have G_next_missed := ok_next_missed (P := P) (w := w) (base := base) TB
  have G_next_missed_x := ok_next_missed_x (P := P) (w := w) (base := base) T
  refine lok_of ns_law_6 lb_law_6 (fun ws vs H Q E h => ?_) (fun F f A outer s H vs ws Q E hd hr hw h => ?_)
  · obtain ⟨a, B, x, rfl, rfl, hb, hT, k1, k2⟩ := h
    rfl
  obtain ⟨a, B, x, rfl, rfl, hb, hT, k1, k2⟩ := h
  obtain ⟨_, _, _, _, _⟩ := F
  cases hd
  refine ⟨_, (pe_two (C8.pe_c G_next_missed hr (by decide) (by rfl) (pa_cons (pv 0) (pa_cons (pv 1) pa_nil))) (pe_cX G_next_missed_x hr (by decide) (by rfl) (passes_call (takes_of rfl rfl rfl rfl) fun _ _ _ _ h => h) (pa_cons (pv 0) (pa_cons (pv 1) pa_nil)))), ?_⟩
  try dsimp only [cxOf, Cx.nox, Cx.wish, NdefX.ncx]
  repeat rw [st_cons]
  repeat rw [st_none]
  try rw [st_nn]
  walk_at "rd"
  by_cases h : 0 ≤ x ∧ x ≤ 1000000000000000000
  · obtain ⟨h0, h1⟩ := h
    refine r_two1 ?_
    walk_at "rd"
    exact use_nxV hb h0 h1 hT fun v H' e t => k1 h0 h1 v H' e t
  · refine r_two2 ?_
    walk_at "rd"
    exact use_nX (by omega) (k2 (by omega))
theorem okl_law_7 {P : Program} {w : World} {K : PySem.W.Frag} {mg : Str → Option Value} {base : Heap} (TB : TxB K mg base) : LOk P w K mg base 9 lm_law_7 ["_law_a"] ["_law_bakery", "_law_number"] [.int 0] (splBn K 1000000000000000000) := by
  have T := TB.t
  have G_next_thrown := ok_next_thrown (P := P) (w := w) (base := base) TB
  have G_next_thrown_x := ok_next_thrown_x (P := P) (w := w) (base := base) T
  refine lok_of ns_law_7 lb_law_7 (fun ws vs H Q E h => ?_) (fun F f A outer s H vs ws Q E hd hr hw h => ?_)
  · obtain ⟨a, B, x, rfl, rfl, hb, hT, k1, k2⟩ := h
    rfl
  obtain ⟨a, B, x, rfl, rfl, hb, hT, k1, k2⟩ := h
  obtain ⟨_, _, _, _, _⟩ := F
  cases hd
  refine ⟨_, (pe_two (C8.pe_c G_next_thrown hr (by decide) (by rfl) (pa_cons (pv 1) (pa_cons (pv 2) pa_nil))) (pe_cX G_next_thrown_x hr (by decide) (by rfl) (passes_call (takes_of rfl rfl rfl rfl) fun _ _ _ _ h => h) (pa_cons (pv 1) (pa_cons (pv 2) pa_nil)))), ?_⟩
  try dsimp only [cxOf, Cx.nox, Cx.wish, NdefX.ncx]
  repeat rw [st_cons]
  repeat rw [st_none]
  try rw [st_nn]
  walk_at "rd"
  by_cases h : 0 ≤ x ∧ x ≤ 1000000000000000000
  · obtain ⟨h0, h1⟩ := h
    refine r_two1 ?_
    walk_at "rd"
    exact use_nxV hb h0 h1 hT fun v H' e t => k1 h0 h1 v H' e t
  · refine r_two2 ?_
    walk_at "rd"
    exact use_nX (by omega) (k2 (by omega))
theorem okl_law_8 {P : Program} {w : World} {K : PySem.W.Frag} {mg : Str → Option Value} {base : Heap} (T : Tx K mg) : LOk P w K mg base 12 lm_law_8 [] ["_law_bakery", "_law_number"] [] (splBn K 1000000000000) := by
  have G_least_life := ok_least_life (P := P) (w := w) (base := base) T
  have G_least_life_x := ok_least_life_x (P := P) (w := w) (base := base) T
  refine lok_of ns_law_8 lb_law_8 (fun ws vs H Q E h => ?_) (fun F f A outer s H vs ws Q E hd hr hw h => ?_)
  · obtain ⟨a, B, x, rfl, rfl, hb, hT, k1, k2⟩ := h
    rfl
  obtain ⟨a, B, x, rfl, rfl, hb, hT, k1, k2⟩ := h
  obtain ⟨_, _, _, _, _⟩ := F
  cases hd
  refine ⟨_, (pe_two (C8.pe_c G_least_life hr (by decide) (by rfl) (pa_cons (pv 0) (pa_cons (pv 1) pa_nil))) (pe_cX G_least_life_x hr (by decide) (by rfl) (passes_call (takes_of rfl rfl rfl rfl) fun _ _ _ _ h => h) (pa_cons (pv 0) (pa_cons (pv 1) pa_nil)))), ?_⟩
  try dsimp only [cxOf, Cx.nox, Cx.wish, NdefX.ncx]
  repeat rw [st_cons]
  repeat rw [st_none]
  try rw [st_nn]
  walk_at "rd"
  by_cases h : 0 ≤ x ∧ x ≤ 1000000000000
  · obtain ⟨h0, h1⟩ := h
    refine r_two1 ?_
    walk_at "rd"
    exact use_llf (bakM_at hb) h0 h1 (fun i H' _ s _ _ => k1 h0 h1 _ _ (extN_s s) (tabsF_s s hT)) (fun H' s _ => k1 h0 h1 _ _ (extN_s s) (tabsF_s s hT))
  · refine r_two2 ?_
    walk_at "rd"
    exact use_nX (by omega) (k2 (by omega))
theorem okl_law_9 {P : Program} {w : World} {K : PySem.W.Frag} {mg : Str → Option Value} {base : Heap} (T : Tx K mg) : LOk P w K mg base 12 lm_law_9 ["_law_a"] ["_law_bakery", "_law_number"] [.int 0] (splBn K 1000000000000) := by
  have G_least_baking := ok_least_baking (P := P) (w := w) (base := base) T
  have G_least_baking_x := ok_least_baking_x (P := P) (w := w) (base := base) T
  refine lok_of ns_law_9 lb_law_9 (fun ws vs H Q E h => ?_) (fun F f A outer s H vs ws Q E hd hr hw h => ?_)
  · obtain ⟨a, B, x, rfl, rfl, hb, hT, k1, k2⟩ := h
    rfl
  obtain ⟨a, B, x, rfl, rfl, hb, hT, k1, k2⟩ := h
  obtain ⟨_, _, _, _, _⟩ := F
  cases hd
  refine ⟨_, (pe_two (C8.pe_c G_least_baking hr (by decide) (by rfl) (pa_cons (pv 1) (pa_cons (pv 2) pa_nil))) (pe_cX G_least_baking_x hr (by decide) (by rfl) (passes_call (takes_of rfl rfl rfl rfl) fun _ _ _ _ h => h) (pa_cons (pv 1) (pa_cons (pv 2) pa_nil)))), ?_⟩
  try dsimp only [cxOf, Cx.nox, Cx.wish, NdefX.ncx]
  repeat rw [st_cons]
  repeat rw [st_none]
  try rw [st_nn]
  walk_at "rd"
  by_cases h : 0 ≤ x ∧ x ≤ 1000000000000
  · obtain ⟨h0, h1⟩ := h
    refine r_two1 ?_
    walk_at "rd"
    obtain ⟨top, ht, hle⟩ := top_ex hb.1.nb
    exact use_lbk (bakM_at hb) h0 h1 ht hle (fun c H' _ _ s _ _ => k1 h0 h1 _ _ (extN_s s) (tabsF_s s hT)) (fun H' s _ => k1 h0 h1 _ _ (extN_s s) (tabsF_s s hT))
  · refine r_two2 ?_
    walk_at "rd"
    exact use_nX (by omega) (k2 (by omega))
theorem okl_law_10 {P : Program} {w : World} {K : PySem.W.Frag} {mg : Str → Option Value} {base : Heap} (T : Tx K mg) : LOk P w K mg base 5 lm_law_10 [] ["_law_bakery", "_law_number"] [] (splBn K 1000) := by
  have G_newest_first := ok_newest_first (P := P) (w := w) (base := base) T
  have G_newest_first_x := ok_newest_first_x (P := P) (w := w) (base := base) T
  refine lok_of ns_law_10 lb_law_10 (fun ws vs H Q E h => ?_) (fun F f A outer s H vs ws Q E hd hr hw h => ?_)
  · obtain ⟨a, B, x, rfl, rfl, hb, hT, k1, k2⟩ := h
    rfl
  obtain ⟨a, B, x, rfl, rfl, hb, hT, k1, k2⟩ := h
  obtain ⟨_, _, _, _, _⟩ := F
  cases hd
  refine ⟨_, (pe_two (C8.pe_c G_newest_first hr (by decide) (by rfl) (pa_cons (pv 0) (pa_cons (pv 1) pa_nil))) (pe_cX G_newest_first_x hr (by decide) (by rfl) (passes_call (takes_of rfl rfl rfl rfl) fun _ _ _ _ h => h) (pa_cons (pv 0) (pa_cons (pv 1) pa_nil)))), ?_⟩
  try dsimp only [cxOf, Cx.nox, Cx.wish, NdefX.ncx]
  repeat rw [st_cons]
  repeat rw [st_none]
  try rw [st_nn]
  walk_at "rd"
  by_cases h : 0 ≤ x ∧ x ≤ 1000
  · obtain ⟨h0, h1⟩ := h
    refine r_two1 ?_
    walk_at "rd"
    exact ⟨a, B, x.toNat, by rw [show ((x.toNat : Nat) : Int) = x by omega], bakM_at hb, by omega, fun p H' s _ => k1 h0 h1 _ _ (extN_s s) (tabsF_s s hT)⟩
  · refine r_two2 ?_
    walk_at "rd"
    exact use_nX (by omega) (k2 (by omega))
/-- an observer asked for a day out of range -/
def splOb (K : PySem.W.Frag) : List (Option V) → Sp := fun ws vs H _ E => ∃ (a tn : Addr) (x : Int), ws = [some (.int x), some (.ref a)] ∧ vs = [] ∧ Obs0 K H a tn ∧ (x < 0 ∨ 1000000000000000000 < x) ∧ NumE K E H
theorem okl_law_11 {P : Program} {w : World} {K : PySem.W.Frag} {mg : Str → Option Value} {base : Heap} (T : Tx K mg) : LOk P w K mg base 3 lm_law_11 [] ["_law_far", "_law_observer"] [] (splOb K) := by
  have G_LifeObserver_see_sold_x := ok_LifeObserver_see_sold_x (P := P) (w := w) (base := base) T
  refine lok_of ns_law_11 lb_law_11 (fun ws vs H Q E h => ?_) (fun F f A outer s H vs ws Q E hd hr hw h => ?_)
  · obtain ⟨a, tn, x, rfl, rfl, ⟨dx, tl, tv, ha, hn⟩, h, k⟩ := h
    rfl
  obtain ⟨a, tn, x, rfl, rfl, ⟨dx, tl, tv, ha, hn⟩, h, k⟩ := h
  obtain ⟨_, _, _, _, _⟩ := F
  cases hd
  refine ⟨_, (pe_mX G_LifeObserver_see_sold_x hr (by decide) (passes_call (takes_of rfl rfl rfl rfl) fun _ _ _ _ h => h) (pv 1) (pa_cons (pv 0) (pa_cons pe_int pa_nil))), ?_⟩
  try dsimp only [cxOf, Cx.nox, Cx.wish, NdefX.ncx]
  repeat rw [st_cons]
  repeat rw [st_none]
  try rw [st_nn]
  walk_at "rd"
  refine r_metR ha rfl ?_
  walk_at "rd"
  exact use_nX3 h k
theorem okl_law_12 {P : Program} {w : World} {K : PySem.W.Frag} {mg : Str → Option Value} {base : Heap} (T : Tx K mg) : LOk P w K mg base 3 lm_law_12 ["_law_a"] ["_law_far", "_law_observer"] [.int 0] (splOb K) := by
  have G_LifeObserver_see_thrown_x := ok_LifeObserver_see_thrown_x (P := P) (w := w) (base := base) T
  refine lok_of ns_law_12 lb_law_12 (fun ws vs H Q E h => ?_) (fun F f A outer s H vs ws Q E hd hr hw h => ?_)
  · obtain ⟨a, tn, x, rfl, rfl, ⟨dx, tl, tv, ha, hn⟩, h, k⟩ := h
    rfl
  obtain ⟨a, tn, x, rfl, rfl, ⟨dx, tl, tv, ha, hn⟩, h, k⟩ := h
  obtain ⟨_, _, _, _, _⟩ := F
  cases hd
  refine ⟨_, (pe_mX G_LifeObserver_see_thrown_x hr (by decide) (passes_call (takes_of rfl rfl rfl rfl) fun _ _ _ _ h => h) (pv 2) (pa_cons (pv 1) (pa_cons pe_int pa_nil))), ?_⟩
  try dsimp only [cxOf, Cx.nox, Cx.wish, NdefX.ncx]
  repeat rw [st_cons]
  repeat rw [st_none]
  try rw [st_nn]
  walk_at "rd"
  refine r_metR ha rfl ?_
  walk_at "rd"
  exact use_nX3 h k
theorem okl_law_13 {P : Program} {w : World} {K : PySem.W.Frag} {mg : Str → Option Value} {base : Heap} (T : Tx K mg) : LOk P w K mg base 3 lm_law_13 [] ["_law_far", "_law_observer"] [] (splOb K) := by
  have G_LifeObserver_see_stock_x := ok_LifeObserver_see_stock_x (P := P) (w := w) (base := base) T
  refine lok_of ns_law_13 lb_law_13 (fun ws vs H Q E h => ?_) (fun F f A outer s H vs ws Q E hd hr hw h => ?_)
  · obtain ⟨a, tn, x, rfl, rfl, ⟨dx, tl, tv, ha, hn⟩, h, k⟩ := h
    rfl
  obtain ⟨a, tn, x, rfl, rfl, ⟨dx, tl, tv, ha, hn⟩, h, k⟩ := h
  obtain ⟨_, _, _, _, _⟩ := F
  cases hd
  refine ⟨_, (pe_mX G_LifeObserver_see_stock_x hr (by decide) (passes_call (takes_of rfl rfl rfl rfl) fun _ _ _ _ h => h) (pv 1) (pa_cons (pv 0) (pa_cons pe_int pa_nil))), ?_⟩
  try dsimp only [cxOf, Cx.nox, Cx.wish, NdefX.ncx]
  repeat rw [st_cons]
  repeat rw [st_none]
  try rw [st_nn]
  walk_at "rd"
  refine r_metR ha rfl ?_
  walk_at "rd"
  exact use_nX3 h k
def splOx (K : PySem.W.Frag) : List (Option V) → Sp := fun ws vs H _ E => ∃ (tb tw : Addr) (B : Bak), ws = [some (.ref tb), some (.ref tw)] ∧ vs = [] ∧ SqT K H tb (B.bakes.map V.int) ∧ SqT K H tw (B.dems.map V.int) ∧ B.Ok ∧ B.n ≤ 20 ∧ BakE K E H (partS 1) (-1)
theorem okl_law_14 {P : Program} {w : World} {K : PySem.W.Frag} {mg : Str → Option Value} {base : Heap} (T : Tx K mg) : LOk P w K mg base 12 lm_law_14 [] ["_law_bakes", "_law_demands"] [] (splOx K) := by
  have G_LifeObserver_x := ok_LifeObserver_init_x (P := P) (w := w) (base := base) T
  refine lok_of ns_law_14 lb_law_14 (fun ws vs H Q E h => ?_) (fun F f A outer s H vs ws Q E hd hr hw h => ?_)
  · obtain ⟨tb, tw, B, rfl, rfl, hb, hw, ok, n20, k⟩ := h
    rfl
  obtain ⟨tb, tw, B, rfl, rfl, hb, hw, ok, n20, k⟩ := h
  obtain ⟨_, _, _, _, _⟩ := F
  cases hd
  refine ⟨_, (pe_kX G_LifeObserver_x hr (by decide) (by rfl) (passes_call (takes_of rfl rfl rfl rfl) fun _ _ _ _ h => h) (pa_cons (pv 0) (pa_cons (pe_op op_catA (pv 1) (pe_tup (pa_cons pe_int pa_nil))) pa_nil))), ?_⟩
  try dsimp only [cxOf, Cx.nox, Cx.wish, NdefX.ncx]
  repeat rw [st_cons]
  repeat rw [st_none]
  try rw [st_nn]
  walk_at "go"
  rename_i p1 H1 s1 n1 e1
  have nl : B.dems.length = B.n := ok.m
  refine r_catA (same_sqT s1 hw) (sqT_at e1) (Nat.le_trans (show _ ≤ 100 by simp; omega) (by decide)) fun t H2 s2 ht => ?_
  have e : B.dems.map V.int ++ [V.int 0] = (B.dems ++ [0]).map V.int := by simp
  rw [e] at ht
  refine use_ObsX (b := B.bakes) (e := B.dems ++ [0]) (same_sqT s2 (same_sqT s1 hb)) ht (bkErr_m (amErr_in ok.n1 ok.b) ok.nb (amErr_in (by simp; omega) (fun y hy => ?_)) (by simp [nl, Bak.n])) ((k.s s1).s s2)
  rcases List.mem_append.mp hy with h | h
  · exact ok.d y h
  · have := List.mem_singleton.mp h
    omega

abbrev numS (c : Prop) [Decidable c] : Str := if c then "none" else "number"
section
variable {P : Program} {w : World} {K : PySem.W.Frag} {mg : Str → Option Value} {base : Heap} {kl : Nat} {s : Shared} {H : Hp} {Q : VK} {E : XK} {f : Addr} {sp : Sp} {hi x : Int}
theorem use_numK (c : Clo P w K mg base kl f sp s H) (hsp : ∀ Q' E', NumK K hi x H Q' E' → sp [] H Q' E') (hT : TabsF (TL K) H) (k : ∀ p H', ExtN H H' → TabsF (TL K) H' → H' p = some (.tup [.str (numS (0 ≤ x ∧ x ≤ hi))]) → Q (.ref p) H') : spErr P w K mg base kl s [.ref f] H Q E := by
  refine ⟨f, sp, rfl, c, fun Q' E' hQ hE => hsp _ _ ⟨hT, fun h0 h1 v H' e t => hQ _ _ fun p H2 s2 ep => k p H2 (extN_t e (extN_s s2)) (tabsF_s s2 t) ?_, fun h H' s1 => hE _ _ _ ⟨.num, ⟨rfl, rfl⟩, fun p H2 s2 ep => k p H2 (extN_s (sameT s1 s2)) (tabsF_s (sameT s1 s2) hT) ?_⟩⟩⟩
  · rw [show numS (0 ≤ x ∧ x ≤ hi) = "none" from if_pos ⟨h0, h1⟩]
    exact ep
  · rw [show numS (0 ≤ x ∧ x ≤ hi) = "number" from if_neg (by omega)]
    exact ep
theorem use_numE (c : Clo P w K mg base kl f sp s H) (hsp : ∀ Q' E', NumE K E' H → sp [] H Q' E') (k : ∀ p H', Same H H' → H' p = some (.tup [.str "number"]) → Q (.ref p) H') : spErr P w K mg base kl s [.ref f] H Q E :=
  ⟨f, sp, rfl, c, fun Q' E' hQ hE => hsp _ _ fun H' s1 => hE _ _ _ ⟨.num, ⟨rfl, rfl⟩, fun p H2 s2 ep => k p H2 (sameT s1 s2) ep⟩⟩
theorem use_bakE (c : Clo P w K mg base kl f sp s H) (hsp : ∀ Q' E', BakE K E' H (partS 1) (-1) → sp [] H Q' E') (k : ∀ p H', Same H H' → H' p = some (.tup [.str "bakery", .str "demands", .int (-1)]) → Q (.ref p) H') : spErr P w K mg base kl s [.ref f] H Q E :=
  ⟨f, sp, rfl, c, fun Q' E' hQ hE => hsp _ _ fun d H' s1 n => hE _ _ _ ⟨.bak 1 (-1), ⟨rfl, d, rfl, upd_same⟩, fun p H2 s2 ep => k p H2 (sameT (same_mut s1 (none_of_same s1 n)) s2) ep⟩⟩
theorem still_x {H H' : Hp} {L : Addr} {zs : List V} (x : SameX L H H') (hl : H L = some (.lst zs)) : Still H H' := ⟨fun b o u e => x _ _ (fun z => by rw [z, hl] at e; cases e) e, fun b xs e => x _ _ (fun z => by rw [z, hl] at e; cases e) e⟩
theorem sx_upd {H : Hp} {L : Addr} {o : HO} : SameX L H (upd H L o) := fun b u n e => by rw [upd_ne n]; exact e
theorem extN_u {H H0 H' : Hp} {L : Addr} {o : HO} (x0 : ExtN H H0) (n : H0 L = none) (x : ExtN H H') : ExtN H (upd H' L o) := fun b u e nt => by
  have ne : b ≠ L := fun z => by
    have q := x0 b u e nt
    rw [z, n] at q
    cases q
  rw [upd_ne ne]
  exact x b u e nt
theorem r_stopIf {tt : TT} {ta tb : TE} {σ : L2.St} {H : Hp} {Q : VK} (q : tIf tt ta tb σ H Q) : tIf tt ta tb σ H Q := q
theorem r_join {t : TE} {σ : L2.St} {H : Hp} {Q : VK} (w : List V) (h : ∀ Q' : VK, (∀ d H', Same H H' → H' d = some (.tup w) → Q' (.ref d) H') → t σ H Q') (k : ∀ d H', Same H H' → H' d = some (.tup w) → Q (.ref d) H') : t σ H Q := h Q k
theorem dpAll_num {K : PySem.W.Frag} {H : Hp} {t : Str} : ∀ {ys : List V}, (∀ (i : Nat) y, ys[i]? = some y → ∃ p, y = V.ref p ∧ H p = some (.tup [.str t])) → DpAll K H ys (List.replicate ys.length (.tuple [.str t]))
  | [], _ => .nil
  | y :: ys, h => by
    obtain ⟨p, rfl, hp⟩ := h 0 y rfl
    exact .cons (.tup (sqT_at hp) (.cons (.str _) .nil)) (dpAll_num fun i y hy => h (i + 1) y hy)
theorem a_neNum {K : PySem.W.Frag} {H : Hp} {Q : VK} {c : Prop} [Decidable c] {D R : Addr} {ys zs : List V} (n : Nat) (hD : H D = some (.lst ys)) (hR : H R = some (.lst zs)) (ly : ys.length = n) (lz : zs.length = n)
    (ay : ∀ (i : Nat) y, ys[i]? = some y → ∃ p, y = V.ref p ∧ H p = some (.tup [.str (numS c)])) (az : ∀ (i : Nat) y, zs[i]? = some y → ∃ p, y = V.ref p ∧ H p = some (.tup [.str (numS c)]))
    (s1 : SeqAt.shaped (.list (List.replicate n (.tuple [.str "none"]))) = true) (s2 : SeqAt.shaped (.list (List.replicate n (.tuple [.str "number"]))) = true) (q : Q (.bl false) H) : rNeD K (.ref D) (.ref R) H Q := by
  have hy := dpAll_num (K := K) ay
  have hz := dpAll_num (K := K) az
  rw [ly] at hy
  rw [lz] at hz
  have sh : SeqAt.shaped (.list (List.replicate n (.tuple [.str (numS c)]))) = true := by
    by_cases h : c
    · rw [show numS c = "none" from if_pos h]; exact s1
    · rw [show numS c = "number" from if_neg h]; exact s2
  exact a_neSelf (.lst (sqL_at hD) hy) (.lst (sqL_at hR) hz) sh (SeqAt.eqv_refl _ (SeqAt.canLay_of_shaped sh)) q
/-- [law_error(f) for f in ..], all with the same answer; tables grow -/
theorem lcErr {H1 : Hp} {l : Addr} {xs : List V} {j : Nat} {te : TE} {σ : L2.St} (wv : List V) (hl : H1 l = some (.lst xs)) (hn : xs.length ≤ 1000) (hT : TabsF (TL K) H1)
    (hs : ∀ (i : Nat) (x : V) (H' : Hp) (Z : VK), xs[i]? = some x → ExtN H1 H' → TabsF (TL K) H' → (∀ p H4, ExtN H' H4 → TabsF (TL K) H4 → H4 p = some (.tup wv) → Z (.ref p) H4) → te (σ.set j (some x)) H' Z)
    (hd : ∀ D H' ys, H1 D = none → ExtN H1 H' → TabsF (TL K) H' → H' D = some (.lst ys) → ys.length = xs.length → (∀ (i : Nat) y, ys[i]? = some y → ∃ p, y = V.ref p ∧ H' p = some (.tup wv)) → Q (.ref D) H') : LcR (Itl K l) (gName j) tYes te [j] σ Q H1 := fun D hD => by
  have ne : ∀ {b : Addr} {o : HO}, H1 b = some o → b ≠ D := fun {b o} e z => by rw [z, hD] at e; cases e
  refine lc_list (xs := xs) (fun i H' => ExtN H1 H' ∧ TabsF (TL K) H' ∧ ∃ ys, H' D = some (.lst ys) ∧ ys.length = i ∧ ∀ (i : Nat) y, ys[i]? = some y → ∃ p, y = V.ref p ∧ H' p = some (.tup wv))
    ⟨extN_s (same_new hD), tabsF_s (same_new hD) hT, [], upd_same, rfl, fun i y e => by simp at e⟩ (fun i H' _ p => sqL_at (atn_lst p.1 hl)) (fun i x H' hx p => ⟨wipe1' _, tYes_of ?_⟩) fun H' p => ?_
  · obtain ⟨x1, t1, ys, e1, l1, a1⟩ := p
    have li := (List.getElem?_eq_some_iff.mp hx).1
    rw [wipe1]
    refine hs i x H' _ hx x1 t1 fun p H4 x4 t4 e4 => ?_
    have e1' := atn_lst x4 e1
    have sx : SameX D H4 (upd H4 D (.lst (ys ++ [.ref p]))) := fun b o nb e => by rw [upd_ne nb]; exact e
    refine ⟨ys, e1', Nat.lt_of_lt_of_le (show ys.length < 1001 by omega) (by decide), fun b o e nt => ?_, tabsF_x sx e1' t4, ys ++ [.ref p], upd_same, by simp [l1], fun m y hy => ?_⟩
    · rw [upd_ne (ne e)]
      exact x4 b o (x1 b o e nt) nt
    · by_cases lm : m < ys.length
      · rw [List.getElem?_append_left lm] at hy
        obtain ⟨q, rfl, hq⟩ := a1 m y hy
        exact ⟨q, rfl, atx_tup sx e1' (atn_tup x4 hq)⟩
      · rw [List.getElem?_append_right (by omega)] at hy
        cases q : m - ys.length with
        | zero =>
          rw [q] at hy
          cases hy
          exact ⟨p, rfl, atx_tup sx e1' e4⟩
        | succ z =>
          rw [q] at hy
          cases hy
  · obtain ⟨x1, t1, ys, e1, l1, a1⟩ := p
    exact hd D H' ys hD x1 t1 e1 l1 a1
end

end G57
end
section
set_option maxRecDepth 100000
set_option maxHeartbeats 4000000
namespace G57
open PySem PySem.Spec PyProof.Rows L2
/-! the walk's small steps: "rd" reads on as far as it can -/
local macro_rules | `(tactic| walk_at "fact") => `(tactic| fail)
local macro_rules | `(tactic| walk_at "rd1") => `(tactic| with_reducible first
  | (refine v_id ?_; first | refine r_var_0 ?_ | refine r_var_1 ?_ | refine r_var_2 ?_ | refine r_var_3 ?_ | refine r_var_4 ?_ | refine r_var_5 ?_ | refine r_var_6 ?_ | refine r_var_7 ?_ | refine r_var_8 ?_ | refine r_var_9 ?_ | refine r_var_10 ?_ | refine r_var_11 ?_ | refine r_var_12 ?_ | refine r_var_13 ?_ | refine r_var_14 ?_ | refine r_var_15 ?_ | refine r_var_16 ?_ | refine r_var_17 ?_ | refine r_var_18 ?_ | refine r_var_19 ?_ | refine r_var_20 ?_ | refine r_var_21 ?_ | refine r_var_22 ?_ | refine r_var_23 ?_ | refine r_var_24 ?_ | refine r_var_25 ?_ | refine r_var_26 ?_ | refine r_var_27 ?_ | refine r_var rfl ?_)
  | (refine s_id ?_; first | refine r_set_0 ?_ | refine r_set_1 ?_ | refine r_set_2 ?_ | refine r_set_3 ?_ | refine r_set_4 ?_ | refine r_set_5 ?_ | refine r_set_6 ?_ | refine r_set_7 ?_ | refine r_set_8 ?_ | refine r_set_9 ?_ | refine r_set_10 ?_ | refine r_set_11 ?_ | refine r_set_12 ?_ | refine r_set_13 ?_ | refine r_set_14 ?_ | refine r_set_15 ?_ | refine r_set_16 ?_ | refine r_set_17 ?_ | refine r_set_18 ?_ | refine r_set_19 ?_ | refine r_set_20 ?_ | refine r_set_21 ?_ | refine r_set_22 ?_ | refine r_set_23 ?_ | refine r_set_24 ?_ | refine r_set_25 ?_ | refine r_set_26 ?_ | refine r_set_27 ?_ | refine r_setU ?_)
  | refine r_c ?_
  | refine r_op ?_
  | refine r_I0 ?_
  | refine r_seq ?_
  | refine r_asg ?_
  | refine r_fld ?_
  | refine r_nil ?_
  | refine r_cons ?_
  | refine r_cb ?_
  | refine r_max ?_
  | refine r_min ?_
  | refine r_ret ?_
  | refine r_met ?_
  | refine r_call ?_
  | refine r_B ?_
  | refine r_test ?_
  | refine r_b' ?_
  | refine r_ifS ?_
  | refine r_if ?_
  | refine r_par ?_
  | refine r_par2 ?_
  | refine r_drop ?_
  | refine r_next ?_
  | refine r_make ?_
  | refine r_sfld ?_
  | refine r_int1 ?_
  | refine r_intb ?_
  | refine r_and ?_
  | refine r_or ?_
  | refine r_not ?_
  | refine r_chain ?_
  | refine r_isN ?_
  | refine r_notN ?_
  | refine r_un ?_
  | refine r_U ?_
  | refine r_par3 ?_
  | refine r_par33 ?_
  | refine r_tup ?_
  | refine r_lst ?_
  | refine r_prop ?_
  | refine r_bm ?_
  | refine r_bm0 ?_
  | refine r_andV ?_
  | refine r_orV ?_
  | refine r_notV ?_
  | refine r_asgG ?_
  | refine r_gname ?_
  | refine r_gcons ?_
  | refine r_gnil ?_
  | refine r_rng1 ?_
  | refine r_rng2 ?_
  | refine r_for ?_
  | refine r_lc1 ?_
  | refine r_lc2 ?_
  | refine r_lc3 ?_
  | refine r_lc ?_
  | refine r_while ?_
  | refine r_rev ?_
  | refine r_sl ?_
  | refine r_augS ?_
  | refine r_iL ?_
  | refine r_iT ?_
  | refine r_iE ?_
  | refine r_ipI ?_
  | refine r_aug rfl ?_
  | refine r_cval ?_
  | refine r_turnN ?_
  | refine iT ?_
  | refine iNT ?_
  | refine iNF ?_
  | refine iOF ?_
  | refine iF ?_
  | refine r_part ?_
  | refine r_pi ?_
  | refine r_gsub ?_
  | refine r_noPart ?_)
local macro_rules | `(tactic| walk_at "rd") => `(tactic| (repeat (first | walk_at "rd1" | walk_at "fact")))
local macro_rules | `(tactic| walk_at "plen") => `(tactic| (repeat (first | decide | refine putF_lt ?_)))
local macro_rules | `(tactic| walk_at "rs") => `(tactic| (repeat ((fail_if_success (with_reducible refine r_stop ?_)); (first | walk_at "rd1" | walk_at "fact"))))
/-! finding a fact in the present heap by the way back; each rule is applied by its conclusion before its premises are sought -/
local macro_rules | `(tactic| walk_at "atx") => `(tactic| fail)
local macro_rules | `(tactic| walk_at "c_h") => `(tactic| first
  | with_reducible assumption
  | ((with_reducible apply hat_s); (with_reducible assumption); walk_at "c_h"))
local macro_rules | `(tactic| walk_at "c_n") => `(tactic| first
  | with_reducible assumption
  | ((with_reducible apply hat_ne); (with_reducible assumption); walk_at "c_h"))
local macro_rules | `(tactic| walk_at "c_o") => `(tactic| first
  | with_reducible assumption
  | with_reducible exact upd_same
  | ((with_reducible apply at_s); (with_reducible assumption); walk_at "c_o")
  | ((with_reducible apply atd_tup); (with_reducible assumption); walk_at "c_h"; walk_at "c_o")
  | ((with_reducible apply atd_ins); (with_reducible assumption); walk_at "c_h"; walk_at "c_o")
  | ((with_reducible apply atd_lst); (with_reducible assumption); walk_at "c_n"; walk_at "c_o")
  | ((with_reducible apply atx_tup); (with_reducible assumption); walk_at "c_o"; walk_at "c_o")
  | ((with_reducible apply atx_ins); (with_reducible assumption); walk_at "c_o"; walk_at "c_o")
  | ((with_reducible apply atx_ne); (with_reducible assumption); (with_reducible assumption); walk_at "c_o"))
local macro_rules | `(tactic| walk_at "c_q") => `(tactic| first
  | with_reducible assumption
  | ((with_reducible apply sqL_s); (with_reducible assumption); walk_at "c_q"))
local macro_rules | `(tactic| walk_at "c_t") => `(tactic| first
  | with_reducible assumption
  | ((with_reducible apply sqT_s); (with_reducible assumption); walk_at "c_t")
  | ((with_reducible apply sqT_d); (with_reducible assumption); walk_at "c_h"; walk_at "c_t")
  | ((with_reducible apply sqT_x); (with_reducible assumption); walk_at "c_o"; walk_at "c_t"))
local macro_rules | `(tactic| walk_at "c_p") => `(tactic| first
  | with_reducible assumption
  | ((with_reducible apply pairs_s); (with_reducible assumption); walk_at "c_p"))
local macro_rules | `(tactic| walk_at "at") => `(tactic| first
  | with_reducible assumption
  | with_reducible exact upd_same
  | walk_at "atx"
  | ((with_reducible apply sqL_at); walk_at "c_o")
  | ((with_reducible apply sqL_s); (with_reducible assumption); walk_at "c_q")
  | ((with_reducible apply sqT_at); walk_at "c_o")
  | ((with_reducible apply sqT_id); walk_at "c_t")
  | ((with_reducible apply hat_id); walk_at "c_h")
  | ((with_reducible apply pairs_id); walk_at "c_p")
  | ((with_reducible apply ne_id); walk_at "c_n")
  | ((with_reducible apply at_id); walk_at "c_o"))
/-! a length, an inequality -/
local macro_rules | `(tactic| walk_at "le") => `(tactic| first | exact Nat.le_of_ble_eq_true rfl | omega | (simp; done) | (simp; omega))
local macro_rules | `(tactic| walk_at "ar") => `(tactic| first | omega | exact ⟨by omega, by omega⟩ | exact .inl ⟨by omega, by omega⟩ | exact .inr ⟨by omega, by omega⟩ | exact .inr (by omega) | exact .inl (by omega) | exact ⟨by omega, by omega, by omega⟩ | decide)
/-! calls of the text's own defs, with letters for what they leave -/
local macro_rules | `(tactic| walk_at "use") => `(tactic| fail)
local macro_rules | `(tactic| walk_at "go1") => `(tactic| first
  | walk_at "rd1"
  | walk_at "fact"
  | walk_at "use"
  | with_reducible refine r_p6 ?_
  | with_reducible refine r_p8 ?_
  | with_reducible refine r_p9 ?_
  | with_reducible refine r_p10 ?_
  | with_reducible refine r_p12 ?_
  | with_reducible refine r_p14 ?_
  | with_reducible refine r_p15 ?_
  | with_reducible refine r_p17 ?_
  | with_reducible refine r_p18 ?_
  | ((with_reducible apply r_I); walk_at "ar")
  | ((with_reducible apply a_neNil); walk_at "at"; intro _ _)
  | ((with_reducible apply a_eqNil); walk_at "at"; intro _ _)
  | ((with_reducible apply a_nwT); walk_at "le"; intro _ _ _ _ _)
  | ((with_reducible apply a_nwL); walk_at "le"; intro _ _ _ _ _)
  | ((with_reducible apply r_ixL (j := 0)); walk_at "at"; rfl; rfl)
  | ((with_reducible apply r_ixL (j := 1)); walk_at "at"; rfl; rfl)
  | ((with_reducible apply r_ixL (j := 2)); walk_at "at"; rfl; rfl)
  | ((with_reducible apply r_ixL (j := 3)); walk_at "at"; rfl; rfl)
  | ((with_reducible apply r_ixT (j := 0)); walk_at "at"; rfl; rfl)
  | ((with_reducible apply r_ixT (j := 1)); walk_at "at"; rfl; rfl)
  | ((with_reducible apply r_ixT (j := 2)); walk_at "at"; rfl; rfl)
  | ((with_reducible apply a_pick2); walk_at "at"; omega; omega; intro _ _)
  | ((with_reducible apply a_pick3); walk_at "at"; omega; omega; intro _ _)
  | ((with_reducible apply a_pick4); walk_at "at"; omega; omega; intro _ _)
  | ((with_reducible apply r_gtup); walk_at "at"; rfl)
  | ((with_reducible apply a_lenLI); walk_at "at")
  | ((with_reducible apply r_lenL); walk_at "at")
  | ((with_reducible apply r_lenT); walk_at "at")
  | ((with_reducible apply r_tyL); walk_at "at")
  | ((with_reducible apply a_cat); walk_at "at"; walk_at "at"; walk_at "le"; intro _ _ _ _ _)
  | ((with_reducible apply a_listL); walk_at "at"; intro _ _ _ _ _)
  | ((with_reducible apply a_tupL); walk_at "at"; intro _ _ _ _ _)
  | ((with_reducible apply a_slL); walk_at "at"; intro _ _ _ _ _)
  | ((with_reducible apply a_revL); walk_at "at"; intro _ _ _ _ _)
  | ((with_reducible apply r_sumT); walk_at "at")
  | ((with_reducible apply r_sumL); walk_at "at")
  | ((with_reducible refine ⟨_, rfl, ?_, ?_, ?_⟩); omega; omega)
  | ((with_reducible refine ⟨_, _, rfl, ⟨?_, ?_, ?_, ?_⟩, ?_⟩); omega; omega; omega; omega)
  | with_reducible refine ⟨_, rfl, ⟨_, by walk_at "at"⟩, ?_⟩)
local macro_rules | `(tactic| walk_at "go") => `(tactic| (repeat (walk_at "go1")))
local macro_rules | `(tactic| walk_at "sames") => `(tactic| first | exact sameR | assumption | ((with_reducible apply sameB); assumption; walk_at "sames"))
local macro_rules | `(tactic| walk_at "sameds") => `(tactic| first | assumption | ((with_reducible apply sameD_of); walk_at "sames"; done) | ((with_reducible apply sameDB); assumption; walk_at "sameds") | ((with_reducible apply sameDS); assumption; walk_at "sameds"))
local macro_rules | `(tactic| walk_at "gs") => `(tactic| (repeat ((fail_if_success (with_reducible refine r_stop ?_)); (walk_at "go1"))))
local macro_rules | `(tactic| walk_at "c_d") => `(tactic| first
  | with_reducible assumption
  | ((with_reducible apply bakD_s); (with_reducible assumption); walk_at "c_d")
  | ((with_reducible apply bakD_d); (with_reducible assumption); walk_at "c_h"; walk_at "c_d"))
local macro_rules | `(tactic| walk_at "c_b") => `(tactic| first
  | with_reducible assumption
  | ((with_reducible apply bakAt_s); (with_reducible assumption); walk_at "c_b"))
local macro_rules | `(tactic| walk_at "c_a") => `(tactic| first
  | with_reducible assumption
  | ((with_reducible apply bakAt_D); walk_at "c_d")
  | walk_at "c_b")
local macro_rules | `(tactic| walk_at "c_m1") => `(tactic| first
  | with_reducible assumption
  | ((with_reducible apply bakM_s); (with_reducible assumption); walk_at "c_m1"))
local macro_rules | `(tactic| walk_at "c_m") => `(tactic| first
  | with_reducible assumption
  | ((with_reducible apply bakM_at); walk_at "c_a")
  | walk_at "c_m1")
local macro_rules | `(tactic| walk_at "atx") => `(tactic| first
  | ((with_reducible apply bakD_id); walk_at "c_d")
  | ((with_reducible apply bakAt_id); walk_at "c_a")
  | ((with_reducible apply bakM_id); walk_at "c_m")
  | ((with_reducible apply bakC_M); walk_at "c_m"))
local macro_rules | `(tactic| walk_at "ok") => `(tactic| first | assumption | exact BakD.ok (by assumption) | exact BakAt.ok (by assumption))
local macro_rules | `(tactic| walk_at "use") => `(tactic| first
  | ((with_reducible apply mBk); walk_at "at"; decide)
  | ((with_reducible apply pBk); walk_at "at")
  | ((with_reducible apply use_stk); walk_at "at"; omega; omega; intro _ _)
  | ((with_reducible apply use_msd); walk_at "at"; omega; omega; intro _ _)
  | ((with_reducible apply use_thn); walk_at "at"; omega; omega; intro _ _)
  | ((with_reducible apply use_sld); walk_at "at"; omega; omega; intro _ _)
  | ((with_reducible apply use_tot); walk_at "at"; omega; omega; intro _ _ _ _)
  | ((with_reducible apply use_shf); walk_at "at"; omega; omega; intro _ _ _ _ _ _)
  | ((with_reducible apply use_sdy); walk_at "at"; intro _ _ _)
  | ((with_reducible apply use_lrn); walk_at "at"; intro _ _ _ _)
  | ((with_reducible apply use_bks); walk_at "at"; intro _ _)
  | ((with_reducible apply use_dms); walk_at "at"; intro _ _)
  | ((with_reducible apply use_lif); walk_at "at")
  | ((with_reducible apply use_nxt); walk_at "at"; omega; omega; intro _ _ _ _ _ _)
  | ((with_reducible apply use_num); omega; omega)
  | ((with_reducible apply use_liv); walk_at "at"; (exact liv_ok (by walk_at "ok") (by omega) (by omega)); intro _ _ _ _)
  | ((with_reducible apply use_mor); walk_at "at"; assumption; intro _ _ _ _)
  | ((with_reducible apply a_maxB); walk_at "at"; walk_at "ok"; intro _ _ _)
  | ((with_reducible apply a_minB); walk_at "at"; walk_at "ok"; intro _ _ _)
  | with_reducible refine r_cvalR (fcv_Bakery_MAX_LIFE ‹_›) ?_
  | ((with_reducible apply a_lenTB); walk_at "at")
  | ((with_reducible apply a_lenTD); walk_at "at"; walk_at "ok")
  | ((with_reducible apply a_ixD); walk_at "at"; walk_at "ok")
  | ((with_reducible apply a_ixB); walk_at "at"; walk_at "ok"; omega))
local macro_rules | `(tactic| walk_at "alk") => `(tactic| first
  | ((with_reducible apply alk_tup); walk_at "at"; walk_at "at"; walk_at "le")
  | ((with_reducible apply alk_lst); walk_at "at"; walk_at "at"; walk_at "le")
  | ((with_reducible apply use_alkL); walk_at "at"; walk_at "at"; walk_at "le")
  | ((with_reducible apply use_alkT); walk_at "at"; walk_at "at"; walk_at "le"))
open LamX NdefX
theorem hatA_n {H H' : Hp} {h l : Addr} (s : ExtN H H') (w : Hat H h l) : Hat H' h l := by
  obtain ⟨m, c, ys, e1, e2, r⟩ := w
  exact ⟨m, c, ys, atn_lst s e1, atn_lst s e2, r⟩
theorem hatA_x {H H' : Hp} {h l c : Addr} (s : SameX c H H') (n1 : c ≠ h) (n2 : c ≠ l) (w : Hat H h l) : Hat H' h l := by
  obtain ⟨m, k, ys, e1, e2, r⟩ := w
  exact ⟨m, k, ys, s _ _ (Ne.symm n1) e1, s _ _ (Ne.symm n2) e2, r⟩
theorem bakF_n {K : PySem.W.Frag} {H H' : Hp} {a te tp : Addr} {B : Bak} (s : ExtN H H') (b : BakAtF K H a B te tp) : BakAtF K H' a B te tp := by
  obtain ⟨ok, dx, tb, tw, tr, ts, ps, hB, hb, hw, he, hp, hl, hps, q, D, R, h1, h2, h3⟩ := b
  refine ⟨ok, dx, tb, tw, tr, ts, ps, atn_ins s hB, sqTn s hb, sqTn s hw, atn_lst s he, atn_lst s hp, hl, fun k v e => ?_, q, D, R, atn_tup s h1, atn_tup s h2, h3⟩
  obtain ⟨p, g, z, ⟨dg, q⟩, i⟩ := hps k v e
  exact ⟨p, g, z, ⟨dg, atn_ins s q⟩, i⟩
theorem bakD_n {K : PySem.W.Frag} {H H' : Hp} {h l a : Addr} {B : Bak} (s : ExtN H H') (b : BakD K h l H a B) : BakD K h l H' a B := let ⟨te, tp, n1, n2, k⟩ := b; ⟨te, tp, n1, n2, bakF_n s k⟩
theorem tabsF_dA {T : List (Addr × Str)} {H H' : Hp} {h l : Addr} (s : SameD h l H H') (hat : Hat H h l) (t : TabsF T H) : TabsF T H' := fun p hp => (t p hp).mv (fun ps e => by
  obtain ⟨m, c, ys, e1, e2, _⟩ := hat
  refine s _ _ (fun z => ?_) (fun z => ?_) e
  · rw [z, e1] at e
    cases e
  · rw [z, e2] at e
    cases e) (.dA s hat)

end G57
end
section
set_option maxRecDepth 100000
set_option maxHeartbeats 4000000
namespace G57
open PySem PySem.Spec PyProof.Rows L2
/-! the walk's small steps: "rd" reads on as far as it can -/
local macro_rules | `(tactic| walk_at "fact") => `(tactic| fail)
local macro_rules | `(tactic| walk_at "rd1") => `(tactic| with_reducible first
  | (refine v_id ?_; first | refine r_var_0 ?_ | refine r_var_1 ?_ | refine r_var_2 ?_ | refine r_var_3 ?_ | refine r_var_4 ?_ | refine r_var_5 ?_ | refine r_var_6 ?_ | refine r_var_7 ?_ | refine r_var_8 ?_ | refine r_var_9 ?_ | refine r_var_10 ?_ | refine r_var_11 ?_ | refine r_var_12 ?_ | refine r_var_13 ?_ | refine r_var_14 ?_ | refine r_var_15 ?_ | refine r_var_16 ?_ | refine r_var_17 ?_ | refine r_var_18 ?_ | refine r_var_19 ?_ | refine r_var_20 ?_ | refine r_var_21 ?_ | refine r_var_22 ?_ | refine r_var_23 ?_ | refine r_var_24 ?_ | refine r_var_25 ?_ | refine r_var_26 ?_ | refine r_var_27 ?_ | refine r_var rfl ?_)
  | (refine s_id ?_; first | refine r_set_0 ?_ | refine r_set_1 ?_ | refine r_set_2 ?_ | refine r_set_3 ?_ | refine r_set_4 ?_ | refine r_set_5 ?_ | refine r_set_6 ?_ | refine r_set_7 ?_ | refine r_set_8 ?_ | refine r_set_9 ?_ | refine r_set_10 ?_ | refine r_set_11 ?_ | refine r_set_12 ?_ | refine r_set_13 ?_ | refine r_set_14 ?_ | refine r_set_15 ?_ | refine r_set_16 ?_ | refine r_set_17 ?_ | refine r_set_18 ?_ | refine r_set_19 ?_ | refine r_set_20 ?_ | refine r_set_21 ?_ | refine r_set_22 ?_ | refine r_set_23 ?_ | refine r_set_24 ?_ | refine r_set_25 ?_ | refine r_set_26 ?_ | refine r_set_27 ?_ | refine r_setU ?_)
  | refine r_c ?_
  | refine r_op ?_
  | refine r_I0 ?_
  | refine r_seq ?_
  | refine r_asg ?_
  | refine r_fld ?_
  | refine r_nil ?_
  | refine r_cons ?_
  | refine r_cb ?_
  | refine r_max ?_
  | refine r_min ?_
  | refine r_ret ?_
  | refine r_met ?_
  | refine r_call ?_
  | refine r_B ?_
  | refine r_test ?_
  | refine r_b' ?_
  | refine r_ifS ?_
  | refine r_if ?_
  | refine r_par ?_
  | refine r_par2 ?_
  | refine r_drop ?_
  | refine r_next ?_
  | refine r_make ?_
  | refine r_sfld ?_
  | refine r_int1 ?_
  | refine r_intb ?_
  | refine r_and ?_
  | refine r_or ?_
  | refine r_not ?_
  | refine r_chain ?_
  | refine r_isN ?_
  | refine r_notN ?_
  | refine r_un ?_
  | refine r_U ?_
  | refine r_par3 ?_
  | refine r_par33 ?_
  | refine r_tup ?_
  | refine r_lst ?_
  | refine r_prop ?_
  | refine r_bm ?_
  | refine r_bm0 ?_
  | refine r_andV ?_
  | refine r_orV ?_
  | refine r_notV ?_
  | refine r_asgG ?_
  | refine r_gname ?_
  | refine r_gcons ?_
  | refine r_gnil ?_
  | refine r_rng1 ?_
  | refine r_rng2 ?_
  | refine r_for ?_
  | refine r_lc1 ?_
  | refine r_lc2 ?_
  | refine r_lc3 ?_
  | refine r_lc ?_
  | refine r_while ?_
  | refine r_rev ?_
  | refine r_sl ?_
  | refine r_augS ?_
  | refine r_iL ?_
  | refine r_iT ?_
  | refine r_iE ?_
  | refine r_ipI ?_
  | refine r_aug rfl ?_
  | refine r_cval ?_
  | refine r_turnN ?_
  | refine iT ?_
  | refine iNT ?_
  | refine iNF ?_
  | refine iOF ?_
  | refine iF ?_
  | refine r_part ?_
  | refine r_pi ?_
  | refine r_gsub ?_
  | refine r_noPart ?_)
local macro_rules | `(tactic| walk_at "rd") => `(tactic| (repeat (first | walk_at "rd1" | walk_at "fact")))
local macro_rules | `(tactic| walk_at "plen") => `(tactic| (repeat (first | decide | refine putF_lt ?_)))
local macro_rules | `(tactic| walk_at "rs") => `(tactic| (repeat ((fail_if_success (with_reducible refine r_stop ?_)); (first | walk_at "rd1" | walk_at "fact"))))
/-! finding a fact in the present heap by the way back; each rule is applied by its conclusion before its premises are sought -/
local macro_rules | `(tactic| walk_at "atx") => `(tactic| fail)
local macro_rules | `(tactic| walk_at "c_h") => `(tactic| first
  | with_reducible assumption
  | ((with_reducible apply hat_s); (with_reducible assumption); walk_at "c_h"))
local macro_rules | `(tactic| walk_at "c_n") => `(tactic| first
  | with_reducible assumption
  | ((with_reducible apply hat_ne); (with_reducible assumption); walk_at "c_h"))
local macro_rules | `(tactic| walk_at "c_o") => `(tactic| first
  | with_reducible assumption
  | with_reducible exact upd_same
  | ((with_reducible apply at_s); (with_reducible assumption); walk_at "c_o")
  | ((with_reducible apply atd_tup); (with_reducible assumption); walk_at "c_h"; walk_at "c_o")
  | ((with_reducible apply atd_ins); (with_reducible assumption); walk_at "c_h"; walk_at "c_o")
  | ((with_reducible apply atd_lst); (with_reducible assumption); walk_at "c_n"; walk_at "c_o")
  | ((with_reducible apply atx_tup); (with_reducible assumption); walk_at "c_o"; walk_at "c_o")
  | ((with_reducible apply atx_ins); (with_reducible assumption); walk_at "c_o"; walk_at "c_o")
  | ((with_reducible apply atx_ne); (with_reducible assumption); (with_reducible assumption); walk_at "c_o"))
local macro_rules | `(tactic| walk_at "c_q") => `(tactic| first
  | with_reducible assumption
  | ((with_reducible apply sqL_s); (with_reducible assumption); walk_at "c_q"))
local macro_rules | `(tactic| walk_at "c_t") => `(tactic| first
  | with_reducible assumption
  | ((with_reducible apply sqT_s); (with_reducible assumption); walk_at "c_t")
  | ((with_reducible apply sqT_d); (with_reducible assumption); walk_at "c_h"; walk_at "c_t")
  | ((with_reducible apply sqT_x); (with_reducible assumption); walk_at "c_o"; walk_at "c_t"))
local macro_rules | `(tactic| walk_at "c_p") => `(tactic| first
  | with_reducible assumption
  | ((with_reducible apply pairs_s); (with_reducible assumption); walk_at "c_p"))
local macro_rules | `(tactic| walk_at "at") => `(tactic| first
  | with_reducible assumption
  | with_reducible exact upd_same
  | walk_at "atx"
  | ((with_reducible apply sqL_at); walk_at "c_o")
  | ((with_reducible apply sqL_s); (with_reducible assumption); walk_at "c_q")
  | ((with_reducible apply sqT_at); walk_at "c_o")
  | ((with_reducible apply sqT_id); walk_at "c_t")
  | ((with_reducible apply hat_id); walk_at "c_h")
  | ((with_reducible apply pairs_id); walk_at "c_p")
  | ((with_reducible apply ne_id); walk_at "c_n")
  | ((with_reducible apply at_id); walk_at "c_o"))
/-! a length, an inequality -/
local macro_rules | `(tactic| walk_at "le") => `(tactic| first | exact Nat.le_of_ble_eq_true rfl | omega | (simp; done) | (simp; omega))
local macro_rules | `(tactic| walk_at "ar") => `(tactic| first | omega | exact ⟨by omega, by omega⟩ | exact .inl ⟨by omega, by omega⟩ | exact .inr ⟨by omega, by omega⟩ | exact .inr (by omega) | exact .inl (by omega) | exact ⟨by omega, by omega, by omega⟩ | decide)
/-! calls of the text's own defs, with letters for what they leave -/
local macro_rules | `(tactic| walk_at "use") => `(tactic| fail)
local macro_rules | `(tactic| walk_at "go1") => `(tactic| first
  | walk_at "rd1"
  | walk_at "fact"
  | walk_at "use"
  | with_reducible refine r_p6 ?_
  | with_reducible refine r_p8 ?_
  | with_reducible refine r_p9 ?_
  | with_reducible refine r_p10 ?_
  | with_reducible refine r_p12 ?_
  | with_reducible refine r_p14 ?_
  | with_reducible refine r_p15 ?_
  | with_reducible refine r_p17 ?_
  | with_reducible refine r_p18 ?_
  | ((with_reducible apply r_I); walk_at "ar")
  | ((with_reducible apply a_neNil); walk_at "at"; intro _ _)
  | ((with_reducible apply a_eqNil); walk_at "at"; intro _ _)
  | ((with_reducible apply a_nwT); walk_at "le"; intro _ _ _ _ _)
  | ((with_reducible apply a_nwL); walk_at "le"; intro _ _ _ _ _)
  | ((with_reducible apply r_ixL (j := 0)); walk_at "at"; rfl; rfl)
  | ((with_reducible apply r_ixL (j := 1)); walk_at "at"; rfl; rfl)
  | ((with_reducible apply r_ixL (j := 2)); walk_at "at"; rfl; rfl)
  | ((with_reducible apply r_ixL (j := 3)); walk_at "at"; rfl; rfl)
  | ((with_reducible apply r_ixT (j := 0)); walk_at "at"; rfl; rfl)
  | ((with_reducible apply r_ixT (j := 1)); walk_at "at"; rfl; rfl)
  | ((with_reducible apply r_ixT (j := 2)); walk_at "at"; rfl; rfl)
  | ((with_reducible apply a_pick2); walk_at "at"; omega; omega; intro _ _)
  | ((with_reducible apply a_pick3); walk_at "at"; omega; omega; intro _ _)
  | ((with_reducible apply a_pick4); walk_at "at"; omega; omega; intro _ _)
  | ((with_reducible apply r_gtup); walk_at "at"; rfl)
  | ((with_reducible apply a_lenLI); walk_at "at")
  | ((with_reducible apply r_lenL); walk_at "at")
  | ((with_reducible apply r_lenT); walk_at "at")
  | ((with_reducible apply r_tyL); walk_at "at")
  | ((with_reducible apply a_cat); walk_at "at"; walk_at "at"; walk_at "le"; intro _ _ _ _ _)
  | ((with_reducible apply a_listL); walk_at "at"; intro _ _ _ _ _)
  | ((with_reducible apply a_tupL); walk_at "at"; intro _ _ _ _ _)
  | ((with_reducible apply a_slL); walk_at "at"; intro _ _ _ _ _)
  | ((with_reducible apply a_revL); walk_at "at"; intro _ _ _ _ _)
  | ((with_reducible apply r_sumT); walk_at "at")
  | ((with_reducible apply r_sumL); walk_at "at")
  | ((with_reducible refine ⟨_, rfl, ?_, ?_, ?_⟩); omega; omega)
  | ((with_reducible refine ⟨_, _, rfl, ⟨?_, ?_, ?_, ?_⟩, ?_⟩); omega; omega; omega; omega)
  | with_reducible refine ⟨_, rfl, ⟨_, by walk_at "at"⟩, ?_⟩)
local macro_rules | `(tactic| walk_at "go") => `(tactic| (repeat (walk_at "go1")))
local macro_rules | `(tactic| walk_at "sames") => `(tactic| first | exact sameR | assumption | ((with_reducible apply sameB); assumption; walk_at "sames"))
local macro_rules | `(tactic| walk_at "sameds") => `(tactic| first | assumption | ((with_reducible apply sameD_of); walk_at "sames"; done) | ((with_reducible apply sameDB); assumption; walk_at "sameds") | ((with_reducible apply sameDS); assumption; walk_at "sameds"))
local macro_rules | `(tactic| walk_at "gs") => `(tactic| (repeat ((fail_if_success (with_reducible refine r_stop ?_)); (walk_at "go1"))))
local macro_rules | `(tactic| walk_at "c_d") => `(tactic| first
  | with_reducible assumption
  | ((with_reducible apply bakD_s); (with_reducible assumption); walk_at "c_d")
  | ((with_reducible apply bakD_d); (with_reducible assumption); walk_at "c_h"; walk_at "c_d"))
local macro_rules | `(tactic| walk_at "c_b") => `(tactic| first
  | with_reducible assumption
  | ((with_reducible apply bakAt_s); (with_reducible assumption); walk_at "c_b"))
local macro_rules | `(tactic| walk_at "c_a") => `(tactic| first
  | with_reducible assumption
  | ((with_reducible apply bakAt_D); walk_at "c_d")
  | walk_at "c_b")
local macro_rules | `(tactic| walk_at "c_m1") => `(tactic| first
  | with_reducible assumption
  | ((with_reducible apply bakM_s); (with_reducible assumption); walk_at "c_m1"))
local macro_rules | `(tactic| walk_at "c_m") => `(tactic| first
  | with_reducible assumption
  | ((with_reducible apply bakM_at); walk_at "c_a")
  | walk_at "c_m1")
local macro_rules | `(tactic| walk_at "atx") => `(tactic| first
  | ((with_reducible apply bakD_id); walk_at "c_d")
  | ((with_reducible apply bakAt_id); walk_at "c_a")
  | ((with_reducible apply bakM_id); walk_at "c_m")
  | ((with_reducible apply bakC_M); walk_at "c_m"))
local macro_rules | `(tactic| walk_at "ok") => `(tactic| first | assumption | exact BakD.ok (by assumption) | exact BakAt.ok (by assumption))
local macro_rules | `(tactic| walk_at "use") => `(tactic| first
  | ((with_reducible apply mBk); walk_at "at"; decide)
  | ((with_reducible apply pBk); walk_at "at")
  | ((with_reducible apply use_stk); walk_at "at"; omega; omega; intro _ _)
  | ((with_reducible apply use_msd); walk_at "at"; omega; omega; intro _ _)
  | ((with_reducible apply use_thn); walk_at "at"; omega; omega; intro _ _)
  | ((with_reducible apply use_sld); walk_at "at"; omega; omega; intro _ _)
  | ((with_reducible apply use_tot); walk_at "at"; omega; omega; intro _ _ _ _)
  | ((with_reducible apply use_shf); walk_at "at"; omega; omega; intro _ _ _ _ _ _)
  | ((with_reducible apply use_sdy); walk_at "at"; intro _ _ _)
  | ((with_reducible apply use_lrn); walk_at "at"; intro _ _ _ _)
  | ((with_reducible apply use_bks); walk_at "at"; intro _ _)
  | ((with_reducible apply use_dms); walk_at "at"; intro _ _)
  | ((with_reducible apply use_lif); walk_at "at")
  | ((with_reducible apply use_nxt); walk_at "at"; omega; omega; intro _ _ _ _ _ _)
  | ((with_reducible apply use_num); omega; omega)
  | ((with_reducible apply use_liv); walk_at "at"; (exact liv_ok (by walk_at "ok") (by omega) (by omega)); intro _ _ _ _)
  | ((with_reducible apply use_mor); walk_at "at"; assumption; intro _ _ _ _)
  | ((with_reducible apply a_maxB); walk_at "at"; walk_at "ok"; intro _ _ _)
  | ((with_reducible apply a_minB); walk_at "at"; walk_at "ok"; intro _ _ _)
  | with_reducible refine r_cvalR (fcv_Bakery_MAX_LIFE ‹_›) ?_
  | ((with_reducible apply a_lenTB); walk_at "at")
  | ((with_reducible apply a_lenTD); walk_at "at"; walk_at "ok")
  | ((with_reducible apply a_ixD); walk_at "at"; walk_at "ok")
  | ((with_reducible apply a_ixB); walk_at "at"; walk_at "ok"; omega))
local macro_rules | `(tactic| walk_at "alk") => `(tactic| first
  | ((with_reducible apply alk_tup); walk_at "at"; walk_at "at"; walk_at "le")
  | ((with_reducible apply alk_lst); walk_at "at"; walk_at "at"; walk_at "le")
  | ((with_reducible apply use_alkL); walk_at "at"; walk_at "at"; walk_at "le")
  | ((with_reducible apply use_alkT); walk_at "at"; walk_at "at"; walk_at "le"))
open LamX NdefX
local macro_rules | `(tactic| walk_at "ri") => `(tactic| (repeat ((fail_if_success (with_reducible refine r_stopIf ?_)); (walk_at "rd1"))))
theorem a_neNumT {K : PySem.W.Frag} {H : Hp} {Q : VK} {c : Prop} [Decidable c] {p q : Addr} (hp : H p = some (.tup [.str (numS c)])) (hq : H q = some (.tup [.str (numS c)])) (z : Q (.bl false) H) : rNeD K (.ref p) (.ref q) H Q := by
  have sh : SeqAt.shaped (.tuple [.str (numS c)]) = true := by
    by_cases h : c
    · rw [show numS c = "none" from if_pos h]; decide +kernel
    · rw [show numS c = "number" from if_neg h]; decide +kernel
  exact a_neSelf (.tup (sqT_at hp) (.cons (.str _) .nil)) (.tup (sqT_at hq) (.cons (.str _) .nil)) sh (SeqAt.eqv_refl _ (SeqAt.canLay_of_shaped sh)) z
theorem obs0_s {K : PySem.W.Frag} {H H' : Hp} {a tn : Addr} (s : Same H H') (o : Obs0 K H a tn) : Obs0 K H' a tn := let ⟨dx, tl, tv, h1, h2⟩ := o; ⟨dx, tl, tv, s _ _ h1, s _ _ h2⟩
theorem obs0_n {K : PySem.W.Frag} {H H' : Hp} {a tn : Addr} (s : ExtN H H') (o : Obs0 K H a tn) : Obs0 K H' a tn := let ⟨dx, tl, tv, h1, h2⟩ := o; ⟨dx, tl, tv, atn_ins s h1, atn_lst s h2⟩
theorem obs0_d {K : PySem.W.Frag} {H H' : Hp} {h l a tn : Addr} (s : SameD h l H H') (hat : Hat H h l) (n : tn ≠ h ∧ tn ≠ l) (o : Obs0 K H a tn) : Obs0 K H' a tn := by
  obtain ⟨dx, tl, tv, h1, h2⟩ := o
  obtain ⟨m, c, ys, e1, e2, _⟩ := hat
  exact ⟨dx, tl, tv, s _ _ (fun z => by rw [z, e1] at h1; cases h1) (fun z => by rw [z, e2] at h1; cases h1) h1, s _ _ n.1 n.2 h2⟩
def spLaw (K : PySem.W.Frag) : Sp := fun vs H Q _ => ∃ (a : Addr) (ns : List Int), vs = [.ref a] ∧ SqL K H a (ns.map V.int) ∧ ns.length ≤ 63 ∧ TabsF (TL K) H ∧ ∀ H', Q (.bl true) H'
abbrev lawLev : Nat := 14
theorem ok_law {P : Program} {w : World} {K : PySem.W.Frag} {mg : Str → Option Value} {base : Heap} {fd : FuncData} (TB : TxB K mg base) (F : FunD K d_law.name d_law.qual d_law.params d_law.body d_law.scope [] (d_law.kws K) (He.ga K "law") fd) : FnOk P w K mg base CX0 lawLev (He.ga K "law") fd ["_law_script"] (spLaw K) := by
  have T := TB.t
  have G_law_mix := ok_law_mix (P := P) (w := w) (base := base) T
  have G_law_parts := ok_law_parts (P := P) (w := w) (base := base) T
  have G_Bakery := ok_Bakery_init (P := P) (w := w) (base := base) T
  have G_law_next := ok_law_next (P := P) (w := w) (base := base) T
  have G_law_error_s := ok_law_error_s (P := P) (w := w) (base := base) T
  have G_LifeObserver := ok_LifeObserver_init (P := P) (w := w) (base := base) T
  have G_LifeObserver_records := ok_LifeObserver_records (P := P) (w := w) (base := base) T
  refine fnC_of F sc_law (fun vs H Q E h => ?_) (fun A outer s H vs Q E hr h => ?_)
  · obtain ⟨a, ns, rfl, hS, hn, hT, k⟩ := h
    rfl
  obtain ⟨a, ns, rfl, hS, hn, hT, k⟩ := h
  refine ⟨_, (pss_cons (ps_set (i := 1) sc_law.nd rfl (Or.inl rfl) (C8.pe_c G_law_mix hr (by decide) (by rfl) (pa_cons (pv 0) (pa_cons pe_int pa_nil))))
      (pss_cons (ps_for PassesOwn.never rfl (pi_range1 (by rfl) (fn_range T) (pa_cons pe_int pa_nil)) (pg_name (i := 2) sc_law.nd rfl (Or.inl rfl)) (pss_cons (ps_asg (C8.pe_c G_law_parts hr (by decide) (by rfl) (pa_cons (pv 1) (pa_cons pe_int (pa_cons pe_int pa_nil)))) (pg_tup (n := 3) (by rfl) (pgs_cons (pg_name (i := 3) sc_law.nd rfl (Or.inr rfl)) (pgs_cons (pg_name (i := 4) sc_law.nd rfl (Or.inr rfl)) (pgs_cons (pg_name (i := 5) sc_law.nd rfl (Or.inl rfl)) pgs_nil)))))
      (pss_cons (ps_set (i := 6) sc_law.nd rfl (Or.inr rfl) (C8.pe_mk G_Bakery hr (by decide) (by rfl) (pa_cons (pv 3) (pa_cons (pv 4) (pa_cons (pv 5) pa_nil)))))
      (pss_cons (ps_set (i := 7) sc_law.nd rfl (Or.inl rfl) (pe_lst (pa_cons (pe_un un_neg pe_int) (pa_cons pe_int (pa_cons pe_int (pa_cons pe_int (pa_cons pe_int (pa_cons (pe_op op_pow pe_int pe_int) (pa_cons (pe_op op_add (pe_op op_pow pe_int pe_int) pe_int) (pa_cons (pe_op op_pow pe_int pe_int) (pa_cons (pe_op op_add (pe_op op_pow pe_int pe_int) pe_int) (pa_cons (pe_un un_neg (pe_op op_pow pe_int pe_int)) (pa_cons (C8.pe_c G_law_next hr (by decide) (by rfl) (pa_cons (pv 1) (pa_cons (pe_op op_pow pe_int pe_int) pa_nil))) pa_nil)))))))))))))
      (pss_cons (ps_set (i := 8) sc_law.nd rfl (Or.inr rfl) (pe_ix ix_list (pv 7) (C8.pe_c G_law_next hr (by decide) (by rfl) (pa_cons (pv 1) (pa_cons pe_int pa_nil))) (fun _ _ => rfl)))
      (pss_cons (ps_set (i := 9) sc_law.nd rfl (Or.inl rfl) (pe_ifExp (pt_chain op_le op_le pe_int (pv 8) (pe_op op_pow pe_int pe_int)) (pe_tup (pa_cons pe_str pa_nil)) (pe_tup (pa_cons pe_str pa_nil))))
      (pss_cons (ps_set (i := 10) sc_law.nd rfl (Or.inl rfl) (pe_lst (pa_cons (pe_lm (d := lm_law_0) (T := TL K) (tb_law TB) (by rfl) tm_law (tu_law TB) (lm_free cap_law_0) (by rfl) (by rfl)) (pa_cons (pe_lm1 (i := 0) (d := lm_law_1) (T := TL K) (tb_law TB) (by rfl) tm_law (tu_law TB) (lm_free cap_law_1) (by rfl) pe_int (by rfl)) (pa_cons (pe_lm1 (i := 0) (d := lm_law_2) (T := TL K) (tb_law TB) (by rfl) tm_law (tu_law TB) (lm_free cap_law_2) (by rfl) pe_int (by rfl)) pa_nil)))))
      (pss_cons (ps_expr (pe_bm PySem.F.plainAttrs_list PySem.F.slot_list_extend PySem.F.type_list_extend mt_extend (pv 10) (pa_cons (pe_lst (pa_cons (pe_lm (d := lm_law_3) (T := TL K) (tb_law TB) (by rfl) tm_law (tu_law TB) (lm_free cap_law_3) (by rfl) (by rfl)) (pa_cons (pe_lm1 (i := 0) (d := lm_law_4) (T := TL K) (tb_law TB) (by rfl) tm_law (tu_law TB) (lm_free cap_law_4) (by rfl) pe_int (by rfl)) (pa_cons (pe_lm1 (i := 0) (d := lm_law_5) (T := TL K) (tb_law TB) (by rfl) tm_law (tu_law TB) (lm_free cap_law_5) (by rfl) pe_int (by rfl)) pa_nil)))) pa_nil)))
      (pss_cons (ps_expr (pe_bm PySem.F.plainAttrs_list PySem.F.slot_list_extend PySem.F.type_list_extend mt_extend (pv 10) (pa_cons (pe_lst (pa_cons (pe_lm (d := lm_law_6) (T := TL K) (tb_law TB) (by rfl) tm_law (tu_law TB) (lm_free cap_law_6) (by rfl) (by rfl)) (pa_cons (pe_lm1 (i := 0) (d := lm_law_7) (T := TL K) (tb_law TB) (by rfl) tm_law (tu_law TB) (lm_free cap_law_7) (by rfl) pe_int (by rfl)) pa_nil))) pa_nil)))
      (pss_cons (ps_if (pt_cmpR (op_neD hr.units) (pe_lcS (own := [("_law_call", 11)]) G_law_error_s hr (by decide) (by rfl) sc_law.nd (pi_list (pv 10)) (blkOk_by (own := [("_law_call", 11)]) (N := ["_law_script", "_law_h", "_law_turn", "_law_bakes", "_law_demands", "_law_life", "_law_bakery", "_law_some", "_law_number", "_law_due", "_law_works", "_law_call", "_law_observer", "_law_far"]) (sc := defScope s_law) (by decide +kernel)) (fun _ _ _ _ _ => (pg_name (i := 11) sc_law.nd rfl (Or.inl rfl))) (fun _ _ _ _ _ => pts_nil) (fun _ _ _ _ _ => by rfl) (fun _ _ _ _ _ => by exact (pa_cons (pv 11) pa_nil))) (pe_op op_rep (pe_lst (pa_cons (pv 9) pa_nil)) pe_int) (nomark _)) (pss_one (ps_ret pe_bl)) pss_nil)
      (pss_cons (ps_set (i := 9) sc_law.nd rfl (Or.inl rfl) (pe_ifExp (pt_chain op_le op_le pe_int (pv 8) (pe_op op_pow pe_int pe_int)) (pe_tup (pa_cons pe_str pa_nil)) (pe_tup (pa_cons pe_str pa_nil))))
      (pss_cons (ps_set (i := 10) sc_law.nd rfl (Or.inl rfl) (pe_lst (pa_cons (pe_lm (d := lm_law_8) (T := TL K) (tb_law TB) (by rfl) tm_law (tu_law TB) (lm_free cap_law_8) (by rfl) (by rfl)) (pa_cons (pe_lm1 (i := 0) (d := lm_law_9) (T := TL K) (tb_law TB) (by rfl) tm_law (tu_law TB) (lm_free cap_law_9) (by rfl) pe_int (by rfl)) pa_nil))))
      (pss_cons (ps_if (pt_cmpR (op_neD hr.units) (pe_lcS (own := [("_law_call", 11)]) G_law_error_s hr (by decide) (by rfl) sc_law.nd (pi_list (pv 10)) (blkOk_by (own := [("_law_call", 11)]) (N := ["_law_script", "_law_h", "_law_turn", "_law_bakes", "_law_demands", "_law_life", "_law_bakery", "_law_some", "_law_number", "_law_due", "_law_works", "_law_call", "_law_observer", "_law_far"]) (sc := defScope s_law) (by decide +kernel)) (fun _ _ _ _ _ => (pg_name (i := 11) sc_law.nd rfl (Or.inl rfl))) (fun _ _ _ _ _ => pts_nil) (fun _ _ _ _ _ => by rfl) (fun _ _ _ _ _ => by exact (pa_cons (pv 11) pa_nil))) (pe_op op_rep (pe_lst (pa_cons (pv 9) pa_nil)) pe_int) (nomark _)) (pss_one (ps_ret pe_bl)) pss_nil)
      (pss_cons (ps_if (pt_cmpR (op_neD hr.units) (pe_cS (E := fun _ => E0) G_law_error_s hr (by decide) (by rfl) (fun _ _ _ _ I => inv_cellsK I) (fun _ _ _ _ _ _ _ h => h.elim) (pa_cons (pe_lm (d := lm_law_10) (T := TL K) (tb_law TB) (by rfl) tm_law (tu_law TB) (lm_free cap_law_10) (by rfl) (by rfl)) pa_nil)) (pe_ifExp (pt_chain op_le op_le pe_int (pv 8) pe_int) (pe_tup (pa_cons pe_str pa_nil)) (pe_tup (pa_cons pe_str pa_nil))) (nomark _)) (pss_one (ps_ret pe_bl)) pss_nil)
      (pss_cons (ps_asg (pe_tup (pa_cons (C8.pe_mk G_LifeObserver hr (by decide) (by rfl) (pa_cons (pv 3) (pa_cons (pv 4) pa_nil))) (pa_cons (pe_ix ix_list (pe_lst (pa_cons (pe_un un_neg pe_int) (pa_cons (pe_op op_add (pe_op op_pow pe_int pe_int) pe_int) pa_nil))) (C8.pe_c G_law_next hr (by decide) (by rfl) (pa_cons (pv 1) (pa_cons pe_int pa_nil))) (fun _ _ => rfl)) pa_nil))) (pg_tup (n := 2) (by rfl) (pgs_cons (pg_name (i := 12) sc_law.nd rfl (Or.inr rfl)) (pgs_cons (pg_name (i := 13) sc_law.nd rfl (Or.inr rfl)) pgs_nil))))
      (pss_cons (ps_set (i := 10) sc_law.nd rfl (Or.inl rfl) (pe_lst (pa_cons (pe_lm (d := lm_law_11) (T := TL K) (tb_law TB) (by rfl) tm_law (tu_law TB) (lm_free cap_law_11) (by rfl) (by rfl)) (pa_cons (pe_lm1 (i := 0) (d := lm_law_12) (T := TL K) (tb_law TB) (by rfl) tm_law (tu_law TB) (lm_free cap_law_12) (by rfl) pe_int (by rfl)) pa_nil))))
      (pss_cons (ps_expr (pe_bm PySem.F.plainAttrs_list PySem.F.slot_list_append PySem.F.type_list_append mt_append (pv 10) (pa_cons (pe_lm (d := lm_law_13) (T := TL K) (tb_law TB) (by rfl) tm_law (tu_law TB) (lm_free cap_law_13) (by rfl) (by rfl)) pa_nil)))
      (pss_cons (ps_if (PW.pt (pw_or (pt_cmpR (op_neD hr.units) (pe_lcS (own := [("_law_call", 11)]) G_law_error_s hr (by decide) (by rfl) sc_law.nd (pi_list (pv 10)) (blkOk_by (own := [("_law_call", 11)]) (N := ["_law_script", "_law_h", "_law_turn", "_law_bakes", "_law_demands", "_law_life", "_law_bakery", "_law_some", "_law_number", "_law_due", "_law_works", "_law_call", "_law_observer", "_law_far"]) (sc := defScope s_law) (by decide +kernel)) (fun _ _ _ _ _ => (pg_name (i := 11) sc_law.nd rfl (Or.inl rfl))) (fun _ _ _ _ _ => pts_nil) (fun _ _ _ _ _ => by rfl) (fun _ _ _ _ _ => by exact (pa_cons (pv 11) pa_nil))) (pe_op op_rep (pe_lst (pa_cons (pe_tup (pa_cons pe_str pa_nil)) pa_nil)) pe_int) (nomark _)) (pw_or1 (pt_cmpR (op_neD hr.units) (pe_pr G_LifeObserver_records hr (by decide) (pv 12)) (pe_lst pa_nil) (nomark _))))) (pss_one (ps_ret pe_bl)) pss_nil)
      (pss_one (ps_if (pt_cmpR (op_neD hr.units) (pe_cS (E := fun _ => E0) G_law_error_s hr (by decide) (by rfl) (fun _ _ _ _ I => inv_cellsK I) (fun _ _ _ _ _ _ _ h => h.elim) (pa_cons (pe_lm (d := lm_law_14) (T := TL K) (tb_law TB) (by rfl) tm_law (tu_law TB) (lm_free cap_law_14) (by rfl) (by rfl)) pa_nil)) (pe_tup (pa_cons pe_str (pa_cons pe_str (pa_cons (pe_un un_neg pe_int) pa_nil)))) (nomark _)) (pss_one (ps_ret pe_bl)) pss_nil))))))))))))))))))))
      (pss_one (ps_ret pe_bl)))), ?_⟩
  try dsimp only [cxOf, Cx.nox, Cx.wish]
  repeat rw [st_cons]
  repeat rw [st_none]
  try rw [st_nn]
  walk_at "rd"
  refine use_mix hS hn (by decide) (by decide) fun h l H1 s1 hh0 hl0 hat => ?_
  have hT1 := tabsF_s s1 hT
  walk_at "go"
  refine fR_range (fun i σ H' => ∃ x2 x3 x4 x5 x6 x7 x8 x9 x10 x11 x12 x13 : Option V, σ = [some (.ref a), some (.ref h), x2, x3, x4, x5, x6, x7, x8, x9, x10, x11, x12, x13] ∧ Hat H' h l ∧ TabsF (TL K) H') ⟨none, none, none, none, none, none, none, none, none, none, none, none, rfl, hat, hT1⟩ ?_ ?_
  · clear s1 hS hat hT hT1
    rintro i σ H' hi ⟨x2, x3, x4, x5, x6, x7, x8, x9, x10, x11, x12, x13, rfl, hat, hT⟩
    walk_at "go"
    refine use_prt (by walk_at "at") (by omega) (by omega) (by omega) (by omega) fun p H4 tb tw B hat4 sd4 hp htb htw ok nm n0 n1 l0 l1 bb db => ?_
    walk_at "go"
    refine use_BakeryD (by walk_at "at") (by walk_at "at") (by walk_at "at") ok fun b H6 s6 hb => ?_
    walk_at "gs"
    rename_i r7 H7 r70 r71 hat7 sd7 pL H8 s8 n8 e8 r9 H9 r90 r91 hat9 sd9
    obtain ⟨j, rfl, j11⟩ : ∃ j : Nat, r9 = (j : Int) ∧ j < 11 := ⟨r9.toNat, by omega, by omega⟩
    have npL := hat7.ne n8
    have e9 := sd9 _ _ npL.1 npL.2 e8
    obtain ⟨z, hz⟩ : ∃ z : Int, [V.int (-1), V.int 0, V.int 1, V.int 1000, V.int 1001, V.int 1000000000000, V.int (1000000000000 + 1), V.int 1000000000000000000, V.int (1000000000000000000 + 1), V.int (-1000000000000000000), V.int r7][j]? = some (.int z) := by
      match j, j11 with
      | 0, _ => exact ⟨_, rfl⟩
      | 1, _ => exact ⟨_, rfl⟩
      | 2, _ => exact ⟨_, rfl⟩
      | 3, _ => exact ⟨_, rfl⟩
      | 4, _ => exact ⟨_, rfl⟩
      | 5, _ => exact ⟨_, rfl⟩
      | 6, _ => exact ⟨_, rfl⟩
      | 7, _ => exact ⟨_, rfl⟩
      | 8, _ => exact ⟨_, rfl⟩
      | 9, _ => exact ⟨_, rfl⟩
      | 10, _ => exact ⟨_, rfl⟩
    refine r_ixL (sqL_at e9) rfl hz ?_
    have hb9 : BakD K h l H9 b B := by walk_at "at"
    have htb9 : SqT K H9 tb (B.bakes.map V.int) := by walk_at "at"
    have htw9 : SqT K H9 tw (B.dems.map V.int) := by walk_at "at"
    have sd09 : SameD h l H' H9 := by walk_at "sameds"
    have hT9 := tabsF_dA sd09 hat hT
    clear hat4 sd4 hp htb htw s6 hb hat7 sd7 s8 n8 e8 sd9 e9 hat hT sd09 hz r70 r71 r90 r91 npL bb db
    walk_at "ri"
    refine r_join [.str (numS (0 ≤ z ∧ z ≤ 1000000000000000000))] (fun Q' kq => ?_) (fun d1 H10 s10 e10 => ?_)
    · clear hb9 htb9 htw9 hT9 hat9
      walk_at "rd"
      refine i2 (fun c1 => ?_) (fun c1 => ?_)
      · walk_at "rd"
        refine r_p18 ?_
        walk_at "rd"
        refine i2 (fun c2 => ?_) (fun c2 => ?_)
        · walk_at "rd"
          exact a_nwT (Nat.le_of_ble_eq_true rfl) fun p H2 s2 _ e2 => kq p H2 s2 (by rw [show numS (0 ≤ z ∧ z ≤ 1000000000000000000) = "none" from if_pos ⟨c1, c2⟩]; exact e2)
        · walk_at "rd"
          exact a_nwT (Nat.le_of_ble_eq_true rfl) fun p H2 s2 _ e2 => kq p H2 s2 (by rw [show numS (0 ≤ z ∧ z ≤ 1000000000000000000) = "number" from if_neg (by omega)]; exact e2)
      · walk_at "rd"
        exact a_nwT (Nat.le_of_ble_eq_true rfl) fun p H2 s2 _ e2 => kq p H2 s2 (by rw [show numS (0 ≤ z ∧ z ≤ 1000000000000000000) = "number" from if_neg (by omega)]; exact e2)
    have hT10 := tabsF_s s10 hT9
    have hat10 := hat9.mono s10
    have hb10 := bakD_s s10 hb9
    have htb10 := same_sqT s10 htb9
    have htw10 := same_sqT s10 htw9
    clear hT9 hat9 hb9 htb9 htw9 s10
    walk_at "rd"
    refine r_lm hT10 fun f0 F0 H11 y11 hT11 nf0 lam0 dd0 o0 => ?_
    walk_at "rd"
    refine r_lm hT11 fun f1 F1 H12 y12 hT12 nf1 lam1 dd1 o1 => ?_
    walk_at "rd"
    refine r_lm hT12 fun f2 F2 H13 y13 hT13 nf2 lam2 dd2 o2 => ?_
    walk_at "rd"
    refine a_nwL (by show 3 ≤ 1000; decide) fun L H14 s14 n14 e14 => ?_
    have hT14 := tabsF_s s14 hT13
    have E13 := extN_t y11 (extN_t y12 y13)
    have E14 := extN_t E13 (extN_s s14)
    walk_at "go"
    refine r_lm hT14 fun f3 F3 H15 y15 hT15 nf3 lam3 dd3 o3 => ?_
    walk_at "rd"
    refine r_lm hT15 fun f4 F4 H16 y16 hT16 nf4 lam4 dd4 o4 => ?_
    walk_at "rd"
    refine r_lm hT16 fun f5 F5 H17 y17 hT17 nf5 lam5 dd5 o5 => ?_
    walk_at "rd"
    refine a_nwL (by show 3 ≤ 1000; decide) fun M H18 s18 n18 e18 => ?_
    have hT18 := tabsF_s s18 hT17
    have E18 := extN_t E14 (extN_t y15 (extN_t y16 (extN_t y17 (extN_s s18))))
    have eL18 : H18 L = some (.lst [.ref f0, .ref f1, .ref f2]) := s18 _ _ (atn_lst y17 (atn_lst y16 (atn_lst y15 e14)))
    walk_at "rd"
    refine ⟨L, M, _, _, rfl, rfl, eL18, e18, by show 3 + 3 ≤ sizeLine; decide, ?_⟩
    have X19 : SameX L H18 (upd H18 L (.lst ([.ref f0, .ref f1, .ref f2] ++ [.ref f3, .ref f4, .ref f5]))) := sx_upd
    have hT19 := tabsF_x X19 eL18 hT18
    have E19 := extN_u (o := .lst ([.ref f0, .ref f1, .ref f2] ++ [.ref f3, .ref f4, .ref f5])) E13 n14 E18
    have eL19 : (upd H18 L (.lst ([.ref f0, .ref f1, .ref f2] ++ [.ref f3, .ref f4, .ref f5]))) L = some (.lst ([.ref f0, .ref f1, .ref f2] ++ [.ref f3, .ref f4, .ref f5])) := upd_same
    have S19 := still_x X19 eL18
    clear X19
    generalize upd H18 L (.lst ([V.ref f0, V.ref f1, V.ref f2] ++ [V.ref f3, V.ref f4, V.ref f5])) = H19 at hT19 E19 eL19 S19 ⊢
    walk_at "go"
    refine r_lm hT19 fun f6 F6 H20 y20 hT20 nf6 lam6 dd6 o6 => ?_
    walk_at "rd"
    refine r_lm hT20 fun f7 F7 H21 y21 hT21 nf7 lam7 dd7 o7 => ?_
    walk_at "rd"
    refine a_nwL (by show 2 ≤ 1000; decide) fun N2 H22 s22 n22 e22 => ?_
    have hT22 := tabsF_s s22 hT21
    have E22 := extN_t E19 (extN_t y20 (extN_t y21 (extN_s s22)))
    have eL22 : H22 L = some (.lst ([.ref f0, .ref f1, .ref f2] ++ [.ref f3, .ref f4, .ref f5])) := s22 _ _ (atn_lst y21 (atn_lst y20 eL19))
    walk_at "rd"
    refine ⟨L, N2, _, _, rfl, rfl, eL22, e22, by show 6 + 2 ≤ sizeLine; decide, ?_⟩
    have X23 : SameX L H22 (upd H22 L (.lst (([.ref f0, .ref f1, .ref f2] ++ [.ref f3, .ref f4, .ref f5]) ++ [.ref f6, .ref f7]))) := sx_upd
    have hT23 := tabsF_x X23 eL22 hT22
    have E23 := extN_u (o := .lst (([.ref f0, .ref f1, .ref f2] ++ [.ref f3, .ref f4, .ref f5]) ++ [.ref f6, .ref f7])) E13 n14 E22
    have eL23 : (upd H22 L (.lst (([.ref f0, .ref f1, .ref f2] ++ [.ref f3, .ref f4, .ref f5]) ++ [.ref f6, .ref f7]))) L = some (.lst [.ref f0, .ref f1, .ref f2, .ref f3, .ref f4, .ref f5, .ref f6, .ref f7]) := upd_same
    have S22 := still_x X23 eL22
    clear X23
    generalize upd H22 L (.lst (([V.ref f0, V.ref f1, V.ref f2] ++ [V.ref f3, V.ref f4, V.ref f5]) ++ [V.ref f6, V.ref f7])) = H23 at hT23 E23 eL23 S22 ⊢
    have S21 := (Still.of s22).tr S22
    have S20 := (Still.n y21).tr S21
    have S19b := (Still.n y20).tr S20
    have S18 := S19.tr S19b
    have S17 := (Still.of s18).tr S18
    have S16 := (Still.n y17).tr S17
    have S15 := (Still.n y16).tr S16
    have S14 := (Still.n y15).tr S15
    have S13 := (Still.of s14).tr S14
    have S12 := (Still.n y13).tr S13
    have S11 := (Still.n y12).tr S12
    have lm0 := lam0.st S11
    have lm1 := lam1.st S12
    have lm2 := lam2.st S13
    have lm3 := lam3.st S15
    have lm4 := lam4.st S16
    have lm5 := lam5.st S17
    have lm6 := lam6.st S20
    have lm7 := lam7.st S21
    clear S11 S12 S13 S14 S15 S16 S17 S18 S19 S19b S20 S21 S22 lam0 lam1 lam2 lam3 lam4 lam5 lam6 lam7 y11 y12 y13 s14 n14 e14 hT11 hT12 hT13 hT14 E13 E14 y15 y16 y17 s18 n18 e18 hT15 hT16 hT17 hT18 E18 eL18 hT19 E19 eL19 y20 y21 s22 n22 e22 hT20 hT21 hT22 E22 eL22 nf0 nf1 nf2 nf3 nf4 nf5 nf6 nf7
    have hat23 := hatA_n E23 hat10
    have hb23 := bakD_n E23 hb10
    have htb23 := sqTn E23 htb10
    have htw23 := sqTn E23 htw10
    have ed23 := atn_tup E23 e10
    clear E23 hat10 hb10 htb10 htw10 e10 hT10
    walk_at "go"
    refine lcErr [.str (numS (0 ≤ z ∧ z ≤ 1000000000000000000))] eL23 (by show 8 ≤ 1000; decide) hT23 (fun m x H24 Z hx y24 hT24 kz => ?_) fun D H25 ys nD y25 hT25 eD ly all => ?_
    · match m, hx with
      | 0, hx =>
        cases hx
        refine r_cS ?_
        walk_at "rd"
        intro sq kc
        exact use_numK (clo_at_cells (okl_law_0 T) (by decide) (lm0.st (.n y24)) dd0 o0 cap_law_0 kc) (fun Q' E' q => ⟨b, B, z, rfl, rfl, bakAt_D (bakD_n y24 hb23), q⟩) hT24 kz
      | 1, hx =>
        cases hx
        refine r_cS ?_
        walk_at "rd"
        intro sq kc
        exact use_numK (clo_at_cells (okl_law_1 T) (by decide) (lm1.st (.n y24)) dd1 o1 cap_law_1 kc) (fun Q' E' q => ⟨b, B, z, rfl, rfl, bakAt_D (bakD_n y24 hb23), q⟩) hT24 kz
      | 2, hx =>
        cases hx
        refine r_cS ?_
        walk_at "rd"
        intro sq kc
        exact use_numK (clo_at_cells (okl_law_2 T) (by decide) (lm2.st (.n y24)) dd2 o2 cap_law_2 kc) (fun Q' E' q => ⟨b, B, z, rfl, rfl, bakAt_D (bakD_n y24 hb23), q⟩) hT24 kz
      | 3, hx =>
        cases hx
        refine r_cS ?_
        walk_at "rd"
        intro sq kc
        exact use_numK (clo_at_cells (okl_law_3 T) (by decide) (lm3.st (.n y24)) dd3 o3 cap_law_3 kc) (fun Q' E' q => ⟨b, B, z, rfl, rfl, bakAt_D (bakD_n y24 hb23), q⟩) hT24 kz
      | 4, hx =>
        cases hx
        refine r_cS ?_
        walk_at "rd"
        intro sq kc
        exact use_numK (clo_at_cells (okl_law_4 T) (by decide) (lm4.st (.n y24)) dd4 o4 cap_law_4 kc) (fun Q' E' q => ⟨b, B, z, rfl, rfl, bakAt_D (bakD_n y24 hb23), q⟩) hT24 kz
      | 5, hx =>
        cases hx
        refine r_cS ?_
        walk_at "rd"
        intro sq kc
        exact use_numK (clo_at_cells (okl_law_5 T) (by decide) (lm5.st (.n y24)) dd5 o5 cap_law_5 kc) (fun Q' E' q => ⟨b, B, z, rfl, rfl, bakAt_D (bakD_n y24 hb23), q⟩) hT24 kz
      | 6, hx =>
        cases hx
        refine r_cS ?_
        walk_at "rd"
        intro sq kc
        exact use_numK (clo_at_cells (okl_law_6 TB) (by decide) (lm6.st (.n y24)) dd6 o6 cap_law_6 kc) (fun Q' E' q => ⟨b, B, z, rfl, rfl, bakAt_D (bakD_n y24 hb23), q⟩) hT24 kz
      | 7, hx =>
        cases hx
        refine r_cS ?_
        walk_at "rd"
        intro sq kc
        exact use_numK (clo_at_cells (okl_law_7 TB) (by decide) (lm7.st (.n y24)) dd7 o7 cap_law_7 kc) (fun Q' E' q => ⟨b, B, z, rfl, rfl, bakAt_D (bakD_n y24 hb23), q⟩) hT24 kz
      | n + 8, hx => cases hx
    have hat25 := hatA_n y25 hat23
    have hb25 := bakD_n y25 hb23
    have htb25 := sqTn y25 htb23
    have htw25 := sqTn y25 htw23
    have ed25 := atn_tup y25 ed23
    clear y25 hat23 hb23 htb23 htw23 ed23 eL23 hT23 lm0 lm1 lm2 lm3 lm4 lm5 lm6 lm7 dd0 dd1 dd2 dd3 dd4 dd5 dd6 dd7 o0 o1 o2 o3 o4 o5 o6 o7
    walk_at "go"
    rename_i pR H26 s26 n26 e26
    refine a_rep e26 (by decide) (by decide) (by show 1 ≤ 100; decide) fun R H27 s27 n27 e27 => ?_
    have e27' : H27 R = some (.lst (List.replicate 8 (.ref d1))) := e27
    have s57 := sameT s26 s27
    refine a_neNum 8 (s57 _ _ eD) e27' ly rfl (fun i y hy => let ⟨p, e, hp⟩ := all i y hy; ⟨p, e, s57 _ _ hp⟩) (fun i y hy => ⟨d1, List.eq_of_mem_replicate (List.mem_of_getElem? hy), s57 _ _ ed25⟩) (by decide +kernel) (by decide +kernel) ?_
    have hat27 := hat25.mono s57
    have hb27 := bakD_s s57 hb25
    have htb27 := same_sqT s57 htb25
    have htw27 := same_sqT s57 htw25
    have hT27 := tabsF_s s57 hT25
    clear hat25 hb25 htb25 htw25 hT25 ed25 s26 n26 e26 s27 n27 e27 e27' s57 eD ly all nD
    walk_at "ri"
    refine r_join [.str (numS (0 ≤ z ∧ z ≤ 1000000000000))] (fun Q' kq => ?_) (fun d2 H30 s30 e30 => ?_)
    · clear hb27 htb27 htw27 hT27 hat27
      walk_at "rd"
      refine i2 (fun c1 => ?_) (fun c1 => ?_)
      · walk_at "rd"
        refine r_p12 ?_
        walk_at "rd"
        refine i2 (fun c2 => ?_) (fun c2 => ?_)
        · walk_at "rd"
          exact a_nwT (Nat.le_of_ble_eq_true rfl) fun p H2 s2 _ e2 => kq p H2 s2 (by rw [show numS (0 ≤ z ∧ z ≤ 1000000000000) = "none" from if_pos ⟨c1, c2⟩]; exact e2)
        · walk_at "rd"
          exact a_nwT (Nat.le_of_ble_eq_true rfl) fun p H2 s2 _ e2 => kq p H2 s2 (by rw [show numS (0 ≤ z ∧ z ≤ 1000000000000) = "number" from if_neg (by omega)]; exact e2)
      · walk_at "rd"
        exact a_nwT (Nat.le_of_ble_eq_true rfl) fun p H2 s2 _ e2 => kq p H2 s2 (by rw [show numS (0 ≤ z ∧ z ≤ 1000000000000) = "number" from if_neg (by omega)]; exact e2)
    have hT30 := tabsF_s s30 hT27
    have hat30 := hat27.mono s30
    have hb30 := bakD_s s30 hb27
    have htb30 := same_sqT s30 htb27
    have htw30 := same_sqT s30 htw27
    clear hT27 hat27 hb27 htb27 htw27 s30
    walk_at "rd"
    refine r_lm hT30 fun f8 F8 H31 y31 hT31 nf8 lam8 dd8 o8 => ?_
    walk_at "rd"
    refine r_lm hT31 fun f9 F9 H32 y32 hT32 nf9 lam9 dd9 o9 => ?_
    walk_at "rd"
    refine a_nwL (by show 2 ≤ 1000; decide) fun L2 H33 s33 n33 e33 => ?_
    have hT33 := tabsF_s s33 hT32
    have E33 := extN_t y31 (extN_t y32 (extN_s s33))
    have lm9 := lam9.st (Still.of s33)
    have lm8 := lam8.st ((Still.n y32).tr (Still.of s33))
    have hat33 := hatA_n E33 hat30
    have hb33 := bakD_n E33 hb30
    have htb33 := sqTn E33 htb30
    have htw33 := sqTn E33 htw30
    have ed33 := atn_tup E33 e30
    clear E33 hat30 hb30 htb30 htw30 e30 hT30 y31 hT31 nf8 lam8 y32 hT32 nf9 lam9 s33 n33
    walk_at "go"
    refine lcErr [.str (numS (0 ≤ z ∧ z ≤ 1000000000000))] e33 (by show 2 ≤ 1000; decide) hT33 (fun m x H34 Z hx y34 hT34 kz => ?_) fun D2 H35 ys2 nD2 y35 hT35 eD2 ly2 all2 => ?_
    · match m, hx with
      | 0, hx =>
        cases hx
        refine r_cS ?_
        walk_at "rd"
        intro sq kc
        exact use_numK (clo_at_cells (okl_law_8 T) (by decide) (lm8.st (.n y34)) dd8 o8 cap_law_8 kc) (fun Q' E' q => ⟨b, B, z, rfl, rfl, bakAt_D (bakD_n y34 hb33), q⟩) hT34 kz
      | 1, hx =>
        cases hx
        refine r_cS ?_
        walk_at "rd"
        intro sq kc
        exact use_numK (clo_at_cells (okl_law_9 T) (by decide) (lm9.st (.n y34)) dd9 o9 cap_law_9 kc) (fun Q' E' q => ⟨b, B, z, rfl, rfl, bakAt_D (bakD_n y34 hb33), q⟩) hT34 kz
      | n + 2, hx => cases hx
    have hat35 := hatA_n y35 hat33
    have hb35 := bakD_n y35 hb33
    have htb35 := sqTn y35 htb33
    have htw35 := sqTn y35 htw33
    have ed35 := atn_tup y35 ed33
    clear y35 hat33 hb33 htb33 htw33 ed33 e33 hT33 lm8 lm9 dd8 dd9 o8 o9
    walk_at "go"
    rename_i pR2 H36 s36 n36 e36
    refine a_rep e36 (by decide) (by decide) (by show 1 ≤ 100; decide) fun R2 H37 s37 n37 e37 => ?_
    have e37' : H37 R2 = some (.lst (List.replicate 2 (.ref d2))) := e37
    have s57 := sameT s36 s37
    refine a_neNum 2 (s57 _ _ eD2) e37' ly2 rfl (fun i y hy => let ⟨p, e, hp⟩ := all2 i y hy; ⟨p, e, s57 _ _ hp⟩) (fun i y hy => ⟨d2, List.eq_of_mem_replicate (List.mem_of_getElem? hy), s57 _ _ ed35⟩) (by decide +kernel) (by decide +kernel) ?_
    have hat37 := hat35.mono s57
    have hb37 := bakD_s s57 hb35
    have htb37 := same_sqT s57 htb35
    have htw37 := same_sqT s57 htw35
    have hT37 := tabsF_s s57 hT35
    clear hat35 hb35 htb35 htw35 hT35 ed35 s36 n36 e36 s37 n37 e37 e37' s57 eD2 ly2 all2 nD2
    walk_at "rd"
    refine r_cS ?_
    walk_at "rd"
    refine r_lm hT37 fun f10 F10 H40 y40 hT40 nf10 lam10 dd10 o10 => ?_
    walk_at "rd"
    intro sq10 kc10
    refine use_numK (hi := 1000) (x := z) (clo_at_cells (P := P) (w := w) (base := base) (okl_law_10 T) (Nat.le_refl _) lam10 dd10 o10 cap_law_10 kc10 |>.mono (by decide)) (fun Q' E' q => ⟨b, B, z, rfl, rfl, bakAt_D (bakD_n y40 hb37), q⟩) hT40 fun q41 H41 y41 hT41 e41 => ?_
    have E41 := extN_t y40 y41
    have hat41 := hatA_n E41 hat37
    have htb41 := sqTn E41 htb37
    have htw41 := sqTn E41 htw37
    clear E41 hat37 hb37 htb37 htw37 hT37 y40 hT40 nf10 lam10 dd10 o10 kc10 y41
    walk_at "ri"
    refine r_join [.str (numS (0 ≤ z ∧ z ≤ 1000))] (fun Q' kq => ?_) (fun d3 H42 s42 e42 => ?_)
    · clear htb41 htw41 hT41 hat41 e41
      walk_at "rd"
      refine i2 (fun c1 => ?_) (fun c1 => ?_)
      · walk_at "rd"
        refine i2 (fun c2 => ?_) (fun c2 => ?_)
        · walk_at "rd"
          exact a_nwT (Nat.le_of_ble_eq_true rfl) fun p H2 s2 _ e2 => kq p H2 s2 (by rw [show numS (0 ≤ z ∧ z ≤ 1000) = "none" from if_pos ⟨c1, c2⟩]; exact e2)
        · walk_at "rd"
          exact a_nwT (Nat.le_of_ble_eq_true rfl) fun p H2 s2 _ e2 => kq p H2 s2 (by rw [show numS (0 ≤ z ∧ z ≤ 1000) = "number" from if_neg (by omega)]; exact e2)
      · walk_at "rd"
        exact a_nwT (Nat.le_of_ble_eq_true rfl) fun p H2 s2 _ e2 => kq p H2 s2 (by rw [show numS (0 ≤ z ∧ z ≤ 1000) = "number" from if_neg (by omega)]; exact e2)
    refine a_neNumT (s42 _ _ e41) e42 ?_
    have hT42 := tabsF_s s42 hT41
    have hat42 := hat41.mono s42
    have htb42 := same_sqT s42 htb41
    have htw42 := same_sqT s42 htw41
    clear hT41 hat41 htb41 htw41 e41 e42 s42
    walk_at "rd"
    refine use_Obs0 htb42 htw42 ok fun ao tn H43 s43 ntn ho => ?_
    have ntn' := hat42.ne ntn
    have hat43 := hat42.mono s43
    have hT43 := tabsF_s s43 hT42
    have htb43 := same_sqT s43 htb42
    have htw43 := same_sqT s43 htw42
    clear hat42 hT42 htb42 htw42 s43 ntn
    walk_at "go"
    rename_i p44 H44 s44 n44 e44 r45 H45 r450 r451 hat45 sd45 fz hfz p46 H46 s46 n46 e46
    have fbad : fz < 0 ∨ 1000000000000000000 < fz := by
      rcases hfz with rfl | rfl <;> omega
    have hat44 := hat43.mono s44
    have hT46 := tabsF_s s46 (tabsF_dA sd45 hat44 (tabsF_s s44 hT43))
    have hat46 := hat45.mono s46
    have ho46 := obs0_s s46 (obs0_d sd45 hat44 ntn' (obs0_s s44 ho))
    have htb46 := same_sqT s46 (sd45.sqT hat44 (same_sqT s44 htb43))
    have htw46 := same_sqT s46 (sd45.sqT hat44 (same_sqT s44 htw43))
    clear hat43 hT43 htb43 htw43 ho s44 n44 e44 r450 r451 hat45 sd45 hfz s46 n46 e46 hat44
    refine r_lm hT46 fun f11 F11 H51 y51 hT51 nf11 lam11 dd11 o11 => ?_
    walk_at "rd"
    refine r_lm hT51 fun f12 F12 H52 y52 hT52 nf12 lam12 dd12 o12 => ?_
    walk_at "rd"
    refine a_nwL (by show 2 ≤ 1000; decide) fun L3 H53 s53 n53 e53 => ?_
    have hT53 := tabsF_s s53 hT52
    have E52 := extN_t y51 y52
    walk_at "go"
    refine r_lm hT53 fun f13 F13 H54 y54 hT54 nf13 lam13 dd13 o13 => ?_
    have e54 := atn_lst y54 e53
    have E54 := extN_t E52 (extN_t (extN_s s53) y54)
    walk_at "rd"
    refine r_append e54 (by show 2 < 100000; decide) ?_
    have X55 : SameX L3 H54 (upd H54 L3 (.lst ([.ref f11, .ref f12] ++ [.ref f13]))) := sx_upd
    have hT55 := tabsF_x X55 e54 hT54
    have E55 := extN_u (o := .lst ([.ref f11, .ref f12] ++ [.ref f13])) E52 n53 E54
    have e55 : (upd H54 L3 (.lst ([.ref f11, .ref f12] ++ [.ref f13]))) L3 = some (.lst [.ref f11, .ref f12, .ref f13]) := upd_same
    have S54 := still_x X55 e54
    clear X55
    generalize upd H54 L3 (.lst ([V.ref f11, V.ref f12] ++ [V.ref f13])) = H55 at hT55 E55 e55 S54 ⊢
    have lm13 := lam13.st S54
    have S52 := (Still.of s53).tr ((Still.n y54).tr S54)
    have lm12 := lam12.st S52
    have lm11 := lam11.st ((Still.n y52).tr S52)
    have hat55 := hatA_n E55 hat46
    have ho55 := obs0_n E55 ho46
    have htb55 := sqTn E55 htb46
    have htw55 := sqTn E55 htw46
    clear S52 S54 lam11 lam12 lam13 y51 y52 y54 s53 n53 e53 e54 E52 E54 E55 hT51 hT52 hT53 hT54 nf11 nf12 nf13 hat46 ho46 htb46 htw46 hT46
    walk_at "go"
    refine lcErr [.str (numS False)] e55 (by show 3 ≤ 1000; decide) hT55 (fun m x H56 Z hx y56 hT56 kz => ?_) fun D4 H57 ys4 nD4 y57 hT57 eD4 ly4 all4 => ?_
    · match m, hx with
      | 0, hx =>
        cases hx
        refine r_cS ?_
        walk_at "rd"
        intro sq kc
        exact use_numE (clo_at_cells (okl_law_11 T) (by decide) (lm11.st (.n y56)) dd11 o11 cap_law_11 kc) (fun Q' E' q => ⟨ao, tn, fz, rfl, rfl, obs0_n y56 ho55, fbad, q⟩) (fun p H' s' e' => kz p H' (extN_s s') (tabsF_s s' hT56) e')
      | 1, hx =>
        cases hx
        refine r_cS ?_
        walk_at "rd"
        intro sq kc
        exact use_numE (clo_at_cells (okl_law_12 T) (by decide) (lm12.st (.n y56)) dd12 o12 cap_law_12 kc) (fun Q' E' q => ⟨ao, tn, fz, rfl, rfl, obs0_n y56 ho55, fbad, q⟩) (fun p H' s' e' => kz p H' (extN_s s') (tabsF_s s' hT56) e')
      | 2, hx =>
        cases hx
        refine r_cS ?_
        walk_at "rd"
        intro sq kc
        exact use_numE (clo_at_cells (okl_law_13 T) (by decide) (lm13.st (.n y56)) dd13 o13 cap_law_13 kc) (fun Q' E' q => ⟨ao, tn, fz, rfl, rfl, obs0_n y56 ho55, fbad, q⟩) (fun p H' s' e' => kz p H' (extN_s s') (tabsF_s s' hT56) e')
      | n + 3, hx => cases hx
    have hat57 := hatA_n y57 hat55
    have ho57 := obs0_n y57 ho55
    have htb57 := sqTn y57 htb55
    have htw57 := sqTn y57 htw55
    clear y57 hat55 ho55 htb55 htw55 e55 hT55 lm11 lm12 lm13 dd11 dd12 dd13 o11 o12 o13
    walk_at "go"
    rename_i d4 H58 s58 n58 e58 pR3 H59 s59 n59 e59
    refine a_rep e59 (by decide) (by decide) (by show 1 ≤ 100; decide) fun R3 H60 s60 n60 e60 => ?_
    have e60' : H60 R3 = some (.lst (List.replicate 3 (.ref d4))) := e60
    have s57 := sameT s58 (sameT s59 s60)
    refine a_neNum (c := False) 3 (s57 _ _ eD4) e60' ly4 rfl (fun i y hy => let ⟨p, e, hp⟩ := all4 i y hy; ⟨p, e, s57 _ _ hp⟩) (fun i y hy => ⟨d4, List.eq_of_mem_replicate (List.mem_of_getElem? hy), s60 _ _ (s59 _ _ e58)⟩) (by decide +kernel) (by decide +kernel) ?_
    have hat60 := hat57.mono s57
    have ho60 := obs0_s s57 ho57
    have htb60 := same_sqT s57 htb57
    have htw60 := same_sqT s57 htw57
    have hT60 := tabsF_s s57 hT57
    clear hat57 ho57 htb57 htw57 hT57 s58 n58 e58 s59 n59 e59 s60 n60 e60 e60' s57 eD4 ly4 all4 nD4
    walk_at "rd"
    obtain ⟨dx, tl, tv, h1, h2⟩ := id ho60
    refine ⟨ao, dx, _, rfl, h1, ⟨ao, tn, rfl, ho60, fun t H61 s61 n61 e61 => ?_⟩⟩
    walk_at "go"
    rename_i H62 s62
    have s60b := sameT s61 s62
    have hat62 := hat60.mono s60b
    have htb62 := same_sqT s60b htb60
    have htw62 := same_sqT s60b htw60
    have hT62 := tabsF_s s60b hT60
    clear s61 s62 n61 e61 s60b hat60 ho60 htb60 htw60 hT60 h1 h2
    refine r_cS ?_
    walk_at "rd"
    refine r_lm hT62 fun f14 F14 H63 y63 hT63 nf14 lam14 dd14 o14 => ?_
    have hat63 := hatA_n y63 hat62
    have htb63 := sqTn y63 htb62
    have htw63 := sqTn y63 htw62
    walk_at "rd"
    intro sq kc
    refine use_bakE (clo_at_cells (okl_law_14 T) (by decide) lam14 dd14 o14 cap_law_14 kc) (fun Q' E' q => ⟨tb, tw, B, rfl, rfl, htb63, htw63, ok, by omega, q⟩) fun q H64 s64 e64 => ?_
    have hat64 := hat63.mono s64
    have hT64 := tabsF_s s64 hT63
    walk_at "rd"
    refine a_nwT (Nat.le_of_ble_eq_true rfl) fun q2 H65 s65 n65 e65 => ?_
    have hat65 := hat64.mono s65
    have hT65 := tabsF_s s65 hT64
    refine a_neSelf (d := .tuple [.str "bakery", .str "demands", .int (-1)]) (.tup (sqT_at (s65 _ _ e64)) (.cons (.str _) (.cons (.str _) (.cons (.int _) .nil)))) (.tup (sqT_at e65) (.cons (.str _) (.cons (.str _) (.cons (.int _) .nil)))) (by decide +kernel) (by simp [PyData.eqv, PyData.eqvAll]) ?_
    walk_at "go"
    exact ⟨_, _, _, _, _, _, _, _, _, _, _, _, rfl, hat65, hT65⟩
  · rintro σ H' ⟨x2, x3, x4, x5, x6, x7, x8, x9, x10, x11, x12, x13, rfl, hat, hT⟩
    walk_at "rd"
    exact k H'

end G57
end
namespace G57
open PySem PySem.Spec PyProof.Rows L2
theorem facts {P : Program} {w : World} {K : PySem.W.Frag} {h : Heap} {mg : Str → Option Value} {f : Addr} (X : K.In h) (G : h.Ns mainGlobals mg) (hfa : mg ("law" : Str) = some (.ref f)) (c : SaysA exL fnL K) :
    ∃ fd : FuncData, (∀ (s : Shared) (v : Value), BindsTo s fd ⟨[v], []⟩ [("_law_script", v)]) ∧ ∀ base : Heap, K.In base → base.Ns mainGlobals mg → (∀ p ∈ tfL, LamX.TabB base mg (He.cT K p).1 (He.cT K p).2) → FnOk P w K mg base CX0 lawLev f fd ["_law_script"] (spLaw K) := by
  have T : Tx K mg := ⟨c, h, X, G⟩
  obtain ⟨fd, F⟩ := fn_law T
  have e := hfa.symm.trans (fg_law T)
  cases e
  have b := FunD.bindsA (ps := ["_law_script"]) F fun _ _ _ _ _ _ us hl => match us, hl with | [_], _ => rfl
  exact ⟨fd, fun s v => b s [v] rfl, fun base _ _ tb => ok_law ⟨T, tb⟩ F⟩
theorem tabs0 {K : PySem.W.Frag} {H : Hp} (h : ∀ p ∈ tfL, H (He.cT K p).2 = some (.tbl #[])) : TabsF (TL K) H := tabsF_0 fun p hp => by
  simp only [TL, List.mem_cons, List.not_mem_nil, or_false] at hp
  rcases hp with rfl | rfl | rfl
  · exact h _ List.mem_cons_self
  · exact h _ (List.mem_cons_of_mem _ List.mem_cons_self)
  · exact h _ (List.mem_cons_of_mem _ (List.mem_cons_of_mem _ List.mem_cons_self))
end G57
open PySem PySem.W PySem.Calls PyProof.Rows
set_option maxHeartbeats 0
theorem PySem.Challenge.cw_staleloaves_k10_numbers_out_of_range_holds : PySem.Challenge.rw_staleloaves_k10_numbers_out_of_range.Holds := by
  w_on; o_law
  refine HandSHeadRun.head_any (r := G57.Rrow) (q := view G57.Rrow.prog [39]) (H := G57.hkL) (ob := G57.obL) (M := 6000) (loose := G57.looseL) (d := HandSHeadRun.topDef G57.Rrow.prog 39) (kwd := []) G57.obL_eq
    (by kernel_rfl) (fun s => by kernel_rfl) G57.runL (by kernel_rfl) (by kernel_rfl) (by kernel_rfl) (by rfl) (by first | assumption | decide +kernel) (by decide +kernel) ⟨rfl, rfl, rfl, rfl, rfl, by decide +kernel⟩ ?hw ?hc
  case hw => w_witness2
  case hc =>
    refine G57.walk_ofT (l := PySem.Challenge.rw_staleloaves_k10_numbers_out_of_range) (n := 63) (k := G57.lawLev) (x := "_law_script") rfl (by decide) (by kernel_rfl) ⟨rfl, by decide, by decide⟩ ?F
    intro w mg fa h Y G hmg0
    obtain ⟨K, KX, c⟩ := Y
    have hmg : mg ("law" : PySem.Str) = some (.ref fa) := by
      have e : (HandSHeadRun.topDef G57.Rrow.prog 39).name = ("law" : PySem.Str) := by kernel_rfl
      rw [← e]
      exact hmg0
    obtain ⟨fd, hb, hF⟩ := G57.facts (P := (PySem.Challenge.rw_staleloaves_k10_numbers_out_of_range).prog) (w := w) KX G hmg c.a
    have mem : ∀ {Z : PySem.Addr × PySem.Addr → Prop}, (∀ p ∈ G57.tfL, Z (He.cT K p)) → ∀ p ∈ G57.tfL.map (He.cT K), Z p := fun {Z} z p hp => by
      obtain ⟨q, hq, e⟩ := List.mem_map.mp hp
      rw [← e]
      exact z q hq
    exact ⟨K, fd, G57.tfL.map (He.cT K), G57.spLaw K, KX, mem fun p hp => c.empty p hp, mem fun p hp => c.out p hp, mem fun p hp => PySem.W.codeHd_of_K KX (c.hd p hp), hb,
      fun H a ns hl hT hS => ⟨a, ns, rfl, hS, hl, G57.tabs0 fun p hp => hT _ (List.mem_map.mpr ⟨p, hp, rfl⟩), fun _ => rfl⟩, fun base Kb Gb tb => hF base Kb Gb fun p hp => tb _ (List.mem_map.mpr ⟨p, hp, rfl⟩)⟩
