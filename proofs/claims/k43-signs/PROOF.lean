import PyProof.Rows.All
import Wide.All
import OpenK.AllK
import Wide.FinOn
import Lean
import HandS.ForMost
import HandS.ForExc
import HandS.Codes
import HandS.Defaults
import HandS.HeadHook1
import HandS.HeadHook2
import HandS.Property
import HandS.ClsMeth
import KE.GoesEnum
import PyProof.SumWalkG
import PyProof.WalksMore
import HandS.Wide
import HandS.Iter
import HandS.TupAny
import HandS.TupMul
import HandS.Style
import HandS.NoneIn
import HandS.Conv
import HandS.Zip
import HandS.IsInst
import HandS.RevRange
import HandS.Star
import KE.KDflt
import HandS.Lambda
import HandS.Nested
import HandS.CallSlots
import HandS.EndTab
import HandS.HeadHook4
import HandS.ExcOwn
import HandS.ExcField
import HandS.TryOnly
import HandS.ExcInit
import HandS.MakeKwOnly
import HandS.ExcIs
import HandS.TryMany
import PyProof.InstNe
import KE.KOpsOwn
import HandS.Head0
import HandS.Head1
import HandS.Head2
import HandS.HeadEnd
import PySem.Challenge.RW_staleloaves_k43_signs_of_prices
set_option Elab.async false
set_option linter.all false
set_option maxRecDepth 100000
set_option maxHeartbeats 4000000
section
set_option maxRecDepth 100000
set_option maxHeartbeats 4000000
/-! XHook: the head's facts by a list of Bool functions and of function objects found by paths. -/
namespace G57
open PySem PySem.Spec PyProof.Rows L2
/-! ### functions found by paths -/
structure DefA where
  path : PySem.W.Frag → Addr
  name : Str
  qual : Str
  params : Arguments
  body : List Stmt
  scope : Scope
  dfl : List He.Dv := []
  kwd : List (Str × He.Dv) := []
def fnA (K : PySem.W.Frag) (p : PySem.W.Frag → Addr) : He.FnW :=
  match K.lookup (p K) with
  | some ⟨_, _, .func q, _⟩ => some (q.name, q.qualname, q.params, q.body, q.scope, q.globals, q.closure, q.builtins)
  | _ => none
def DefA.val (d : DefA) : He.FnW := some (d.name, d.qual, d.params, .stmts d.body, d.scope, mainGlobals, [], builtinsNs)
def DefA.dvs (K : PySem.W.Frag) (d : DefA) : List V := d.dfl.map (He.Dv.v K)
def DefA.kws (K : PySem.W.Frag) (d : DefA) : List (Str × V) := d.kwd.map fun z => (z.1, z.2.v K)
def DefA.ok (K : PySem.W.Frag) (d : DefA) : Bool :=
  PySem.W.keepIn K (.ref (d.path K)) && (match K.lookup (d.path K) with
  | some ⟨_, _, .func q, _⟩ => PySem.W.codeIn K q.code d.qual && (He.dflB K q.defaults (d.dvs K) && He.kwdB K q.kwdefaults (d.kws K))
  | _ => false)
abbrev DefA.Fn (K : PySem.W.Frag) (d : DefA) (fd : FuncData) : Prop := FunD K d.name d.qual d.params d.body d.scope (d.dvs K) (d.kws K) (d.path K) fd
theorem DefA.funD {K : PySem.W.Frag} {d : DefA} (e : fnA K d.path = d.val) (c : d.ok K = true) : ∃ fd, d.Fn K fd := by
  obtain ⟨kp, c2⟩ := He.ba c
  unfold fnA at e
  cases q : K.lookup (d.path K) with
  | none =>
    rw [q] at c2
    cases c2
  | some o =>
    obtain ⟨oc, od, dt, osl⟩ := o
    rw [q] at c2 e
    cases dt with
    | func fd =>
      obtain ⟨m1, m2, m3, m4, m5, m6, m7, m8, m9, m10, m11, m12, m13, m14, m15⟩ := fd
      have e2 : (some (m1, m2, m3, m4, m5, m6, m7, m15) : He.FnW) = d.val := e
      unfold DefA.val at e2
      simp only [Option.some.injEq, Prod.mk.injEq] at e2
      obtain ⟨z1, z2, z3, z4, z5, z6, z7, z8⟩ := e2
      subst z1 z2 z3 z4 z5 z6 z7 z8
      have c3 : (PySem.W.codeIn K m13 d.qual && (He.dflB K m8 (d.dvs K) && He.kwdB K m9 (d.kws K))) = true := c2
      obtain ⟨y1, y2⟩ := He.ba c3
      obtain ⟨y3, y4⟩ := He.ba y2
      exact ⟨_, ⟨oc, od, m8, m9, m10, m11, m12, m13, m14, osl, rfl, q, y1, He.dflB_ok y3, He.kwdB_ok y4⟩, kp⟩
    | _ => cases c2
/-! ### the Hook -/
abbrev Ex : Type := PySem.W.Frag → Bool
abbrev AlA : Type := Bool × List He.FnW
def obsA (ex : List Ex) (fn : List DefA) (K : PySem.W.Frag) : AlA :=
  ((ex.all fun z => z K) && fn.all fun d => d.ok K, fn.map fun d => fnA K d.path)
def valA (fn : List DefA) : AlA := (true, fn.map DefA.val)
def SaysA (ex : List Ex) (fn : List DefA) (K : PySem.W.Frag) : Prop := obsA ex fn K = valA fn
/-- what the module's names, and the interpreter's own table, reach in n steps -/
def asA (g : Addr → Option Obj) : Nat → List Addr
  | 0 => [mainGlobals, cStatics]
  | n + 1 => He.growD g (asA g n)
def obsAG (n : Nat) (ex : List Ex) (fn : List DefA) (g : Addr → Option Obj) : AlA := obsA ex fn (He.frG g (asA g n))
def hookA (n : Nat) (ex : List Ex) (fn : List DefA) : PySem.W.Hook where
  α := AlA
  obs := fun s => obsAG n ex fn s.heap.get?
  val := fun _ => valA fn
  says := fun _ h => ∃ K : PySem.W.Frag, K.In h ∧ SaysA ex fn K
  of := fun _ _ e => ⟨_, He.frG_in, e⟩
  keeps := fun _ _ _ z k => let ⟨K, hK, c⟩ := z; ⟨K, PySem.W.Frag.In.keeps hK k, c⟩
theorem obsAG_eq {n : Nat} {ex : List Ex} {fn : List DefA} {g : Addr → Option Obj} {s : Shared} (h : ∀ a, g a = s.heap.get? a) :
    obsAG n ex fn g = (hookA n ex fn).obs s := by
  have e : g = s.heap.get? := funext h
  rw [e]
  rfl
section
variable {ex : List Ex} {fn : List DefA} {K : PySem.W.Frag}
theorem SaysA.fact (c : SaysA ex fn K) (i : Nat) {f : Ex} (h : ex[i]? = some f := by rfl) : f K = true := by
  have c0 : ((ex.all fun z => z K) && fn.all fun d => d.ok K) = true := congrArg (fun z : AlA => z.1) c
  exact List.all_eq_true.mp (He.ba c0).1 f (List.mem_of_getElem? h)
theorem SaysA.fn_ (c : SaysA ex fn K) (i : Nat) {d : DefA} (h : fn[i]? = some d := by rfl) : ∃ fd, d.Fn K fd := by
  have c0 : ((ex.all fun z => z K) && fn.all fun d => d.ok K) = true := congrArg (fun z : AlA => z.1) c
  have e : fn.map (fun d => fnA K d.path) = fn.map DefA.val := congrArg (fun z : AlA => z.2) c
  have e2 : (fn.map fun d => fnA K d.path)[i]? = (fn.map DefA.val)[i]? := by rw [e]
  rw [List.getElem?_map, List.getElem?_map, h] at e2
  exact DefA.funD (Option.some.inj e2) (List.all_eq_true.mp (He.ba c0).2 d (List.mem_of_getElem? h))
end
/-! ### paths -/
abbrev pG (x : Str) : PySem.W.Frag → Addr := fun K => He.ga K x
abbrev pM (C m : Str) : PySem.W.Frag → Addr := fun K => He.ma K (He.ga K C) m
/-- a property's object, its getter -/
def prA (K : PySem.W.Frag) (C : Addr) (f : Str) : Addr := match PySem.W.findIn K (.ref C) f with
  | some (some (.ref p)) => p
  | _ => 0
def gtA (K : PySem.W.Frag) (C : Addr) (f : Str) : Addr := match PySem.W.recIn K (prA K C f) "property" with
  | some (.ref g :: _) => g
  | _ => 0
abbrev pP (C f : Str) : PySem.W.Frag → Addr := fun K => gtA K (He.ga K C) f
def propB (C f : Str) : Ex := fun K =>
  He.eqO (PySem.W.findIn K (.ref (He.ga K C)) f) (some (some (.ref (prA K (He.ga K C) f)))) &&
  (He.eqO (PySem.W.specialIn K (.ref (prA K (He.ga K C) f)) "__get__") (some (some (.builtin "property.__get__"))) &&
  (decide (PySem.W.takesIn K (.ref (prA K (He.ga K C) f)) = some true) &&
  (match PySem.W.recIn K (prA K (He.ga K C) f) "property" with
  | some (.ref _ :: _) => true
  | _ => false)))
theorem prop_ok {K : PySem.W.Frag} {C f : Str} (h : propB C f K = true) : PropOf K (He.ga K C) f (prA K (He.ga K C) f) (gtA K (He.ga K C) f) := by
  unfold propB at h
  obtain ⟨z1, h⟩ := He.ba h
  obtain ⟨z2, h⟩ := He.ba h
  obtain ⟨z3, h⟩ := He.ba h
  refine ⟨He.eqO_ok z1, He.eqO_ok z2, of_decide_eq_true z3, ?_⟩
  unfold gtA
  cases q : PySem.W.recIn K (prA K (He.ga K C) f) "property" with
  | none =>
    rw [q] at h
    cases h
  | some l =>
    rw [q] at h
    cases l with
    | nil => cases h
    | cons v r =>
      cases v with
      | ref g => exact ⟨r, rfl⟩
      | _ => cases h
/-! ### a class's constant read off the class -/
def cvalB (C f : Str) (i : Int) : Ex := fun K =>
  PySem.W.readsIn K (He.ga K C) (.type "type") &&
  (He.eqO (PySem.W.specialIn K (.ref (He.ga K C)) "__getattribute__") (some (some (.builtin "type.__getattribute__"))) &&
  (match PySem.W.findCls K (.ref (He.ga K C)) (.type "type") f with
  | some (.val (.int j _)) => decide (j = i)
  | _ => false))
theorem cval_ok {K : PySem.W.Frag} {C f : Str} {i : Int} (h : cvalB C f i K = true) :
    ClX.CRead K (He.ga K C) (.type "type") ∧ ∃ u, ClX.CVal K (He.ga K C) (.type "type") f (.int i) u := by
  unfold cvalB at h
  obtain ⟨z1, h⟩ := He.ba h
  obtain ⟨z2, h⟩ := He.ba h
  refine ⟨⟨z1, He.eqO_ok z2⟩, ?_⟩
  cases q : PySem.W.findCls K (.ref (He.ga K C)) (.type "type") f with
  | none =>
    rw [q] at h
    cases h
  | some r =>
    rw [q] at h
    cases r with
    | val v =>
      cases v with
      | int j t =>
        have ej : j = i := of_decide_eq_true h
        subst ej
        exact ⟨_, q, t, rfl⟩
      | _ => cases h
    | _ => cases h
/-! ### names -/
theorem bb_max : bootBuiltins "max" = some (.builtin "max") := by decide +kernel
theorem bb_min : bootBuiltins "min" = some (.builtin "min") := by decide +kernel
theorem bb_len : bootBuiltins "len" = some (.builtin "len") := by decide +kernel
theorem bb_sum : bootBuiltins "sum" = some (.builtin "sum") := by decide +kernel
theorem bb_any : bootBuiltins "any" = some (.builtin "any") := by decide +kernel
theorem bb_all : bootBuiltins "all" = some (.builtin "all") := by decide +kernel
theorem bb_isinstance : bootBuiltins "isinstance" = some (.builtin "isinstance") := by decide +kernel
theorem bb_int : bootBuiltins "int" = some (.type "int") := by decide +kernel
theorem bb_bool : bootBuiltins "bool" = some (.type "bool") := by decide +kernel
theorem bb_str : bootBuiltins "str" = some (.type "str") := by decide +kernel
theorem bb_list : bootBuiltins "list" = some (.type "list") := by decide +kernel
theorem bb_tuple : bootBuiltins "tuple" = some (.type "tuple") := by decide +kernel
theorem bb_dict : bootBuiltins "dict" = some (.type "dict") := by decide +kernel
theorem bb_set : bootBuiltins "set" = some (.type "set") := by decide +kernel
theorem bb_sorted : bootBuiltins "sorted" = some (.builtin "sorted") := by decide +kernel
theorem bb_zip : bootBuiltins "zip" = some (.type "zip") := by decide +kernel
theorem bb_enumerate : bootBuiltins "enumerate" = some (.type "enumerate") := by decide +kernel
theorem gc_int {mg : Str → Option Value} {x : Str} {i : Int} (h : ∃ t, mg x = some (.int i t)) : ∃ u, mg x = some u ∧ RelV (.int i) u :=
  let ⟨t, e⟩ := h; ⟨_, e, t, rfl⟩
/-! ### callables -/
section
variable {P : Program} {w : World} {K : PySem.W.Frag} {mg : Str → Option Value} {base : Heap}
theorem fun_of {x qual : Str} {pa : Arguments} {bd : List Stmt} {sc : Scope} {kws : List (Str × V)} {f : Addr} {fd : FuncData} (F : FunD K x qual pa bd sc [] kws f fd) :
    ∃ (oc : Value) (od : Option Addr) (kV doc pm : Value) (an : Option Addr) (cdv ct : Value) (osl : Array (Option Value)),
    fd = PySem.W.fnOf x qual pa bd sc .none kV doc pm an cdv ct ∧ K.lookup f = some ⟨oc, od, .func fd, osl⟩ ∧ PySem.W.codeIn K cdv qual = true := by
  obtain ⟨oc, od, dV, kV, doc, pm, an, cdv, ct, osl, e, lk, hcd, hD, _⟩ := F.ex
  rcases hD with ⟨_, rfl⟩ | ⟨h, _⟩
  · exact ⟨oc, od, kV, doc, pm, an, cdv, ct, osl, e, lk, hcd⟩
  · exact absurd rfl h
/-- what a body must show, nothing let out -/
abbrev Body0 (P : Program) (w : World) (K : PySem.W.Frag) (mg : Str → Option Value) (base : Heap) (N : List Str) (qual : Str) (bd : List Stmt) (sc : Scope) (f : Addr) (k : Nat) (sp : Sp) : Prop :=
  ∀ (cdv : Value) (A : Around) (outer : List Env) (s : Shared) (H : Hp) (vs : List V) (Q : VK) (E : XK), Room k (A.deeper (envOfC qual sc s.heap.objs.size f cdv)) → sp vs H Q E →
    ∃ t, PSs (cxOf CX0 P w K mg base N qual sc f cdv A outer s H E).nox bd t ∧ t { nx := fun _ H' => Q .non H', rt := Q } (start N vs) H
theorem fn0_of {x qual : Str} {pa : Arguments} {bd : List Stmt} {sc : Scope} {kws : List (Str × V)} {f : Addr} {fd : FuncData} {N ps : List Str} {k : Nat} {sp : Sp} (F : FunD K x qual pa bd sc [] kws f fd) (S : FnScope N ps sc)
    (len : ∀ vs H Q E, sp vs H Q E → vs.length = ps.length) (hb : Body0 P w K mg base N qual bd sc f k sp) : FnOk P w K mg base CX0 (k + 1) f fd ps sp := by
  obtain ⟨oc, od, kV, doc, pm, an, cdv, ct, osl, rfl, lk, hcd⟩ := fun_of F
  refine fn_of lk hcd S len fun A outer s H vs Q E hr hsp => ?_
  obtain ⟨t, h, q⟩ := hb cdv A outer s H vs Q E hr hsp
  exact ⟨t, h.nox, q⟩
abbrev BindA (x qual : Str) (pa : Arguments) (bd : List Stmt) (sc : Scope) (ps : List Str) : Prop := ∀ (kV doc pm : Value) (an : Option Addr) (cdv ct : Value) (us : List Value), us.length = ps.length → bindArgs (PySem.W.fnOf x qual pa bd sc .none kV doc pm an cdv ct) ⟨us, []⟩ = pure (ps.zip us)
/-- a def of the module -/
theorem cal_of {d : DefA} {x : Str} {N ps : List Str} {k : Nat} {sp : Sp} (F : ∃ fd, d.Fn K fd) (hp : d.path = pG x) (hd : d.dfl = []) (hm : mg x = some (.ref (He.ga K x))) (S : FnScope N ps d.scope)
    (b : BindA d.name d.qual d.params d.body d.scope ps) (len : ∀ vs H Q E, sp vs H Q E → vs.length = ps.length) (hb : Body0 P w K mg base N d.qual d.body d.scope (He.ga K x) k sp) : C8.Cal P w K mg base (k + 1) x sp [] := by
  obtain ⟨fd, F⟩ := F
  have F' : FunD K d.name d.qual d.params d.body d.scope [] (d.kws K) (He.ga K x) fd := by
    have q : FunD K d.name d.qual d.params d.body d.scope (d.dvs K) (d.kws K) (d.path K) fd := F
    unfold DefA.dvs at q
    rw [hd, hp] at q
    exact q
  have Fk := fn0_of (P := P) (w := w) (mg := mg) (base := base) F' S len hb
  obtain ⟨oc, od, kV, doc, pm, an, cdv, ct, osl, rfl, lk, hcd⟩ := fun_of F'
  exact ⟨_, _, ps, [], Fk, hm, F'.kp, .all (b kV doc pm an cdv ct), .nil⟩
/-- a method -/
theorem met_of {d : DefA} {C m : Str} {N ps : List Str} {k : Nat} {sp : Sp} (F : ∃ fd, d.Fn K fd) (hp : d.path = pM C m) (hd : d.dfl = []) (hc : Cls K (He.ga K C)) (hm : Meth K (He.ga K C) m (He.ma K (He.ga K C) m)) (S : FnScope N ps d.scope)
    (b : BindA d.name d.qual d.params d.body d.scope ps) (len : ∀ vs H Q E, sp vs H Q E → vs.length = ps.length) (hb : Body0 P w K mg base N d.qual d.body d.scope (He.ma K (He.ga K C) m) k sp) : C8.Met P w K mg base (k + 1) (He.ga K C) m sp [] := by
  obtain ⟨fd, F⟩ := F
  have F' : FunD K d.name d.qual d.params d.body d.scope [] (d.kws K) (He.ma K (He.ga K C) m) fd := by
    have q : FunD K d.name d.qual d.params d.body d.scope (d.dvs K) (d.kws K) (d.path K) fd := F
    unfold DefA.dvs at q
    rw [hd, hp] at q
    exact q
  have Fk := fn0_of (P := P) (w := w) (mg := mg) (base := base) F' S len hb
  obtain ⟨oc, od, kV, doc, pm, an, cdv, ct, osl, rfl, lk, hcd⟩ := fun_of F'
  exact ⟨_, _, ps, [], hc, hm, Fk, .all (b kV doc pm an cdv ct), .nil⟩
/-- a class called, by its __init__ -/
theorem mak_of {d : DefA} {C : Str} {N ps : List Str} {k : Nat} {sp : Sp} (F : ∃ fd, d.Fn K fd) (hp : d.path = pM C "__init__") (hd : d.dfl = []) (hm : mg C = some (.ref (He.ga K C))) (M : Mk K (He.ga K C) (He.ma K (He.ga K C) "__init__")) (S : FnScope N ps d.scope)
    (b : BindA d.name d.qual d.params d.body d.scope ps) (len : ∀ vs H Q E, sp vs H Q E → vs.length = ps.length) (hb : Body0 P w K mg base N d.qual d.body d.scope (He.ma K (He.ga K C) "__init__") k sp) : C8.Mak P w K mg base (k + 1) C (He.ga K C) sp [] := by
  obtain ⟨fd, F⟩ := F
  have F' : FunD K d.name d.qual d.params d.body d.scope [] (d.kws K) (He.ma K (He.ga K C) "__init__") fd := by
    have q : FunD K d.name d.qual d.params d.body d.scope (d.dvs K) (d.kws K) (d.path K) fd := F
    unfold DefA.dvs at q
    rw [hd, hp] at q
    exact q
  have Fk := fn0_of (P := P) (w := w) (mg := mg) (base := base) F' S len hb
  obtain ⟨oc, od, kV, doc, pm, an, cdv, ct, osl, rfl, lk, hcd⟩ := fun_of F'
  exact ⟨_, _, ps, [], M, Fk, hm, .all (b kV doc pm an cdv ct), .nil⟩
/-- a property -/
structure Prp (P : Program) (w : World) (K : PySem.W.Frag) (mg : Str → Option Value) (base : Heap) (k : Nat) (C : Addr) (f : Str) (sp : Sp) : Prop where
  ex : ∃ (p g : Addr) (fd : FuncData) (ps : List Str), Cls K C ∧ PropOf K C f p g ∧ FnOk P w K mg base CX0 k g fd ps sp ∧ Binds K fd ps []
theorem prp_of {d : DefA} {C f : Str} {N ps : List Str} {k : Nat} {sp : Sp} (F : ∃ fd, d.Fn K fd) (hp : d.path = pP C f) (hd : d.dfl = []) (hc : Cls K (He.ga K C)) (hm : propB C f K = true) (S : FnScope N ps d.scope)
    (b : BindA d.name d.qual d.params d.body d.scope ps) (len : ∀ vs H Q E, sp vs H Q E → vs.length = ps.length) (hb : Body0 P w K mg base N d.qual d.body d.scope (gtA K (He.ga K C) f) k sp) : Prp P w K mg base (k + 1) (He.ga K C) f sp := by
  obtain ⟨fd, F⟩ := F
  have F' : FunD K d.name d.qual d.params d.body d.scope [] (d.kws K) (gtA K (He.ga K C) f) fd := by
    have q : FunD K d.name d.qual d.params d.body d.scope (d.dvs K) (d.kws K) (d.path K) fd := F
    unfold DefA.dvs at q
    rw [hd, hp] at q
    exact q
  have Fk := fn0_of (P := P) (w := w) (mg := mg) (base := base) F' S len hb
  obtain ⟨oc, od, kV, doc, pm, an, cdv, ct, osl, rfl, lk, hcd⟩ := fun_of F'
  exact ⟨_, _, _, ps, hc, prop_ok hm, Fk, .all (b kV doc pm an cdv ct)⟩
end
section
variable {X : Cx} {k j : Nat} {C : Addr} {f : Str} {sp : Sp} {e : Expr} {pos : Pos} {ta : TE}
theorem pe_pr (c : Prp X.prog X.w X.K X.mg X.base k C f sp) (hr : Room j X.A) (hk : k + 1 ≤ j) (he : PE X e ta) (hab : attributeBase e f X.env (eval e X.env) = eval e X.env := by rfl) :
    PE X (.Attribute e f pos) (tProp C sp [] E0 ta) := by
  obtain ⟨p, g, fd, ps, hc, hp, F, b⟩ := c.ex
  exact pe_prop he hc hp F (hr.mono hk) b .nil pass0 hab
end
end G57
end
section
set_option maxRecDepth 100000
set_option maxHeartbeats 4000000
/-! XRules: rules that the layer lacks: named relations for built-ins, int comparisons, sum of a tuple, enumerate of a tuple, xs[i] op= e. -/
namespace G57
open PySem PySem.Spec PyProof.Rows L2
section
variable {X : Cx}
/-! ### named relations -/
def rMx : List V → Hp → VK → Prop := fun xs H Q => ∃ i j, xs = [.int i, .int j] ∧ Q (.int (max i j)) H
theorem cq_max2 (hc : X.calm = true) : CallR X (.builtin "max") rMx := fun pins s σ H xs us Q I r h => by
  obtain ⟨i, j, e, q⟩ := h
  refine call_max2 hc pins s σ H xs us Q I r ⟨i, j, e, ?_⟩
  have z : (if j > i then j else i) = max i j := by
    split <;> omega
  rw [z]
  exact q
def rMn : List V → Hp → VK → Prop := fun xs H Q => ∃ i j, xs = [.int i, .int j] ∧ Q (.int (min i j)) H
theorem cq_min2 (hc : X.calm = true) : CallR X (.builtin "min") rMn := fun pins s σ H xs us Q I r h => by
  obtain ⟨i, j, e, q⟩ := h
  refine call_min2 hc pins s σ H xs us Q I r ⟨i, j, e, ?_⟩
  have z : (if j < i then j else i) = min i j := by
    split <;> omega
  rw [z]
  exact q
def rInt : List V → Hp → VK → Prop := fun xs H Q => (∃ i, xs = [.int i] ∧ Q (.int i) H) ∨ ∃ k, xs = [.bl k] ∧ Q (.int (if k then 1 else 0)) H
theorem cq_int : CallR X (.type "int") rInt := call_int1
def rLenQ (K : PySem.W.Frag) : List V → Hp → VK → Prop := fun xs H Q => ∃ p ys, xs = [.ref p] ∧ (SqL K H p ys ∨ SqT K H p ys) ∧ Q (.int ys.length) H
theorem cq_len : CallR X (.builtin "len") (rLenQ X.K) := call_len_seq
def rListQ (K : PySem.W.Frag) : List V → Hp → VK → Prop := fun xs H Q => ∃ p ys, xs = [.ref p] ∧ (SqL K H p ys ∨ SqT K H p ys) ∧ ∀ l, H l = none → Q (.ref l) (upd H l (.lst ys))
theorem cq_list : CallR X (.type "list") (rListQ X.K) := call_list_of
def rTupLQ (K : PySem.W.Frag) : List V → Hp → VK → Prop := fun xs H Q => ∃ p ys, xs = [.ref p] ∧ SqL K H p ys ∧ ∀ l, H l = none → Q (.ref l) (upd H l (.tup ys))
theorem cq_tupL : CallR X (.type "tuple") (rTupLQ X.K) := fun pins s σ H xs us Q I r h => by
  obtain ⟨p, ys, e, h1, h2⟩ := h
  exact call_tuple_of pins s σ H xs us Q I r ⟨p, ys, e, .inl ⟨h1, h2⟩⟩
def rTupTQ (K : PySem.W.Frag) : List V → Hp → VK → Prop := fun xs H Q => ∃ p ys, xs = [.ref p] ∧ SqT K H p ys ∧ Q (.ref p) H
theorem cq_tupT : CallR X (.type "tuple") (rTupTQ X.K) := fun pins s σ H xs us Q I r h => by
  obtain ⟨p, ys, e, h1, h2⟩ := h
  exact call_tuple_of pins s σ H xs us Q I r ⟨p, ys, e, .inr ⟨h1, h2⟩⟩
/-! ### comparisons of ints -/
theorem op_eqI : OpR X (compareOp .Eq) (rI0 fun i j => .bl (decide (i = j))) :=
  opB0 fun _ _ _ _ _ _ _ h => PyProof.Rows.eq_int (by rw [Bool.beq_eq_decide_eq]; exact h)
theorem op_neI : OpR X (compareOp .NotEq) (rI0 fun i j => .bl (!decide (i = j))) :=
  opB0 fun _ _ _ _ _ _ _ h => PyProof.Rows.ne_int (by rw [bne, Bool.beq_eq_decide_eq]; exact h)
/-! ### op= -/
theorem ip_mul : PIp X .Mult fun x y H Q => ∃ i j, x = .int i ∧ y = .int j ∧ CMul i j ∧ Q (.int (i * j)) H := fun pins s σ H x y v u Q I rx ry h => iop_mul pins s σ H x y v u Q I rx ry h
def rGetL (K : PySem.W.Frag) : V → V → Hp → VK → Prop := fun o i H Q => ∃ p xs, ∃ j : Nat, ∃ v, o = .ref p ∧ i = .int j ∧ SqL K H p xs ∧ xs[j]? = some v ∧ Q v H
theorem pget_list : PGet X (rGetL X.K) := fun pins s σ H o i ov iv Q I ro ri h => by
  obtain ⟨p, xs, j, v, rfl, rfl, hq, hx, q⟩ := h
  obtain rfl : ov = Value.ref p := ro
  obtain ⟨tk, rfl⟩ := ri
  obtain ⟨its, rv, pl, hz⟩ := I.list hq
  obtain ⟨u, hu, ru⟩ := rv.get hx
  have hj : j < xs.length := (List.getElem?_eq_some_iff.mp hx).1
  have hb : (j : Int) < 2 ^ 63 := by
    have z : sizeLine < 2 ^ 63 := by decide
    omega
  exact wpAny_getItem_list pl.isList (Int.natCast_nonneg j) hb (by simpa using hu) ⟨v, H, I, ru, q⟩
/-! ### sum of a tuple -/
def rSumT (K : PySem.W.Frag) : List V → Hp → VK → Prop := fun vs H Q => ∃ (a : Addr) (ns : List Int), vs = [V.ref a] ∧ SqT K H a (ns.map V.int) ∧ Q (.int ns.sum) H
theorem sum_tup_raw {prog : Program} {w : World} {A : Around} {E : Value → Shared → Prop} {s : Shared} {t : Addr} {its : List Value} {ns : List Int} {Q : Value → Shared → Prop} (hh : A.handled = none) (ht : s.heap.IsTuple t its.toArray) (hi : IntsAre its ns)
    (h : ∀ h' tk t', (∀ b o, s.heap.get? b = some o → h'.get? b = some o) → Q (.int ns.sum t') { s with heap := h', toks := tk }) : wpAny (model prog w) A (call (.builtin "sum") [.ref t]) Q E s := by
  obtain ⟨xs, e⟩ := hi.allInts.items
  have hn : numsOf (intItems xs).toList = ns := by
    rw [← e]
    exact hi.numsOf
  rw [nums_intItems] at hn
  rw [e] at ht
  have hlt : t < s.heap.objs.size := by
    obtain ⟨_, z, _⟩ := ht
    exact Heap.lt_size z
  refine call_sum_walkG (wpAny_pyIter_tuple ht ?_)
  have st : (s.heap.push { cls := .type "tuple_iterator", data := .fields #[.ref t, .int 0 0] }).IsTupleIter s.heap.objs.size t 0 ∧ (s.heap.push { cls := .type "tuple_iterator", data := .fields #[.ref t, .int 0 0] }).IsTuple t (intItems xs) :=
    ⟨⟨_, Heap.get?_push_size _ rfl, rfl, rfl⟩, ht.at fun o z => Heap.get?_push_of_some _ z⟩
  refine ⟨_, _, _, _, _, _, numAt xs, rfl, Walks.tuple (A := A.in1) hh _ t (Nat.ne_of_lt hlt) (intItems xs), st, fun b hb => ?_, (fun _ _ => intItems_at), fun h' tk t' hk => ?_⟩
  · show b < (s.heap.push _).objs.size
    rw [Heap.size_push]
    rcases List.mem_cons.mp hb with rfl | hb
    · exact Nat.lt_succ_self _
    · rcases List.mem_cons.mp hb with rfl | hb
      · exact Nat.lt_succ_of_lt hlt
      · cases hb
  · have z := h h' tk t' fun b o q => hk b o (fun m => by
        rw [List.mem_singleton.mp m] at q
        exact absurd (Heap.lt_size q) (Nat.lt_irrefl _)) (Heap.get?_push_of_some _ q)
    rw [← hn] at z
    have e1 : preSum (numAt xs) (intItems xs).size = ((xs.toList.map (·.1))).sum := by
      have e2 : (intItems xs).size = xs.size := by simp [intItems]
      rw [e2, preSum_eq, List.take_of_length_le (by simp)]
    rw [e1]
    exact z
theorem cr_sumT (hc : X.calm = true) : CallR X (.builtin "sum") (rSumT X.K) := fun pins s σ H xs us Q I r h => by
  obtain ⟨a, ns, rfl, hq, q⟩ := h
  cases r with
  | cons ra rr =>
    cases rr
    cases ra
    obtain ⟨its, rv, ht, hz⟩ := I.tuple hq
    refine sum_tup_raw (I.ok.hd hc) ht (intsAre_of rv) fun h' tk t' hk => ?_
    exact ⟨.int ns.sum, H, I.kept (t' := tk) hk, ⟨_, rfl⟩, q⟩
end
/-! ### rules at a named fragment (inside a comprehension's block) -/
section
variable {X : Cx} {K : PySem.W.Frag}
theorem callK {f : Value} {r : PySem.W.Frag → List V → Hp → VK → Prop} (h : X.K = K) (c : CallR X f (r X.K)) : CallR X f (r K) := h ▸ c
theorem opK {f : Value → Value → Sem Value} {r : PySem.W.Frag → R2} (h : X.K = K) (c : OpR X f (r X.K)) : OpR X f (r K) := h ▸ c
theorem ixK {r : PySem.W.Frag → R2} (h : X.K = K) (c : IxR X (r X.K)) : IxR X (r K) := h ▸ c
theorem slK {r : PySem.W.Frag → V → Option Int → Option Int → Hp → VK → Prop} (h : X.K = K) (c : SlR X (r X.K)) : SlR X (r K) := h ▸ c
theorem pe_fldK {e : Expr} {ta : TE} {f : Str} {pos : Pos} (h : X.K = K) (he : PE X e ta) (hb : attributeBase e f X.env (eval e X.env) = eval e X.env) : PE X (.Attribute e f pos) (tFld K ta f) := h ▸ pe_fld he hb
theorem pg_tupK {es : List Expr} {k : Nat} {t : TGs} {n : Nat} {pos : Pos} (hK : X.K = K) (hc : X.calm = true) (h : PGs X es t) (hn : (assignEach es X.env).length = n := by rfl) (hst : (assignEach es X.env).findIdx? (·.1) = none := by rfl) : PG X (.Tuple es k pos) (gTup K n t) := hK ▸ pg_tup hc h hn hst
theorem pi_listK {tg l : Expr} {tl : TE} (h : X.K = K) (hl : PE X l tl) : PI X tg l (iList K tl) := h ▸ pi_list hl
theorem pi_tupK {tg l : Expr} {tl : TE} (h : X.K = K) (hl : PE X l tl) : PI X tg l (iTup K tl) := h ▸ pi_tup hl
end
/-! ### enumerate of a tuple -/
section
variable {prog : Program} {w : World} {A : Around} {E : Value → Shared → Prop} {s : Shared}
set_option maxHeartbeats 1000000 in
theorem meets_enum_new1 {v : Value} {o : Obj} {J : Heap → Prop} (B : Begins v o J) :
    Meets (Builtin.«enumerate.__new__» ⟨[.type "enumerate", v], []⟩) (fun _ R s => J s.heap ∧
      R (.ok (.ret (.ref (s.heap.push o).objs.size))) { s with heap := (s.heap.push o).push { cls := .type "enumerate", data := .fields #[.none, .bool false, .ref s.heap.objs.size, rawInt 0, .none, .none] } }) :=
  .of_wp fun prog w A R s h => by
    obtain ⟨hp, g, d, tk, os⟩ := s
    obtain ⟨h1, h⟩ := h
    have hsub := sub_enumerate
    have q1 : ∀ {A' : Around} {E : Value → Shared → Prop} {Q : Value → Shared → Prop}, Q (.ref hp.objs.size) ⟨hp.push o, g, d, tk, os⟩ → wpAny (model prog w) A' (pyIter v) Q E ⟨hp, g, d, tk, os⟩ := fun q => B.iter prog w _ _ ⟨hp, g, d, tk, os⟩ _ h1 q
    wp_walk using q1
    refine wpAny_stack_any fun st => wpAny_pure ?_
    split
    · rename_i c _ _ _ _ _
      cases (c == Value.type "enumerate") <;> (wp_walk using q1; exact ⟨_, rfl, h⟩)
    · wp_walk using q1
      exact ⟨_, rfl, h⟩
theorem enum_begins1 {v : Value} {o : Obj} {J : Heap → Prop} {Q : Value → Shared → Prop} (B : Begins v o J) (h1 : J s.heap)
    (h : ∀ h', IsEnum h' (s.heap.objs.size + 1) s.heap.objs.size 0 .none → h'.get? s.heap.objs.size = some o → h'.objs.size = s.heap.objs.size + 2 → (∀ b o, s.heap.get? b = some o → h'.get? b = some o) → Q (.ref (s.heap.objs.size + 1)) { s with heap := h' }) :
    wpAny (model prog w) A (call (.type "enumerate") [v]) Q E s := by
  refine callType_new F.called_enumerate (by decide) (F.typeCall_enumerate_1 _) (F.newCall_enumerate_1 _) (fun obj => F.args_object_init_2 obj _) F.entry_enumerate_new (meets_enum_new1 B) ⟨h1, ?_⟩
  have hz : (s.heap.push o).objs.size = s.heap.objs.size + 1 := Heap.size_push ..
  show _ ∧ _
  rw [hz]
  have he : IsEnum ((s.heap.push o).push { cls := .type "enumerate", data := .fields #[.none, .bool false, .ref s.heap.objs.size, rawInt 0, .none, .none] }) (s.heap.objs.size + 1) s.heap.objs.size 0 .none := by
    have z := Heap.get?_push_size (s.heap.push o) (o := { cls := .type "enumerate", data := .fields #[.none, .bool false, .ref s.heap.objs.size, rawInt 0, .none, .none] }) rfl
    rw [hz] at z
    exact z
  exact ⟨⟨_, he, rfl⟩, h _ he (Heap.get?_push_of_some _ (Heap.get?_push_size _ B.free)) (by rw [Heap.size_push, hz]) fun b o x => Heap.get?_push_of_some _ (Heap.get?_push_of_some _ x)⟩
end
def IteT (K : PySem.W.Frag) (a : Addr) : It :=
  ⟨fun i H => ∃ (xs : List V) (x : V), SqT K H a xs ∧ xs[i]? = some x, fun i H v H' => ∃ T x, v = .ref T ∧ H T = none ∧ H' = upd H T (.tup [.int (i : Nat), x]) ∧ ∀ xs, SqT K H a xs → xs[i]? = some x, fun i H => ∃ xs : List V, SqT K H a xs ∧ xs.length = i⟩
theorem turn_enumT {P : Program} {w : World} {K : PySem.W.Frag} {elts : List Expr} {kk : Nat} {tpos : Pos} (a e it : Addr) (hae : a ≠ e) (hai : a ≠ it) :
    Turn P w K (.Tuple elts kk tpos) (IteT K a) [e, it] e (fun i h => (∃ old, IsEnum h e it ((i : Nat) : Int) old) ∧ h.IsTupleIter it a i ∧ e ≠ it) where
  mem := by simp
  obj := fun i h st b hb => by
    obtain ⟨⟨old, he⟩, ⟨o, ho, hc, hd⟩, _⟩ := st
    rcases (by simpa using hb : b = e ∨ b = it) with z | z <;> subst z
    · exact ⟨_, he, fun v q => nomatch q⟩
    · exact ⟨o, ho, fun v q => by rw [hd] at q; cases q⟩
  keep := fun i h h' st k => by
    obtain ⟨⟨old, he⟩, hi, hne⟩ := st
    exact ⟨⟨old, k e (by simp) _ he⟩, hi.at fun o q => k it (by simp) o q, hne⟩
  item := by
    intro X hP hw hK hc i pins s σ H E I hf st hg
    subst hP hw hK
    obtain ⟨⟨old, he⟩, hit, hne⟩ := st
    obtain ⟨xs, x, hq, hx⟩ := hg
    obtain ⟨its, rv, p, hz⟩ := I.tuple hq
    obtain ⟨u, hu, ru⟩ := rv.get hx
    have lte : e < s.heap.objs.size := Heap.lt_size he
    have lti : it < s.heap.objs.size := by
      obtain ⟨_, q, _⟩ := hit
      exact Heap.lt_size q
    have hlt : i < its.toArray.size := by
      have z := (List.getElem?_eq_some_iff.mp hu).1
      simpa using z
    refine wpAny_pyNext_enum_itemC (Draws.tuple (A := X.A.in1) (I.ok.hd hc) it a hai its.toArray) he ⟨hit, p⟩ hlt hne (by simp [hne, Ne.symm hae]) fun y h' tk hP ho hst hT hsz hk => ?_
    obtain ⟨hit', _⟩ := hst
    have ey : y = u := by
      have z : its[i]? = some y := by simpa using hP
      rw [hu] at z
      exact (Option.some.inj z).symm
    subst ey
    refine ⟨_, rfl, wpAny_letOwnedTupleGo_enum (s := { s with heap := h', toks := tk + 1 }) ho fun h2 he2 sb => ?_⟩
    have hT2 : h2.get? s.heap.objs.size = some { cls := .type "tuple", data := .seq #[.int i tk, y] } := (sb.2 _ (Nat.ne_of_gt lte)).trans hT
    have new : ObjOk X.prog X.w (upd H s.heap.objs.size (.tup [.int (i : Nat), x])) h2 s.heap.objs.size (.tup [.int (i : Nat), x]) := ⟨by show 2 ≤ sizeLine; decide, [.int i tk, y], .cons ⟨_, rfl⟩ (.cons ru .nil), ⟨_, hT2, rfl, _, rfl⟩⟩
    have kp : ∀ b ob, b ∉ [e, it] → s.heap.get? b = some ob → h2.get? b = some ob := fun b ob hb q => (sb.2 b fun z => hb (by simp [z])).trans (hk b ob (fun z => hb (by simp [z])) (fun z => hb (by simp [z])) q)
    have I1 : Inv X pins σ (upd H s.heap.objs.size (.tup [.int (i : Nat), x])) { s with heap := h2, toks := tk + 1 } := I.turnedNew (ch := [e, it]) kp hf (Nat.le_refl _) new
    refine ⟨.ref s.heap.objs.size, _, I1, rfl, ⟨_, x, rfl, I.hok.fresh (Nat.le_refl _), rfl, fun ys hy => by rw [I.tuple_inj hy hq]; exact hx⟩, ⟨⟨y, ?_⟩, hit'.at fun o q => (sb.2 it (Ne.symm hne)).trans q, hne⟩, fun b hb => ?_⟩
    · have e1 : ((i + 1 : Nat) : Int) = (i : Int) + 1 := by omega
      rw [e1]
      exact he2
    · have hb' : b < s.heap.objs.size := by
        rcases (by simpa using hb : b = e ∨ b = it) with z | z <;> subst z
        · exact lte
        · exact lti
      rw [upd_ne (Nat.ne_of_lt hb')]
      exact (hf b hb).1
  done := by
    intro X hP hw hK hc i pins s σ H E I hf st hg
    subst hP hw hK
    obtain ⟨⟨old, he⟩, hit, hne⟩ := st
    obtain ⟨xs, hq, hx⟩ := hg
    obtain ⟨its, rv, p, hz⟩ := I.tuple hq
    obtain ⟨f0, f1, f2, f3, f4, f5⟩ := hf it (by simp)
    have hl := rv.length
    have en : i = its.toArray.size := by
      have z : its.toArray.size = its.length := by simp
      omega
    subst en
    exact wpAny_pyNext_enum_endD (Draws.tuple (A := X.A.in1) (I.ok.hd hc) it a hai its.toArray) he ⟨hit, p⟩ fun h' eb => ⟨rfl, I.turned (t' := s.toks) (fun b o hb q => eb b o hb q) f0 f1 f3 f4 f5⟩
  self := fun A i s Q E st h => by
    obtain ⟨⟨_, he⟩, _⟩ := st
    exact wpAny_pyIter_enum he h
def iEnumT (K : PySem.W.Frag) (ta : TA) : TI := fun σ H R => ta σ H fun vs H1 => ∃ a xs, vs = [.ref a] ∧ SqT K H1 a xs ∧ R (IteT K a) H1
theorem pi_enumT {X : Cx} {e : Expr} {ta : TA} {p pos tpos : Pos} {elts : List Expr} {kk : Nat} (hg : Gl X "enumerate") (hm : X.mg "enumerate" = none) (ha : PA X [e] ta) (hs : starEach [e] X.env = [(false, eval e X.env)] := by rfl) :
    PI X (.Tuple elts kk tpos) (.Call (.Name "enumerate" p) [e] [] pos) (iEnumT X.K ta) := by
  refine ⟨fun pins s σ H R I h => ?_⟩
  refine Call_ (ld_blt I hg hm boot_enumerate (PyProof.Rows.callWith_type1 (thn (ha.run pos pins s σ H _ I h) fun us s1 ⟨vs, H1, I1, r1, q1⟩ => ?_) hs rfl))
  obtain ⟨a, xs, ex, hq, q⟩ := q1
  subst ex
  cases r1 with
  | cons r rr =>
    cases rr
    cases r
    obtain ⟨its, rv, pt, hz⟩ := I1.tuple hq
    have lta : a < s1.heap.objs.size := by
      obtain ⟨_, z, _⟩ := pt
      exact Heap.lt_size z
    refine enum_begins1 (begins_tuple a its.toArray) pt fun h' he hit hsz hk => wpAny_pyIter_enum he ?_
    have I2 : Inv X pins σ H1 { s1 with heap := h' } := I1.kept (t' := s1.toks) hk
    refine ⟨s1.heap.objs.size + 1, [s1.heap.objs.size + 1, s1.heap.objs.size], _, _, H1, rfl, I2, turn_enumT a (s1.heap.objs.size + 1) s1.heap.objs.size (Nat.ne_of_lt (Nat.lt_succ_of_lt lta)) (Nat.ne_of_lt lta), ⟨⟨.none, he⟩, ⟨_, hit, rfl, rfl⟩, Nat.succ_ne_self _⟩, fun b hb => ?_, q⟩
    have hle : s1.heap.objs.size ≤ b := by
      rcases (by simpa using hb : b = s1.heap.objs.size + 1 ∨ b = s1.heap.objs.size) with z | z <;> subst z
      · exact Nat.le_add_right _ _
      · exact Nat.le_refl _
    exact I1.fpOk hle (I1.hok.fresh hle)
theorem for_enumT {K : PySem.W.Frag} {a : Addr} {xs : List V} {g : TG} {tb : TS} {D : Ends} {σ : L2.St} {H : Hp} (Pv : Nat → L2.St → Hp → Prop) (h0 : Pv 0 σ H) (hq : ∀ i σ H, Pv i σ H → SqT K H a xs)
    (hs : ∀ (i : Nat) (x : V) (T : Addr) (σ : L2.St) (H : Hp), xs[i]? = some x → Pv i σ H → H T = none → g (.ref T) σ (upd H T (.tup [.int (i : Nat), x])) fun σ2 H2 => tb { D with nx := Pv (i + 1), ct := Pv (i + 1), bk := D.nx } σ2 H2)
    (hd : ∀ σ H, Pv xs.length σ H → D.nx σ H) :
    ∃ W : Nat → Nat → L2.St → Hp → Prop, (∃ m, W 0 m σ H) ∧ ∀ i m σ H, W i m σ H → ((IteT K a).stop i H ∧ D.nx σ H) ∨ ((IteT K a).go i H ∧ ∃ N : L2.St → Hp → Prop, (∀ σ' H', N σ' H' → ∃ m', m' < m ∧ W (i + 1) m' σ' H') ∧
      ∀ x H', (IteT K a).yld i H x H' → g x σ H' fun σ2 H2 => tb { D with nx := N, ct := N, bk := D.nx } σ2 H2) := by
  refine ⟨fun i m σ H => m = xs.length - i ∧ i ≤ xs.length ∧ Pv i σ H, ⟨xs.length, by simp, Nat.zero_le _, h0⟩, ?_⟩
  rintro i m σ H ⟨em, hi, p⟩
  have hl := hq i σ H p
  by_cases e : i = xs.length
  · subst e
    exact .inl ⟨⟨xs, hl, rfl⟩, hd σ H p⟩
  · have lt : i < xs.length := by omega
    refine .inr ⟨⟨xs, xs[i], hl, List.getElem?_eq_getElem lt⟩, Pv (i + 1), fun σ' H' q => ⟨xs.length - (i + 1), by omega, rfl, lt, q⟩, ?_⟩
    rintro v H' ⟨T, x, rfl, hT, rfl, hx⟩
    exact hs i x T σ H (hx xs hl) p hT
end G57
end
section
set_option maxRecDepth 100000
set_option maxHeartbeats 4000000
/-! XRead: readings, one small step a rule (r_..). Each is the reading itself, folded. -/
namespace G57
open PySem PySem.Spec PyProof.Rows L2
section
variable {K : PySem.W.Frag} {σ : L2.St} {H H1 : Hp} {Q : VK} {v x y : V} {ta tb tc te : TE} {D : Ends} {t u : TS} {c : TT} {A B : Prop}
/-! ### expressions -/
theorem r_var {i : Nat} (h : σ[i]? = some (some v)) (q : Q v H) : tVar i σ H Q := ⟨v, h, q⟩
theorem r_c (q : Q v H) : tC v σ H Q := q
theorem r_op {r : R2} (q : ta σ H fun x H1 => tb σ H1 fun y H2 => r x y H2 Q) : tOp r ta tb σ H Q := q
theorem r_un {r : V → Hp → VK → Prop} (q : ta σ H fun x H1 => r x H1 Q) : tUn r ta σ H Q := q
theorem r_I0 {g : Int → Int → V} {i j : Int} (q : Q (g i j) H) : rI0 g (.int i) (.int j) H Q := ⟨i, j, rfl, rfl, q⟩
theorem r_I {C : Int → Int → Prop} {g : Int → Int → V} {i j : Int} (h : C i j) (q : Q (g i j) H) : rI C g (.int i) (.int j) H Q := ⟨i, j, rfl, rfl, h, q⟩
theorem r_U {g : Int → V} {i : Int} (q : Q (g i) H) : rU g (.int i) H Q := ⟨i, rfl, q⟩
theorem r_cmp {p : Int → Int → Bool} (q : ta σ H fun x H1 => tb σ H1 fun y H2 => ∃ i j, x = .int i ∧ y = .int j ∧ Q (.bl (p i j)) H2) : tCmp p ta tb σ H Q := q
theorem r_ii {k : Int → Int → Hp → Prop} {i j : Int} (q : k i j H) : ∃ i' j', V.int i = .int i' ∧ V.int j = .int j' ∧ k i' j' H := ⟨i, j, rfl, rfl, q⟩
theorem r_isN (q : ta σ H fun x H1 => Q (.bl (decide (x = .non))) H1) : tIsN ta σ H Q := q
theorem r_notN (q : ta σ H fun x H1 => Q (.bl (!decide (x = .non))) H1) : tNotN ta σ H Q := q
/-- a field's read, by values -/
def FldR (K : PySem.W.Frag) (f : Str) (Q : VK) (x : V) (H : Hp) : Prop := ∃ a C dx fs v, x = .ref a ∧ H a = some (.ins C dx fs) ∧ Cls K C ∧ NoAttr K C f ∧ fs.lookup f = some v ∧ Q v H
theorem r_fld {f : Str} (q : ta σ H (FldR K f Q)) : tFld K ta f σ H Q := q
theorem r_fldR {f : Str} {a C dx : Addr} {fs : List (Str × V)} (h : H a = some (.ins C dx fs)) (c : Cls K C) (n : NoAttr K C f) (l : fs.lookup f = some v) (q : Q v H) : FldR K f Q (.ref a) H := ⟨a, C, dx, fs, v, rfl, h, c, n, l, q⟩
/-- a method's call, its receiver known -/
def MetR (C : Addr) (m : Str) (sp : Sp) (dvs : List V) (E : XK) (t : TA) (σ : L2.St) (Q : VK) (x : V) (H : Hp) : Prop := ∃ a dx fs, x = .ref a ∧ H a = some (.ins C dx fs) ∧ fs.lookup m = none ∧ t σ H fun vs H2 => sp (x :: (vs ++ dvs)) H2 Q E
theorem r_met {C : Addr} {m : Str} {sp : Sp} {dvs : List V} {E : XK} {t : TA} (q : ta σ H (MetR C m sp dvs E t σ Q)) : tMeth C m sp dvs E ta t σ H Q := q
theorem r_metR {C a dx : Addr} {m : Str} {sp : Sp} {E : XK} {t : TA} {fs : List (Str × V)} (h : H a = some (.ins C dx fs)) (l : fs.lookup m = none) (q : t σ H fun vs H2 => sp (.ref a :: vs) H2 Q E) : MetR C m sp [] E t σ Q (.ref a) H :=
  ⟨a, dx, fs, rfl, h, l, by
    have e : (fun vs H2 => sp (V.ref a :: (vs ++ [])) H2 Q E) = fun vs H2 => sp (.ref a :: vs) H2 Q E := by
      funext vs H2
      rw [List.append_nil]
    rw [e]
    exact q⟩
theorem r_call {sp : Sp} {E : XK} {t : TA} (q : t σ H fun vs H1 => sp vs H1 Q E) : tCall sp [] E t σ H Q := by
  have e : (fun vs H2 => sp (vs ++ []) H2 Q E) = fun vs H2 => sp vs H2 Q E := by
    funext vs H2
    rw [List.append_nil]
  show t σ H fun vs H2 => sp (vs ++ []) H2 Q E
  rw [e]
  exact q
/-- a class called, its arguments known -/
def MakR (C : Addr) (sp : Sp) (E : XK) (Q : VK) (vs : List V) (H1 : Hp) : Prop := ∀ x dx, H1 x = none → H1 dx = none → dx ≠ x → sp (.ref x :: vs) (upd (upd H1 dx (.own x)) x (.ins C dx [])) (fun v H2 => v = .non ∧ Q (.ref x) H2) E
theorem r_make {C : Addr} {sp : Sp} {E : XK} {t : TA} (q : t σ H (MakR C sp E Q)) : tMake C sp [] E t σ H Q := by
  have e : (fun vs H1 => ∀ x dx, H1 x = none → H1 dx = none → dx ≠ x → sp (.ref x :: (vs ++ [])) (upd (upd H1 dx (.own x)) x (.ins C dx [])) (fun v H2 => v = .non ∧ Q (.ref x) H2) E) = MakR C sp E Q := by
    funext vs H2
    rw [List.append_nil]
    rfl
  show t σ H fun vs H1 => ∀ x dx, H1 x = none → H1 dx = none → dx ≠ x → sp (.ref x :: (vs ++ [])) (upd (upd H1 dx (.own x)) x (.ins C dx [])) (fun v H2 => v = .non ∧ Q (.ref x) H2) E
  rw [e]
  exact q
theorem r_prop {C : Addr} {sp : Sp} {E : XK} (q : ta σ H fun x H1 => ∃ a dx fs, x = .ref a ∧ H1 a = some (.ins C dx fs) ∧ sp [.ref a] H1 Q E) : tProp C sp [] E ta σ H Q := q
theorem r_propR {C a dx : Addr} {sp : Sp} {E : XK} {fs : List (Str × V)} (h : H a = some (.ins C dx fs)) (q : sp [.ref a] H Q E) : ∃ a' dx fs, V.ref a = .ref a' ∧ H a' = some (.ins C dx fs) ∧ sp [.ref a'] H Q E := ⟨a, dx, fs, rfl, h, q⟩
theorem r_nil {Q : List V → Hp → Prop} (q : Q [] H) : tNil σ H Q := q
theorem r_cons {tr : TA} {Q : List V → Hp → Prop} (q : ta σ H fun x H1 => tr σ H1 fun xs H2 => Q (x :: xs) H2) : tCons ta tr σ H Q := q
theorem r_cb {r : List V → Hp → VK → Prop} {t : TA} (q : t σ H fun vs H1 => r vs H1 Q) : tCB r t σ H Q := q
theorem r_max {i j : Int} (q : Q (.int (max i j)) H) : rMx [V.int i, V.int j] H Q := ⟨i, j, rfl, q⟩
theorem r_min {i j : Int} (q : Q (.int (min i j)) H) : rMn [V.int i, V.int j] H Q := ⟨i, j, rfl, q⟩
theorem r_int1 {i : Int} (q : Q (.int i) H) : rInt [V.int i] H Q := .inl ⟨i, rfl, q⟩
theorem r_intb {b : Bool} (q : Q (.int (if b then 1 else 0)) H) : rInt [V.bl b] H Q := .inr ⟨b, rfl, q⟩
theorem r_lenL {a : Addr} {xs : List V} (h : SqL K H a xs) (q : Q (.int xs.length) H) : rLenQ K [V.ref a] H Q := ⟨a, xs, rfl, .inl h, q⟩
theorem r_lenT {a : Addr} {xs : List V} (h : SqT K H a xs) (q : Q (.int xs.length) H) : rLenQ K [V.ref a] H Q := ⟨a, xs, rfl, .inr h, q⟩
theorem r_listL {a : Addr} {xs : List V} (h : SqL K H a xs) (q : ∀ p, H p = none → Q (.ref p) (upd H p (.lst xs))) : rListQ K [V.ref a] H Q := ⟨a, xs, rfl, .inl h, q⟩
theorem r_listT {a : Addr} {xs : List V} (h : SqT K H a xs) (q : ∀ p, H p = none → Q (.ref p) (upd H p (.lst xs))) : rListQ K [V.ref a] H Q := ⟨a, xs, rfl, .inr h, q⟩
theorem r_tupL {a : Addr} {xs : List V} (h : SqL K H a xs) (q : ∀ p, H p = none → Q (.ref p) (upd H p (.tup xs))) : rTupLQ K [V.ref a] H Q := ⟨a, xs, rfl, h, q⟩
theorem r_tupT {a : Addr} {xs : List V} (h : SqT K H a xs) (q : Q (.ref a) H) : rTupTQ K [V.ref a] H Q := ⟨a, xs, rfl, h, q⟩
theorem r_ixL {a : Addr} {xs : List V} {i : Int} {j : Nat} (h : SqL K H a xs) (e : i = (j : Int)) (l : xs[j]? = some v) (q : Q v H) : rIxL K (.ref a) (.int i) H Q := ⟨a, xs, i, v, rfl, rfl, h, at_of e l, q⟩
theorem r_ixT {a : Addr} {xs : List V} {i : Int} {j : Nat} (h : SqT K H a xs) (e : i = (j : Int)) (l : xs[j]? = some v) (q : Q v H) : rIxT K (.ref a) (.int i) H Q := ⟨a, xs, i, v, rfl, rfl, h, at_of e l, q⟩
theorem r_ixLa {a : Addr} {xs : List V} {i : Int} (h : SqL K H a xs) (l : atI xs i = some v) (q : Q v H) : rIxL K (.ref a) (.int i) H Q := ⟨a, xs, i, v, rfl, rfl, h, l, q⟩
theorem r_if {tt : TT} (q : tt σ H fun c H1 => if c = true then ta σ H1 Q else tb σ H1 Q) : tIf tt ta tb σ H Q := q
/-- a new tuple, a new list, by values -/
def NwT (Q : VK) (xs : List V) (H : Hp) : Prop := xs.length ≤ sizeLine ∧ ∀ p, H p = none → Q (.ref p) (upd H p (.tup xs))
def NwL (Q : VK) (xs : List V) (H : Hp) : Prop := xs.length ≤ sizeLine ∧ ∀ p, H p = none → Q (.ref p) (upd H p (.lst xs))
theorem r_tup {t : TA} (q : t σ H (NwT Q)) : tTup t σ H Q := q
theorem r_lst {t : TA} (q : t σ H (NwL Q)) : tLst t σ H Q := q
theorem r_nwT {xs : List V} (h : xs.length ≤ 1000) (q : ∀ p, H p = none → Q (.ref p) (upd H p (.tup xs))) : NwT Q xs H := ⟨Nat.le_trans h (by decide), q⟩
theorem r_nwL {xs : List V} (h : xs.length ≤ 1000) (q : ∀ p, H p = none → Q (.ref p) (upd H p (.lst xs))) : NwL Q xs H := ⟨Nat.le_trans h (by decide), q⟩
theorem r_bm {T : String} {r : V → List V → Hp → VK → Prop} {t : TA} (q : ta σ H fun x H1 => tyV K T x H1 ∧ t σ H1 fun xs H2 => r x xs H2 Q) : tBM K T r ta t σ H Q := q
theorem r_bm0 {T : String} {r : V → List V → Hp → VK → Prop} (q : ta σ H fun x H1 => tyV K T x H1 ∧ r x [] H1 Q) : tBM0 K T r ta σ H Q := q
theorem r_tyL {a : Addr} {xs : List V} (h : SqL K H a xs) (q : A) : tyV K "list" (.ref a) H ∧ A := ⟨.inl ⟨rfl, xs, h⟩, q⟩
theorem r_append {a : Addr} {xs : List V} (h : H a = some (.lst xs)) (l : xs.length < 100000) (q : Q .non (upd H a (.lst (xs ++ [v])))) : rAppend (.ref a) [v] H Q := ⟨a, xs, v, rfl, rfl, h, Nat.lt_of_lt_of_le l (by decide), q⟩
theorem r_pop {a : Addr} {xs : List V} (h : H a = some (.lst xs)) (l : xs[xs.length - 1]? = some v) (q : Q v (upd H a (.lst xs.dropLast))) : rPop (.ref a) [] H Q := ⟨a, xs, v, rfl, rfl, h, l, q⟩
theorem r_sumT {a : Addr} {ns : List Int} (h : SqT K H a (ns.map V.int)) (q : Q (.int ns.sum) H) : rSumT K [V.ref a] H Q := ⟨a, ns, rfl, h, q⟩
theorem r_sumL {a : Addr} {ns : List Int} (h : SqL K H a (ns.map V.int)) (q : Q (.int ns.sum) H) : rSum K [V.ref a] H Q := ⟨a, ns, rfl, h, q⟩
/-! ### tests -/
theorem r_B {Q : Bool → Hp → Prop} (q : te σ H fun x H1 => ∃ c, x = .bl c ∧ Q c H1) : tB te σ H Q := q
theorem r_test {Q : Bool → Hp → Prop} (q : te σ H fun x H1 => ∃ c, x = .bl c ∧ Q c H1) : tTest te σ H Q := q
theorem r_b {k : Bool → Hp → Prop} {b : Bool} (q : k b H) : ∃ c, V.bl b = .bl c ∧ k c H := ⟨b, rfl, q⟩
theorem r_b' {k : Bool → Prop} {b : Bool} (q : k b) : ∃ c, V.bl b = .bl c ∧ k c := ⟨b, rfl, q⟩
theorem r_and {tA tB' : TT} {Q : Bool → Hp → Prop} (q : tA σ H fun c H1 => if c = true then tB' σ H1 Q else Q false H1) : tAnd tA tB' σ H Q := q
theorem r_or {tA tB' : TT} {Q : Bool → Hp → Prop} (q : tA σ H fun c H1 => if c = true then Q true H1 else tB' σ H1 Q) : tOr tA tB' σ H Q := q
theorem r_not {tA : TT} {Q : Bool → Hp → Prop} (q : tA σ H fun c H1 => Q (!c) H1) : tNot tA σ H Q := q
theorem r_chain {r r' : R2} (q : ta σ H fun x H1 => tb σ H1 fun y H2 => r x y H2 fun z H3 => ∃ k, z = .bl k ∧ (if k = true then tc σ H3 fun w' H4 => r' y w' H4 Q else Q (.bl false) H3)) : tChain r r' ta tb tc σ H Q := q
theorem r_andV (q : ta σ H fun x H1 => ∃ c, x = .bl c ∧ if c = true then tb σ H1 Q else Q (.bl false) H1) : tAndV ta tb σ H Q := q
theorem r_orV (q : ta σ H fun x H1 => ∃ c, x = .bl c ∧ if c = true then Q (.bl true) H1 else tb σ H1 Q) : tOrV ta tb σ H Q := q
theorem r_notV (q : ta σ H fun x H1 => ∃ c, x = .bl c ∧ Q (.bl (!c)) H1) : tNotV ta σ H Q := q
theorem i2 {p : Prop} [Decidable p] (h1 : p → A) (h2 : ¬ p → B) : if decide p = true then A else B := by
  by_cases h : p
  · rw [if_pos (decide_eq_true h)]
    exact h1 h
  · rw [if_neg (by rw [decide_eq_false h]; exact Bool.false_ne_true)]
    exact h2 h
theorem i2n {p : Prop} [Decidable p] (h1 : ¬ p → A) (h2 : p → B) : if (!decide p) = true then A else B := by
  by_cases h : p
  · rw [decide_eq_true h]
    exact iteF (h2 h)
  · rw [decide_eq_false h]
    exact iteT (h1 h)
theorem i2b {b : Bool} (h1 : b = true → A) (h2 : b = false → B) : if b = true then A else B := by
  cases b with
  | true => exact iteT (h1 rfl)
  | false => exact iteF (h2 rfl)
theorem i2bn {b : Bool} (h1 : b = false → A) (h2 : b = true → B) : if (!b) = true then A else B := by
  cases b with
  | true => exact iteF (h2 rfl)
  | false => exact iteT (h1 rfl)
theorem iT (q : A) : if true = true then A else B := iteT q
theorem iF (q : B) : if false = true then A else B := iteF q
theorem iNT (q : B) : if (!true) = true then A else B := iteF q
theorem iNF (q : A) : if (!false) = true then A else B := iteT q
theorem iOF (q : B) : if (false || false) = true then A else B := iteF q
theorem iY {p : Prop} [Decidable p] (h : p) (q : A) : if decide p = true then A else B := i2 (fun _ => q) fun z => absurd h z
theorem iN {p : Prop} [Decidable p] (h : ¬ p) (q : B) : if decide p = true then A else B := i2 (fun z => absurd z h) fun _ => q
/-! ### statements -/
theorem r_seq (q : t { D with nx := u D } σ H) : tSeq t u D σ H := q
theorem r_next (q : D.nx σ H) : tNext D σ H := q
/-- slot i is given v, N goes on -/
def SetR (i : Nat) (v : V) (N : L2.St → Prop) (σ : L2.St) : Prop := N (σ.set i (some v))
theorem v_id {i : Nat} (q : tVar i σ H Q) : tVar i σ H Q := q
theorem s_id {i : Nat} {N : L2.St → Prop} (q : SetR i v N σ) : SetR i v N σ := q
theorem st_cons {n : Str} {N : List Str} {vs : List V} : L2.start (n :: N) (v :: vs) = some v :: L2.start N vs := by
  unfold L2.start
  simp
theorem st_none {n : Str} {N : List Str} : L2.start (n :: N) [] = none :: L2.start N [] := rfl
theorem st_nn : L2.start [] [] = [] := rfl
theorem r_setU {i : Nat} {N : L2.St → Prop} (q : N (σ.set i (some v))) : SetR i v N σ := q
theorem r_set_0 {a0 : Option V} {r : List (Option V)} {N : L2.St → Prop} (q : N (some v :: r)) : SetR 0 v N (a0 :: r) := q
theorem r_var_0 {r : List (Option V)} (q : Q v H) : tVar 0 (some v :: r) H Q := ⟨v, rfl, q⟩
theorem r_set_1 {a0 a1 : Option V} {r : List (Option V)} {N : L2.St → Prop} (q : N (a0 :: some v :: r)) : SetR 1 v N (a0 :: a1 :: r) := q
theorem r_var_1 {a0 : Option V} {r : List (Option V)} (q : Q v H) : tVar 1 (a0 :: some v :: r) H Q := ⟨v, rfl, q⟩
theorem r_set_2 {a0 a1 a2 : Option V} {r : List (Option V)} {N : L2.St → Prop} (q : N (a0 :: a1 :: some v :: r)) : SetR 2 v N (a0 :: a1 :: a2 :: r) := q
theorem r_var_2 {a0 a1 : Option V} {r : List (Option V)} (q : Q v H) : tVar 2 (a0 :: a1 :: some v :: r) H Q := ⟨v, rfl, q⟩
theorem r_set_3 {a0 a1 a2 a3 : Option V} {r : List (Option V)} {N : L2.St → Prop} (q : N (a0 :: a1 :: a2 :: some v :: r)) : SetR 3 v N (a0 :: a1 :: a2 :: a3 :: r) := q
theorem r_var_3 {a0 a1 a2 : Option V} {r : List (Option V)} (q : Q v H) : tVar 3 (a0 :: a1 :: a2 :: some v :: r) H Q := ⟨v, rfl, q⟩
theorem r_set_4 {a0 a1 a2 a3 a4 : Option V} {r : List (Option V)} {N : L2.St → Prop} (q : N (a0 :: a1 :: a2 :: a3 :: some v :: r)) : SetR 4 v N (a0 :: a1 :: a2 :: a3 :: a4 :: r) := q
theorem r_var_4 {a0 a1 a2 a3 : Option V} {r : List (Option V)} (q : Q v H) : tVar 4 (a0 :: a1 :: a2 :: a3 :: some v :: r) H Q := ⟨v, rfl, q⟩
theorem r_set_5 {a0 a1 a2 a3 a4 a5 : Option V} {r : List (Option V)} {N : L2.St → Prop} (q : N (a0 :: a1 :: a2 :: a3 :: a4 :: some v :: r)) : SetR 5 v N (a0 :: a1 :: a2 :: a3 :: a4 :: a5 :: r) := q
theorem r_var_5 {a0 a1 a2 a3 a4 : Option V} {r : List (Option V)} (q : Q v H) : tVar 5 (a0 :: a1 :: a2 :: a3 :: a4 :: some v :: r) H Q := ⟨v, rfl, q⟩
theorem r_set_6 {a0 a1 a2 a3 a4 a5 a6 : Option V} {r : List (Option V)} {N : L2.St → Prop} (q : N (a0 :: a1 :: a2 :: a3 :: a4 :: a5 :: some v :: r)) : SetR 6 v N (a0 :: a1 :: a2 :: a3 :: a4 :: a5 :: a6 :: r) := q
theorem r_var_6 {a0 a1 a2 a3 a4 a5 : Option V} {r : List (Option V)} (q : Q v H) : tVar 6 (a0 :: a1 :: a2 :: a3 :: a4 :: a5 :: some v :: r) H Q := ⟨v, rfl, q⟩
theorem r_set_7 {a0 a1 a2 a3 a4 a5 a6 a7 : Option V} {r : List (Option V)} {N : L2.St → Prop} (q : N (a0 :: a1 :: a2 :: a3 :: a4 :: a5 :: a6 :: some v :: r)) : SetR 7 v N (a0 :: a1 :: a2 :: a3 :: a4 :: a5 :: a6 :: a7 :: r) := q
theorem r_var_7 {a0 a1 a2 a3 a4 a5 a6 : Option V} {r : List (Option V)} (q : Q v H) : tVar 7 (a0 :: a1 :: a2 :: a3 :: a4 :: a5 :: a6 :: some v :: r) H Q := ⟨v, rfl, q⟩
theorem r_set_8 {a0 a1 a2 a3 a4 a5 a6 a7 a8 : Option V} {r : List (Option V)} {N : L2.St → Prop} (q : N (a0 :: a1 :: a2 :: a3 :: a4 :: a5 :: a6 :: a7 :: some v :: r)) : SetR 8 v N (a0 :: a1 :: a2 :: a3 :: a4 :: a5 :: a6 :: a7 :: a8 :: r) := q
theorem r_var_8 {a0 a1 a2 a3 a4 a5 a6 a7 : Option V} {r : List (Option V)} (q : Q v H) : tVar 8 (a0 :: a1 :: a2 :: a3 :: a4 :: a5 :: a6 :: a7 :: some v :: r) H Q := ⟨v, rfl, q⟩
theorem r_set_9 {a0 a1 a2 a3 a4 a5 a6 a7 a8 a9 : Option V} {r : List (Option V)} {N : L2.St → Prop} (q : N (a0 :: a1 :: a2 :: a3 :: a4 :: a5 :: a6 :: a7 :: a8 :: some v :: r)) : SetR 9 v N (a0 :: a1 :: a2 :: a3 :: a4 :: a5 :: a6 :: a7 :: a8 :: a9 :: r) := q
theorem r_var_9 {a0 a1 a2 a3 a4 a5 a6 a7 a8 : Option V} {r : List (Option V)} (q : Q v H) : tVar 9 (a0 :: a1 :: a2 :: a3 :: a4 :: a5 :: a6 :: a7 :: a8 :: some v :: r) H Q := ⟨v, rfl, q⟩
theorem r_set_10 {a0 a1 a2 a3 a4 a5 a6 a7 a8 a9 a10 : Option V} {r : List (Option V)} {N : L2.St → Prop} (q : N (a0 :: a1 :: a2 :: a3 :: a4 :: a5 :: a6 :: a7 :: a8 :: a9 :: some v :: r)) : SetR 10 v N (a0 :: a1 :: a2 :: a3 :: a4 :: a5 :: a6 :: a7 :: a8 :: a9 :: a10 :: r) := q
theorem r_var_10 {a0 a1 a2 a3 a4 a5 a6 a7 a8 a9 : Option V} {r : List (Option V)} (q : Q v H) : tVar 10 (a0 :: a1 :: a2 :: a3 :: a4 :: a5 :: a6 :: a7 :: a8 :: a9 :: some v :: r) H Q := ⟨v, rfl, q⟩
theorem r_set_11 {a0 a1 a2 a3 a4 a5 a6 a7 a8 a9 a10 a11 : Option V} {r : List (Option V)} {N : L2.St → Prop} (q : N (a0 :: a1 :: a2 :: a3 :: a4 :: a5 :: a6 :: a7 :: a8 :: a9 :: a10 :: some v :: r)) : SetR 11 v N (a0 :: a1 :: a2 :: a3 :: a4 :: a5 :: a6 :: a7 :: a8 :: a9 :: a10 :: a11 :: r) := q
theorem r_var_11 {a0 a1 a2 a3 a4 a5 a6 a7 a8 a9 a10 : Option V} {r : List (Option V)} (q : Q v H) : tVar 11 (a0 :: a1 :: a2 :: a3 :: a4 :: a5 :: a6 :: a7 :: a8 :: a9 :: a10 :: some v :: r) H Q := ⟨v, rfl, q⟩
theorem r_set_12 {a0 a1 a2 a3 a4 a5 a6 a7 a8 a9 a10 a11 a12 : Option V} {r : List (Option V)} {N : L2.St → Prop} (q : N (a0 :: a1 :: a2 :: a3 :: a4 :: a5 :: a6 :: a7 :: a8 :: a9 :: a10 :: a11 :: some v :: r)) : SetR 12 v N (a0 :: a1 :: a2 :: a3 :: a4 :: a5 :: a6 :: a7 :: a8 :: a9 :: a10 :: a11 :: a12 :: r) := q
theorem r_var_12 {a0 a1 a2 a3 a4 a5 a6 a7 a8 a9 a10 a11 : Option V} {r : List (Option V)} (q : Q v H) : tVar 12 (a0 :: a1 :: a2 :: a3 :: a4 :: a5 :: a6 :: a7 :: a8 :: a9 :: a10 :: a11 :: some v :: r) H Q := ⟨v, rfl, q⟩
theorem r_set_13 {a0 a1 a2 a3 a4 a5 a6 a7 a8 a9 a10 a11 a12 a13 : Option V} {r : List (Option V)} {N : L2.St → Prop} (q : N (a0 :: a1 :: a2 :: a3 :: a4 :: a5 :: a6 :: a7 :: a8 :: a9 :: a10 :: a11 :: a12 :: some v :: r)) : SetR 13 v N (a0 :: a1 :: a2 :: a3 :: a4 :: a5 :: a6 :: a7 :: a8 :: a9 :: a10 :: a11 :: a12 :: a13 :: r) := q
theorem r_var_13 {a0 a1 a2 a3 a4 a5 a6 a7 a8 a9 a10 a11 a12 : Option V} {r : List (Option V)} (q : Q v H) : tVar 13 (a0 :: a1 :: a2 :: a3 :: a4 :: a5 :: a6 :: a7 :: a8 :: a9 :: a10 :: a11 :: a12 :: some v :: r) H Q := ⟨v, rfl, q⟩
theorem r_set_14 {a0 a1 a2 a3 a4 a5 a6 a7 a8 a9 a10 a11 a12 a13 a14 : Option V} {r : List (Option V)} {N : L2.St → Prop} (q : N (a0 :: a1 :: a2 :: a3 :: a4 :: a5 :: a6 :: a7 :: a8 :: a9 :: a10 :: a11 :: a12 :: a13 :: some v :: r)) : SetR 14 v N (a0 :: a1 :: a2 :: a3 :: a4 :: a5 :: a6 :: a7 :: a8 :: a9 :: a10 :: a11 :: a12 :: a13 :: a14 :: r) := q
theorem r_var_14 {a0 a1 a2 a3 a4 a5 a6 a7 a8 a9 a10 a11 a12 a13 : Option V} {r : List (Option V)} (q : Q v H) : tVar 14 (a0 :: a1 :: a2 :: a3 :: a4 :: a5 :: a6 :: a7 :: a8 :: a9 :: a10 :: a11 :: a12 :: a13 :: some v :: r) H Q := ⟨v, rfl, q⟩
theorem r_set_15 {a0 a1 a2 a3 a4 a5 a6 a7 a8 a9 a10 a11 a12 a13 a14 a15 : Option V} {r : List (Option V)} {N : L2.St → Prop} (q : N (a0 :: a1 :: a2 :: a3 :: a4 :: a5 :: a6 :: a7 :: a8 :: a9 :: a10 :: a11 :: a12 :: a13 :: a14 :: some v :: r)) : SetR 15 v N (a0 :: a1 :: a2 :: a3 :: a4 :: a5 :: a6 :: a7 :: a8 :: a9 :: a10 :: a11 :: a12 :: a13 :: a14 :: a15 :: r) := q
theorem r_var_15 {a0 a1 a2 a3 a4 a5 a6 a7 a8 a9 a10 a11 a12 a13 a14 : Option V} {r : List (Option V)} (q : Q v H) : tVar 15 (a0 :: a1 :: a2 :: a3 :: a4 :: a5 :: a6 :: a7 :: a8 :: a9 :: a10 :: a11 :: a12 :: a13 :: a14 :: some v :: r) H Q := ⟨v, rfl, q⟩
theorem r_set_16 {a0 a1 a2 a3 a4 a5 a6 a7 a8 a9 a10 a11 a12 a13 a14 a15 a16 : Option V} {r : List (Option V)} {N : L2.St → Prop} (q : N (a0 :: a1 :: a2 :: a3 :: a4 :: a5 :: a6 :: a7 :: a8 :: a9 :: a10 :: a11 :: a12 :: a13 :: a14 :: a15 :: some v :: r)) : SetR 16 v N (a0 :: a1 :: a2 :: a3 :: a4 :: a5 :: a6 :: a7 :: a8 :: a9 :: a10 :: a11 :: a12 :: a13 :: a14 :: a15 :: a16 :: r) := q
theorem r_var_16 {a0 a1 a2 a3 a4 a5 a6 a7 a8 a9 a10 a11 a12 a13 a14 a15 : Option V} {r : List (Option V)} (q : Q v H) : tVar 16 (a0 :: a1 :: a2 :: a3 :: a4 :: a5 :: a6 :: a7 :: a8 :: a9 :: a10 :: a11 :: a12 :: a13 :: a14 :: a15 :: some v :: r) H Q := ⟨v, rfl, q⟩
theorem r_set_17 {a0 a1 a2 a3 a4 a5 a6 a7 a8 a9 a10 a11 a12 a13 a14 a15 a16 a17 : Option V} {r : List (Option V)} {N : L2.St → Prop} (q : N (a0 :: a1 :: a2 :: a3 :: a4 :: a5 :: a6 :: a7 :: a8 :: a9 :: a10 :: a11 :: a12 :: a13 :: a14 :: a15 :: a16 :: some v :: r)) : SetR 17 v N (a0 :: a1 :: a2 :: a3 :: a4 :: a5 :: a6 :: a7 :: a8 :: a9 :: a10 :: a11 :: a12 :: a13 :: a14 :: a15 :: a16 :: a17 :: r) := q
theorem r_var_17 {a0 a1 a2 a3 a4 a5 a6 a7 a8 a9 a10 a11 a12 a13 a14 a15 a16 : Option V} {r : List (Option V)} (q : Q v H) : tVar 17 (a0 :: a1 :: a2 :: a3 :: a4 :: a5 :: a6 :: a7 :: a8 :: a9 :: a10 :: a11 :: a12 :: a13 :: a14 :: a15 :: a16 :: some v :: r) H Q := ⟨v, rfl, q⟩
theorem r_set_18 {a0 a1 a2 a3 a4 a5 a6 a7 a8 a9 a10 a11 a12 a13 a14 a15 a16 a17 a18 : Option V} {r : List (Option V)} {N : L2.St → Prop} (q : N (a0 :: a1 :: a2 :: a3 :: a4 :: a5 :: a6 :: a7 :: a8 :: a9 :: a10 :: a11 :: a12 :: a13 :: a14 :: a15 :: a16 :: a17 :: some v :: r)) : SetR 18 v N (a0 :: a1 :: a2 :: a3 :: a4 :: a5 :: a6 :: a7 :: a8 :: a9 :: a10 :: a11 :: a12 :: a13 :: a14 :: a15 :: a16 :: a17 :: a18 :: r) := q
theorem r_var_18 {a0 a1 a2 a3 a4 a5 a6 a7 a8 a9 a10 a11 a12 a13 a14 a15 a16 a17 : Option V} {r : List (Option V)} (q : Q v H) : tVar 18 (a0 :: a1 :: a2 :: a3 :: a4 :: a5 :: a6 :: a7 :: a8 :: a9 :: a10 :: a11 :: a12 :: a13 :: a14 :: a15 :: a16 :: a17 :: some v :: r) H Q := ⟨v, rfl, q⟩
theorem r_set_19 {a0 a1 a2 a3 a4 a5 a6 a7 a8 a9 a10 a11 a12 a13 a14 a15 a16 a17 a18 a19 : Option V} {r : List (Option V)} {N : L2.St → Prop} (q : N (a0 :: a1 :: a2 :: a3 :: a4 :: a5 :: a6 :: a7 :: a8 :: a9 :: a10 :: a11 :: a12 :: a13 :: a14 :: a15 :: a16 :: a17 :: a18 :: some v :: r)) : SetR 19 v N (a0 :: a1 :: a2 :: a3 :: a4 :: a5 :: a6 :: a7 :: a8 :: a9 :: a10 :: a11 :: a12 :: a13 :: a14 :: a15 :: a16 :: a17 :: a18 :: a19 :: r) := q
theorem r_var_19 {a0 a1 a2 a3 a4 a5 a6 a7 a8 a9 a10 a11 a12 a13 a14 a15 a16 a17 a18 : Option V} {r : List (Option V)} (q : Q v H) : tVar 19 (a0 :: a1 :: a2 :: a3 :: a4 :: a5 :: a6 :: a7 :: a8 :: a9 :: a10 :: a11 :: a12 :: a13 :: a14 :: a15 :: a16 :: a17 :: a18 :: some v :: r) H Q := ⟨v, rfl, q⟩
theorem r_set_20 {a0 a1 a2 a3 a4 a5 a6 a7 a8 a9 a10 a11 a12 a13 a14 a15 a16 a17 a18 a19 a20 : Option V} {r : List (Option V)} {N : L2.St → Prop} (q : N (a0 :: a1 :: a2 :: a3 :: a4 :: a5 :: a6 :: a7 :: a8 :: a9 :: a10 :: a11 :: a12 :: a13 :: a14 :: a15 :: a16 :: a17 :: a18 :: a19 :: some v :: r)) : SetR 20 v N (a0 :: a1 :: a2 :: a3 :: a4 :: a5 :: a6 :: a7 :: a8 :: a9 :: a10 :: a11 :: a12 :: a13 :: a14 :: a15 :: a16 :: a17 :: a18 :: a19 :: a20 :: r) := q
theorem r_var_20 {a0 a1 a2 a3 a4 a5 a6 a7 a8 a9 a10 a11 a12 a13 a14 a15 a16 a17 a18 a19 : Option V} {r : List (Option V)} (q : Q v H) : tVar 20 (a0 :: a1 :: a2 :: a3 :: a4 :: a5 :: a6 :: a7 :: a8 :: a9 :: a10 :: a11 :: a12 :: a13 :: a14 :: a15 :: a16 :: a17 :: a18 :: a19 :: some v :: r) H Q := ⟨v, rfl, q⟩
theorem r_set_21 {a0 a1 a2 a3 a4 a5 a6 a7 a8 a9 a10 a11 a12 a13 a14 a15 a16 a17 a18 a19 a20 a21 : Option V} {r : List (Option V)} {N : L2.St → Prop} (q : N (a0 :: a1 :: a2 :: a3 :: a4 :: a5 :: a6 :: a7 :: a8 :: a9 :: a10 :: a11 :: a12 :: a13 :: a14 :: a15 :: a16 :: a17 :: a18 :: a19 :: a20 :: some v :: r)) : SetR 21 v N (a0 :: a1 :: a2 :: a3 :: a4 :: a5 :: a6 :: a7 :: a8 :: a9 :: a10 :: a11 :: a12 :: a13 :: a14 :: a15 :: a16 :: a17 :: a18 :: a19 :: a20 :: a21 :: r) := q
theorem r_var_21 {a0 a1 a2 a3 a4 a5 a6 a7 a8 a9 a10 a11 a12 a13 a14 a15 a16 a17 a18 a19 a20 : Option V} {r : List (Option V)} (q : Q v H) : tVar 21 (a0 :: a1 :: a2 :: a3 :: a4 :: a5 :: a6 :: a7 :: a8 :: a9 :: a10 :: a11 :: a12 :: a13 :: a14 :: a15 :: a16 :: a17 :: a18 :: a19 :: a20 :: some v :: r) H Q := ⟨v, rfl, q⟩
theorem r_set_22 {a0 a1 a2 a3 a4 a5 a6 a7 a8 a9 a10 a11 a12 a13 a14 a15 a16 a17 a18 a19 a20 a21 a22 : Option V} {r : List (Option V)} {N : L2.St → Prop} (q : N (a0 :: a1 :: a2 :: a3 :: a4 :: a5 :: a6 :: a7 :: a8 :: a9 :: a10 :: a11 :: a12 :: a13 :: a14 :: a15 :: a16 :: a17 :: a18 :: a19 :: a20 :: a21 :: some v :: r)) : SetR 22 v N (a0 :: a1 :: a2 :: a3 :: a4 :: a5 :: a6 :: a7 :: a8 :: a9 :: a10 :: a11 :: a12 :: a13 :: a14 :: a15 :: a16 :: a17 :: a18 :: a19 :: a20 :: a21 :: a22 :: r) := q
theorem r_var_22 {a0 a1 a2 a3 a4 a5 a6 a7 a8 a9 a10 a11 a12 a13 a14 a15 a16 a17 a18 a19 a20 a21 : Option V} {r : List (Option V)} (q : Q v H) : tVar 22 (a0 :: a1 :: a2 :: a3 :: a4 :: a5 :: a6 :: a7 :: a8 :: a9 :: a10 :: a11 :: a12 :: a13 :: a14 :: a15 :: a16 :: a17 :: a18 :: a19 :: a20 :: a21 :: some v :: r) H Q := ⟨v, rfl, q⟩
theorem r_set_23 {a0 a1 a2 a3 a4 a5 a6 a7 a8 a9 a10 a11 a12 a13 a14 a15 a16 a17 a18 a19 a20 a21 a22 a23 : Option V} {r : List (Option V)} {N : L2.St → Prop} (q : N (a0 :: a1 :: a2 :: a3 :: a4 :: a5 :: a6 :: a7 :: a8 :: a9 :: a10 :: a11 :: a12 :: a13 :: a14 :: a15 :: a16 :: a17 :: a18 :: a19 :: a20 :: a21 :: a22 :: some v :: r)) : SetR 23 v N (a0 :: a1 :: a2 :: a3 :: a4 :: a5 :: a6 :: a7 :: a8 :: a9 :: a10 :: a11 :: a12 :: a13 :: a14 :: a15 :: a16 :: a17 :: a18 :: a19 :: a20 :: a21 :: a22 :: a23 :: r) := q
theorem r_var_23 {a0 a1 a2 a3 a4 a5 a6 a7 a8 a9 a10 a11 a12 a13 a14 a15 a16 a17 a18 a19 a20 a21 a22 : Option V} {r : List (Option V)} (q : Q v H) : tVar 23 (a0 :: a1 :: a2 :: a3 :: a4 :: a5 :: a6 :: a7 :: a8 :: a9 :: a10 :: a11 :: a12 :: a13 :: a14 :: a15 :: a16 :: a17 :: a18 :: a19 :: a20 :: a21 :: a22 :: some v :: r) H Q := ⟨v, rfl, q⟩
theorem r_set_24 {a0 a1 a2 a3 a4 a5 a6 a7 a8 a9 a10 a11 a12 a13 a14 a15 a16 a17 a18 a19 a20 a21 a22 a23 a24 : Option V} {r : List (Option V)} {N : L2.St → Prop} (q : N (a0 :: a1 :: a2 :: a3 :: a4 :: a5 :: a6 :: a7 :: a8 :: a9 :: a10 :: a11 :: a12 :: a13 :: a14 :: a15 :: a16 :: a17 :: a18 :: a19 :: a20 :: a21 :: a22 :: a23 :: some v :: r)) : SetR 24 v N (a0 :: a1 :: a2 :: a3 :: a4 :: a5 :: a6 :: a7 :: a8 :: a9 :: a10 :: a11 :: a12 :: a13 :: a14 :: a15 :: a16 :: a17 :: a18 :: a19 :: a20 :: a21 :: a22 :: a23 :: a24 :: r) := q
theorem r_var_24 {a0 a1 a2 a3 a4 a5 a6 a7 a8 a9 a10 a11 a12 a13 a14 a15 a16 a17 a18 a19 a20 a21 a22 a23 : Option V} {r : List (Option V)} (q : Q v H) : tVar 24 (a0 :: a1 :: a2 :: a3 :: a4 :: a5 :: a6 :: a7 :: a8 :: a9 :: a10 :: a11 :: a12 :: a13 :: a14 :: a15 :: a16 :: a17 :: a18 :: a19 :: a20 :: a21 :: a22 :: a23 :: some v :: r) H Q := ⟨v, rfl, q⟩
theorem r_set_25 {a0 a1 a2 a3 a4 a5 a6 a7 a8 a9 a10 a11 a12 a13 a14 a15 a16 a17 a18 a19 a20 a21 a22 a23 a24 a25 : Option V} {r : List (Option V)} {N : L2.St → Prop} (q : N (a0 :: a1 :: a2 :: a3 :: a4 :: a5 :: a6 :: a7 :: a8 :: a9 :: a10 :: a11 :: a12 :: a13 :: a14 :: a15 :: a16 :: a17 :: a18 :: a19 :: a20 :: a21 :: a22 :: a23 :: a24 :: some v :: r)) : SetR 25 v N (a0 :: a1 :: a2 :: a3 :: a4 :: a5 :: a6 :: a7 :: a8 :: a9 :: a10 :: a11 :: a12 :: a13 :: a14 :: a15 :: a16 :: a17 :: a18 :: a19 :: a20 :: a21 :: a22 :: a23 :: a24 :: a25 :: r) := q
theorem r_var_25 {a0 a1 a2 a3 a4 a5 a6 a7 a8 a9 a10 a11 a12 a13 a14 a15 a16 a17 a18 a19 a20 a21 a22 a23 a24 : Option V} {r : List (Option V)} (q : Q v H) : tVar 25 (a0 :: a1 :: a2 :: a3 :: a4 :: a5 :: a6 :: a7 :: a8 :: a9 :: a10 :: a11 :: a12 :: a13 :: a14 :: a15 :: a16 :: a17 :: a18 :: a19 :: a20 :: a21 :: a22 :: a23 :: a24 :: some v :: r) H Q := ⟨v, rfl, q⟩
theorem r_set_26 {a0 a1 a2 a3 a4 a5 a6 a7 a8 a9 a10 a11 a12 a13 a14 a15 a16 a17 a18 a19 a20 a21 a22 a23 a24 a25 a26 : Option V} {r : List (Option V)} {N : L2.St → Prop} (q : N (a0 :: a1 :: a2 :: a3 :: a4 :: a5 :: a6 :: a7 :: a8 :: a9 :: a10 :: a11 :: a12 :: a13 :: a14 :: a15 :: a16 :: a17 :: a18 :: a19 :: a20 :: a21 :: a22 :: a23 :: a24 :: a25 :: some v :: r)) : SetR 26 v N (a0 :: a1 :: a2 :: a3 :: a4 :: a5 :: a6 :: a7 :: a8 :: a9 :: a10 :: a11 :: a12 :: a13 :: a14 :: a15 :: a16 :: a17 :: a18 :: a19 :: a20 :: a21 :: a22 :: a23 :: a24 :: a25 :: a26 :: r) := q
theorem r_var_26 {a0 a1 a2 a3 a4 a5 a6 a7 a8 a9 a10 a11 a12 a13 a14 a15 a16 a17 a18 a19 a20 a21 a22 a23 a24 a25 : Option V} {r : List (Option V)} (q : Q v H) : tVar 26 (a0 :: a1 :: a2 :: a3 :: a4 :: a5 :: a6 :: a7 :: a8 :: a9 :: a10 :: a11 :: a12 :: a13 :: a14 :: a15 :: a16 :: a17 :: a18 :: a19 :: a20 :: a21 :: a22 :: a23 :: a24 :: a25 :: some v :: r) H Q := ⟨v, rfl, q⟩
theorem r_set_27 {a0 a1 a2 a3 a4 a5 a6 a7 a8 a9 a10 a11 a12 a13 a14 a15 a16 a17 a18 a19 a20 a21 a22 a23 a24 a25 a26 a27 : Option V} {r : List (Option V)} {N : L2.St → Prop} (q : N (a0 :: a1 :: a2 :: a3 :: a4 :: a5 :: a6 :: a7 :: a8 :: a9 :: a10 :: a11 :: a12 :: a13 :: a14 :: a15 :: a16 :: a17 :: a18 :: a19 :: a20 :: a21 :: a22 :: a23 :: a24 :: a25 :: a26 :: some v :: r)) : SetR 27 v N (a0 :: a1 :: a2 :: a3 :: a4 :: a5 :: a6 :: a7 :: a8 :: a9 :: a10 :: a11 :: a12 :: a13 :: a14 :: a15 :: a16 :: a17 :: a18 :: a19 :: a20 :: a21 :: a22 :: a23 :: a24 :: a25 :: a26 :: a27 :: r) := q
theorem r_var_27 {a0 a1 a2 a3 a4 a5 a6 a7 a8 a9 a10 a11 a12 a13 a14 a15 a16 a17 a18 a19 a20 a21 a22 a23 a24 a25 a26 : Option V} {r : List (Option V)} (q : Q v H) : tVar 27 (a0 :: a1 :: a2 :: a3 :: a4 :: a5 :: a6 :: a7 :: a8 :: a9 :: a10 :: a11 :: a12 :: a13 :: a14 :: a15 :: a16 :: a17 :: a18 :: a19 :: a20 :: a21 :: a22 :: a23 :: a24 :: a25 :: a26 :: some v :: r) H Q := ⟨v, rfl, q⟩
theorem r_asg {i : Nat} (q : te σ H fun x H1 => SetR i x (fun s => D.nx s H1) σ) : tAsg te (gName i) D σ H := q
theorem r_asgG {g : TG} (q : te σ H fun x H1 => g x σ H1 D.nx) : tAsg te g D σ H := q
theorem r_gname {i : Nat} {Q : L2.St → Hp → Prop} (q : SetR i v (fun s => Q s H) σ) : gName i v σ H Q := q
theorem r_gtup {a : Addr} {xs : List V} {n : Nat} {t : TGs} {Q : L2.St → Hp → Prop} (h : SqT K H a xs) (l : xs.length = n) (q : t xs σ H Q) : gTup K n t (.ref a) σ H Q := ⟨a, xs, rfl, h, l, q⟩
theorem r_gcons {g : TG} {t : TGs} {r : List V} {Q : L2.St → Hp → Prop} (q : g v σ H fun σ' H' => t r σ' H' Q) : gCons g t (v :: r) σ H Q := ⟨v, r, rfl, q⟩
theorem r_gnil {Q : L2.St → Hp → Prop} (q : Q σ H) : gNil [] σ H Q := ⟨rfl, q⟩
theorem r_par {i j : Nat} {t : TA} (q : t σ H fun vs H1 => ∃ v w, vs = [v, w] ∧ SetR i v (SetR j w fun s => D.nx s H1) σ) : tPar i j t D σ H := q
theorem r_par2 {k : V → V → Prop} (q : k x y) : ∃ v w, [x, y] = [v, w] ∧ k v w := ⟨x, y, rfl, q⟩
theorem r_par3 {i j l : Nat} {t : TA} (q : t σ H fun vs H1 => ∃ u v w, vs = [u, v, w] ∧ SetR i u (SetR j v (SetR l w fun s => D.nx s H1)) σ) : tPar3 i j l t D σ H := q
theorem r_par33 {k : V → V → V → Prop} {z : V} (q : k x y z) : ∃ u v w, [x, y, z] = [u, v, w] ∧ k u v w := ⟨x, y, z, rfl, q⟩
theorem r_ret (q : te σ H D.rt) : tRet te D σ H := q
theorem r_drop (q : te σ H fun _ H1 => D.nx σ H1) : tDrop te D σ H := q
theorem r_ifS (q : c σ H fun b H1 => if b = true then t D σ H1 else u D σ H1) : tIfS c t u D σ H := q
theorem r_stop (q : tIfS c t u D σ H) : tIfS c t u D σ H := q
/-- an if whose test tells false in some heap behind H -/
theorem r_ifF (h1 : ∀ Z : Bool → Hp → Prop, (∀ H', Same H H' → Z false H') → c σ H Z) (h2 : ∀ H', Same H H' → u D σ H') : tIfS c t u D σ H := h1 _ fun H' s => iteF (h2 H' s)
theorem r_aug {i : Nat} {ti : TIp} (h : σ[i]? = some (some x)) (q : te σ H fun y H1 => ti x y H1 fun z H2 => SetR i z (fun s => D.nx s H2) σ) : tAug i te ti D σ H := ⟨x, h, q⟩
theorem r_ipI {f : Int → Int → Int} {i j : Int} (q : Q (.int (f i j)) H) : ipI f (.int i) (.int j) H Q := ⟨i, j, rfl, rfl, q⟩
/-- a store to a field, by values -/
def FldS (K : PySem.W.Frag) (f : Str) (q : Hp → Prop) (y x : V) (H : Hp) : Prop := ∃ a C dx fs, x = .ref a ∧ H a = some (.ins C dx fs) ∧ Cls K C ∧ NoAttr K C f ∧ fs.length < 1000 ∧ q (upd H a (.ins C dx (putF f y fs)))
theorem r_sfld {tv : TE} {f : Str} (q : tv σ H fun y H1 => ta σ H1 (FldS K f (D.nx σ) y)) : sFld K ta tv f D σ H := q
theorem r_sfldR {f : Str} {q : Hp → Prop} {a C dx : Addr} {fs : List (Str × V)} (h : H a = some (.ins C dx fs)) (c : Cls K C) (n : NoAttr K C f) (l : fs.length < 1000) (p : q (upd H a (.ins C dx (putF f y fs)))) : FldS K f q y (.ref a) H := ⟨a, C, dx, fs, rfl, h, c, n, l, p⟩
theorem r_sfldU {f : Str} {q : Hp → Prop} {a C dx : Addr} {fs : List (Str × V)} (c : Cls K C) (n : NoAttr K C f) (l : fs.length < 1000) (p : q (upd H a (.ins C dx (putF f y fs)))) : FldS K f q y (.ref a) (upd H a (.ins C dx fs)) :=
  ⟨a, C, dx, fs, rfl, upd_same, c, n, l, by
    rw [upd_upd]
    exact p⟩
theorem r_fldU {f : Str} {a C dx : Addr} {fs : List (Str × V)} (c : Cls K C) (n : NoAttr K C f) (l : fs.lookup f = some v) (q : Q v (upd H a (.ins C dx fs))) : FldR K f Q (.ref a) (upd H a (.ins C dx fs)) := ⟨a, C, dx, fs, v, rfl, upd_same, c, n, l, q⟩
/-- inside a while's turn: the next turn's word with a smaller measure -/
theorem r_turn {W : Nat → L2.St → Hp → Prop} {m : Nat} {tb : TS} (q : tb { D with nx := fun σ' H' => ∃ m', m' < m ∧ W m' σ' H', ct := fun σ' H' => ∃ m', m' < m ∧ W m' σ' H', bk := D.nx } σ H) :
    ∃ N : L2.St → Hp → Prop, (∀ σ' H', N σ' H' → ∃ m', m' < m ∧ W m' σ' H') ∧ tb { D with nx := N, ct := N, bk := D.nx } σ H := ⟨_, fun _ _ h => h, q⟩
/-! ### loops -/
theorem r_forL {tl : TE} {g : TG} {tb : TS} (q : tl σ H fun x H1 => ∃ a, x = .ref a ∧ (∃ xs, SqL K H1 a xs) ∧ ∃ W : Nat → Nat → L2.St → Hp → Prop, (∃ m, W 0 m σ H1) ∧ ∀ i m σ H, W i m σ H →
      ((Itl K a).stop i H ∧ D.nx σ H) ∨ ((Itl K a).go i H ∧ ∃ N : L2.St → Hp → Prop, (∀ σ' H', N σ' H' → ∃ m', m' < m ∧ W (i + 1) m' σ' H') ∧ ∀ x H', (Itl K a).yld i H x H' → g x σ H' fun σ2 H2 => tb { D with nx := N, ct := N, bk := D.nx } σ2 H2)) : tFor (iList K tl) g tb D σ H := q
theorem r_forLR {a : Addr} {xs : List V} {P : Addr → Prop} (h : SqL K H a xs) (q : P a) : ∃ a', V.ref a = .ref a' ∧ (∃ xs, SqL K H a' xs) ∧ P a' := ⟨a, rfl, ⟨xs, h⟩, q⟩
/-! ### heaps -/
theorem same_new {p : Addr} {o : HO} (h : H p = none) : Same H (upd H p o) := fun b u e => by
  rw [upd_ne (ne_of_none e h)]
  exact e
/-- what H does not hold may change -/
theorem same_mut {H' : Hp} {p : Addr} {o : HO} (e : Same H H') (h : H p = none) : Same H (upd H' p o) := fun b u q => by
  rw [upd_ne (ne_of_none q h)]
  exact e b u q
theorem same_sqT {a : Addr} {xs : List V} {H' : Hp} (e : Same H H') (h : SqT K H a xs) : SqT K H' a xs := by
  rcases h with (h | ⟨o, h⟩) | h
  · exact .inl (.inl (e _ _ h))
  · exact .inl (.inr ⟨o, e _ _ h⟩)
  · exact .inr h
theorem putF_lt {f : Str} {n : Nat} : ∀ {l : List (Str × V)}, l.length < n → (putF f v l).length < n + 1
  | [], h => by
    show 1 < n + 1
    omega
  | (g, y) :: l, h => by
    unfold putF
    split
    · simp only [List.length_cons] at h ⊢
      omega
    · cases n with
      | zero => simp at h
      | succ n =>
        have z := putF_lt (f := f) (n := n) (l := l) (by simpa using h)
        simp only [List.length_cons]
        omega
end
end G57
end
section
set_option maxRecDepth 100000
set_option maxHeartbeats 4000000
/-! XRead2: readings of loops, comprehensions, slices. -/
namespace G57
open PySem PySem.Spec PyProof.Rows L2
/-- a word about the heap that new objects and a list's growth leave true -/
def Stab (R : Hp → Prop) : Prop := (∀ H H', R H → Same H H' → R H') ∧ ∀ H D zs zs', R H → H D = some (.lst zs) → R (upd H D (.lst zs'))
theorem Stab.triv {A : Prop} : Stab fun _ => A := ⟨fun _ _ h _ => h, fun _ _ _ _ h _ => h⟩
theorem Stab.and {R S : Hp → Prop} (h : Stab R) (k : Stab S) : Stab fun H => R H ∧ S H := ⟨fun _ _ z s => ⟨h.1 _ _ z.1 s, k.1 _ _ z.2 s⟩, fun _ _ _ _ z s => ⟨h.2 _ _ _ _ z.1 s, k.2 _ _ _ _ z.2 s⟩⟩
theorem Stab.ex {α : Type} {R : α → Hp → Prop} (h : ∀ a, Stab (R a)) : Stab fun H => ∃ a, R a H := ⟨fun _ _ ⟨a, z⟩ s => ⟨a, (h a).1 _ _ z s⟩, fun _ _ _ _ ⟨a, z⟩ s => ⟨a, (h a).2 _ _ _ _ z s⟩⟩
theorem Stab.ins {p C dx : Addr} {fs : List (Str × V)} : Stab fun H => H p = some (.ins C dx fs) := ⟨fun _ _ h s => s _ _ h, fun H D zs zs' h e => by
  show upd H D _ p = _
  rw [upd_ne]
  · exact h
  · intro z
    subst z
    have q := e.symm.trans h
    cases q⟩
theorem Stab.tup {p : Addr} {xs : List V} : Stab fun H => H p = some (.tup xs) := ⟨fun _ _ h s => s _ _ h, fun H D zs zs' h e => by
  show upd H D _ p = _
  rw [upd_ne]
  · exact h
  · intro z
    subst z
    have q := e.symm.trans h
    cases q⟩
section
variable {K : PySem.W.Frag} {σ : L2.St} {H H1 : Hp} {Q : VK} {v x y : V} {ta tb tc te : TE} {D : Ends} {t u : TS} {c : TT} {A B : Prop}
theorem sameT {H H' H2 : Hp} (a : Same H H') (b : Same H' H2) : Same H H2 := fun p o h => b p o (a p o h)
theorem sameR {H : Hp} : Same H H := fun _ _ h => h
theorem sqL_same {a : Addr} {xs : List V} {H' : Hp} (h : H a = some (.lst xs)) (s : Same H H') : SqL K H' a xs := .inl (.inl (s _ _ h))
theorem sqL_at {a : Addr} {xs : List V} (h : H a = some (.lst xs)) : SqL K H a xs := .inl (.inl h)
theorem sqT_at {a : Addr} {xs : List V} (h : H a = some (.tup xs)) : SqT K H a xs := .inl (.inl h)
/-! ### ranges, fors -/
theorem r_rng1 {tA : TA} {R : It → Hp → Prop} (q : tA σ H fun vs H1 => ∃ j : Int, vs = [.int j] ∧ -(2 ^ 62) ≤ j ∧ j < 2 ^ 62 ∧ R (Itr 0 j.toNat) H1) : iRng1 tA σ H R := q
theorem r_rng1v {j : Int} {R : It → Hp → Prop} (h : -(2 ^ 62) ≤ j ∧ j < 2 ^ 62) (q : R (Itr 0 j.toNat) H) : ∃ j' : Int, [V.int j] = [.int j'] ∧ -(2 ^ 62) ≤ j' ∧ j' < 2 ^ 62 ∧ R (Itr 0 j'.toNat) H := ⟨j, rfl, h.1, h.2, q⟩
theorem r_rng2 {tA : TA} {R : It → Hp → Prop} (q : tA σ H fun vs H1 => ∃ i j : Int, vs = [.int i, .int j] ∧ (-(2 ^ 62) ≤ i ∧ i < 2 ^ 62 ∧ -(2 ^ 62) ≤ j ∧ j < 2 ^ 62) ∧ R (Itr i (j - i).toNat) H1) : iRng2 tA σ H R := q
theorem r_rng2v {i j : Int} {R : It → Hp → Prop} (h : -(2 ^ 62) ≤ i ∧ i < 2 ^ 62 ∧ -(2 ^ 62) ≤ j ∧ j < 2 ^ 62) (q : R (Itr i (j - i).toNat) H) : ∃ i' j' : Int, [V.int i, V.int j] = [.int i', .int j'] ∧ (-(2 ^ 62) ≤ i' ∧ i' < 2 ^ 62 ∧ -(2 ^ 62) ≤ j' ∧ j' < 2 ^ 62) ∧ R (Itr i' (j' - i').toNat) H := ⟨i, j, rfl, h, q⟩
/-- a for behind what it walks -/
def ForR (J : It) (g : TG) (tb : TS) (D : Ends) (σ : L2.St) (H1 : Hp) : Prop := ∃ W : Nat → Nat → L2.St → Hp → Prop, (∃ m, W 0 m σ H1) ∧ ∀ i m σ H, W i m σ H →
      (J.stop i H ∧ D.nx σ H) ∨ (J.go i H ∧ ∃ N : L2.St → Hp → Prop, (∀ σ' H', N σ' H' → ∃ m', m' < m ∧ W (i + 1) m' σ' H') ∧ ∀ x H', J.yld i H x H' → g x σ H' fun σ2 H2 => tb { D with nx := N, ct := N, bk := D.nx } σ2 H2)
theorem r_for {wi : TI} {g : TG} {tb : TS} (q : wi σ H fun J H1 => ForR J g tb D σ H1) : tFor wi g tb D σ H := q
/-- one turn of a for -/
def TurnR (g : TG) (tb : TS) (D : Ends) (N : L2.St → Hp → Prop) (x : V) (σ : L2.St) (H : Hp) : Prop := g x σ H fun σ2 H2 => tb { D with nx := N, ct := N, bk := D.nx } σ2 H2
theorem r_turnN {j : Nat} {tb : TS} {N : L2.St → Hp → Prop} (q : SetR j x (fun s => tb { D with nx := N, ct := N, bk := D.nx } s H) σ) : TurnR (gName j) tb D N x σ H := q
theorem r_turnG {g : TG} {tb : TS} {N : L2.St → Hp → Prop} (q : g x σ H fun σ2 H2 => tb { D with nx := N, ct := N, bk := D.nx } σ2 H2) : TurnR g tb D N x σ H := q
theorem fR_range {lo : Int} {n : Nat} {g : TG} {tb : TS} (Pv : Nat → L2.St → Hp → Prop) (h0 : Pv 0 σ H) (hs : ∀ i σ H, i < n → Pv i σ H → TurnR g tb D (Pv (i + 1)) (.int (lo + i)) σ H) (hd : ∀ σ H, Pv n σ H → D.nx σ H) : ForR (Itr lo n) g tb D σ H := for_range Pv h0 hs hd
theorem fR_list {a : Addr} {xs : List V} {g : TG} {tb : TS} (Pv : Nat → L2.St → Hp → Prop) (h0 : Pv 0 σ H) (hl : ∀ i σ H, i ≤ xs.length → Pv i σ H → SqL K H a xs) (hs : ∀ i x σ H, xs[i]? = some x → Pv i σ H → TurnR g tb D (Pv (i + 1)) x σ H) (hd : ∀ σ H, Pv xs.length σ H → D.nx σ H) : ForR (Itl K a) g tb D σ H := for_list Pv h0 hl hs hd
theorem fR_tup {a : Addr} {xs : List V} {g : TG} {tb : TS} (Pv : Nat → L2.St → Hp → Prop) (h0 : Pv 0 σ H) (hl : ∀ i σ H, i ≤ xs.length → Pv i σ H → SqT K H a xs) (hs : ∀ i x σ H, xs[i]? = some x → Pv i σ H → TurnR g tb D (Pv (i + 1)) x σ H) (hd : ∀ σ H, Pv xs.length σ H → D.nx σ H) : ForR (Itt K a) g tb D σ H := for_tup Pv h0 hl hs hd
theorem fR_enumT {a : Addr} {xs : List V} {g : TG} {tb : TS} (Pv : Nat → L2.St → Hp → Prop) (h0 : Pv 0 σ H) (hl : ∀ i σ H, Pv i σ H → SqT K H a xs) (hs : ∀ (i : Nat) (x : V) (T : Addr) (σ : L2.St) (H : Hp), xs[i]? = some x → Pv i σ H → H T = none → TurnR g tb D (Pv (i + 1)) (.ref T) σ (upd H T (.tup [.int (i : Nat), x]))) (hd : ∀ σ H, Pv xs.length σ H → D.nx σ H) : ForR (IteT K a) g tb D σ H := for_enumT Pv h0 hl hs hd
theorem r_iL {tl : TE} {R : It → Hp → Prop} (q : tl σ H fun x H1 => ∃ a, x = .ref a ∧ (∃ xs, SqL K H1 a xs) ∧ R (Itl K a) H1) : iList K tl σ H R := q
theorem r_iLv {a : Addr} {xs : List V} {R : It → Hp → Prop} (h : SqL K H a xs) (q : R (Itl K a) H) : ∃ a', V.ref a = .ref a' ∧ (∃ xs, SqL K H a' xs) ∧ R (Itl K a') H := ⟨a, rfl, ⟨xs, h⟩, q⟩
theorem r_iT {tl : TE} {R : It → Hp → Prop} (q : tl σ H fun x H1 => ∃ a, x = .ref a ∧ (∃ xs, SqT K H1 a xs) ∧ R (Itt K a) H1) : iTup K tl σ H R := q
theorem r_iE {tA : TA} {R : It → Hp → Prop} (q : tA σ H fun vs H1 => ∃ a xs, vs = [.ref a] ∧ SqT K H1 a xs ∧ R (IteT K a) H1) : iEnumT K tA σ H R := q
theorem r_iEv {a : Addr} {xs : List V} {R : It → Hp → Prop} (h : SqT K H a xs) (q : R (IteT K a) H) : ∃ a' xs', [V.ref a] = [.ref a'] ∧ SqT K H a' xs' ∧ R (IteT K a') H := ⟨a, xs, rfl, h, q⟩
/-- a list comprehension behind its first word -/
def LcR (J : It) (g : TG) (tt : TT) (te : TE) (vs : List Nat) (σ : L2.St) (Q : VK) (H1 : Hp) : Prop := ∀ D, H1 D = none → ∃ W : Nat → Nat → Hp → Prop, (∃ m, W 0 m (upd H1 D (.lst []))) ∧ ∀ i m H, W i m H →
  (J.stop i H ∧ Q (.ref D) H) ∨ (J.go i H ∧ ∃ Nx : Hp → Prop, (∀ H', Nx H' → ∃ m', m' < m ∧ W (i + 1) m' H') ∧ ∀ x H', J.yld i H x H' → g x (wipe σ vs) H' fun σ2 H2 => wipe σ2 vs = wipe σ vs ∧ tt σ2 H2 fun b H3 =>
    if b = true then te σ2 H3 fun y H4 => ∃ acc, H4 D = some (.lst acc) ∧ acc.length < sizeLine ∧ Nx (upd H4 D (.lst (acc ++ [y]))) else Nx H3)
theorem r_lc {wi : TI} {g : TG} {tt : TT} {vs : List Nat} (q : wi σ H fun J H1 => LcR J g tt te vs σ Q H1) : tLc wi g tt te vs σ H Q := q
theorem r_lc1 {wi : TI} {g : TG} {tt : TT} {x1 : Str} {k1 : Nat} (q : wi σ H fun J H1 => LcR J g tt te [k1] σ Q H1) : tLc wi g tt te (List.map (fun x => x.snd) [(x1, k1)]) σ H Q := q
theorem r_lc2 {wi : TI} {g : TG} {tt : TT} {x1 x2 : Str} {k1 k2 : Nat} (q : wi σ H fun J H1 => LcR J g tt te [k1, k2] σ Q H1) : tLc wi g tt te (List.map (fun x => x.snd) [(x1, k1), (x2, k2)]) σ H Q := q
theorem r_lc3 {wi : TI} {g : TG} {tt : TT} {x1 x2 x3 : Str} {k1 k2 k3 : Nat} (q : wi σ H fun J H1 => LcR J g tt te [k1, k2, k3] σ Q H1) : tLc wi g tt te (List.map (fun x => x.snd) [(x1, k1), (x2, k2), (x3, k3)]) σ H Q := q
theorem wipe1 {j : Nat} (v : V) : (wipe σ [j]).set j (some v) = σ.set j (some v) := by
  simp [wipe, List.set_set]
theorem wipe1' {j : Nat} (v : V) : wipe ((wipe σ [j]).set j (some v)) [j] = wipe σ [j] := by
  simp [wipe, List.set_set]
theorem wipe2 {i j : Nat} (n : i ≠ j) (a b : Option V) : ((wipe σ [i, j]).set i a).set j b = (σ.set i a).set j b := by
  show (((σ.set j none).set i none).set i a).set j b = _
  rw [List.set_set, List.set_comm _ _ n.symm, List.set_set]
theorem wipe2' {i j : Nat} (n : i ≠ j) (a b : Option V) : wipe ((σ.set i a).set j b) [i, j] = wipe σ [i, j] := by
  show (((σ.set i a).set j b).set j none).set i none = (σ.set j none).set i none
  rw [List.set_set, List.set_comm _ _ n, List.set_set]
/-- the word of a list comprehension's turn: the list so far -/
def LcP (H1 : Hp) (D : Addr) (R : Nat → V → Hp → Prop) (i : Nat) (H : Hp) : Prop := ∃ ys, H D = some (.lst ys) ∧ ys.length = i ∧ Same H1 H ∧ ∀ j y, ys[j]? = some y → R j y H
theorem lcP_0 {D : Addr} {R : Nat → V → Hp → Prop} (h : H1 D = none) : LcP H1 D R 0 (upd H1 D (.lst [])) := ⟨[], upd_same, rfl, same_new h, fun j y e => by simp at e⟩
theorem lcP_step {D : Addr} {R : Nat → V → Hp → Prop} (hR : ∀ i v, Stab (R i v)) {i n : Nat} (hn : n ≤ sizeLine) (hi : i < n) {H4 : Hp} (h0 : H1 D = none) (h : LcP H1 D R i H) (s : Same H H4) (r : R i y H4) :
    ∃ acc, H4 D = some (.lst acc) ∧ acc.length < sizeLine ∧ LcP H1 D R (i + 1) (upd H4 D (.lst (acc ++ [y]))) := by
  obtain ⟨ys, e, l, s1, hr⟩ := h
  refine ⟨ys, s _ _ e, by omega, _, upd_same, by simp [l], same_mut (sameT s1 s) h0, fun j z ez => ?_⟩
  refine (hR j z).2 _ _ _ _ ?_ (s _ _ e)
  rcases Nat.lt_trichotomy j ys.length with lt | eq | gt
  · rw [List.getElem?_append_left lt] at ez
    exact (hR j z).1 _ _ (hr j z ez) s
  · subst eq
    rw [List.getElem?_append_right (Nat.le_refl _)] at ez
    simp at ez
    subst ez
    rw [l]
    exact r
  · rw [List.getElem?_eq_none (by simp; omega)] at ez
    cases ez
theorem tYes_of {F : Hp → Prop} {Z : VK} (h : te σ H Z) : tYes σ H fun b H3 => if b = true then te σ H3 Z else F H3 := by
  show if true = true then te σ H Z else F H
  exact iteT h
theorem lcN_range {lo : Int} {n j : Nat} {vs : List Nat} (R : Nat → V → Hp → Prop) (hR : ∀ i v, Stab (R i v)) (hn : n ≤ sizeLine) (hw : ∀ v, wipe ((wipe σ vs).set j (some v)) vs = wipe σ vs)
    (hs : ∀ i H' (Z : VK), i < n → Same H1 H' → (∀ y H4, Same H' H4 → R i y H4 → Z y H4) → te ((wipe σ vs).set j (some (.int (lo + i)))) H' Z)
    (hd : ∀ D H' ys, H1 D = none → Same H1 H' → H' D = some (.lst ys) → ys.length = n → (∀ i y, ys[i]? = some y → R i y H') → Q (.ref D) H') :
    LcR (Itr lo n) (gName j) tYes te vs σ Q H1 := fun D hD =>
  lc_range (LcP H1 D R) (lcP_0 hD) (fun i H' hi p => ⟨hw _, tYes_of (hs i H' _ hi p.choose_spec.2.2.1 fun y H4 s r => lcP_step hR hn hi hD p s r)⟩) fun H' p => by
    obtain ⟨ys, e, l, s, hr⟩ := p
    exact hd D H' ys hD s e l hr
theorem lcN_list {a : Addr} {xs : List V} {j : Nat} {vs : List Nat} (R : Nat → V → Hp → Prop) (hR : ∀ i v, Stab (R i v)) (hl : H1 a = some (.lst xs)) (hn : xs.length ≤ sizeLine) (hw : ∀ v, wipe ((wipe σ vs).set j (some v)) vs = wipe σ vs)
    (hs : ∀ i x H' (Z : VK), xs[i]? = some x → Same H1 H' → (∀ y H4, Same H' H4 → R i y H4 → Z y H4) → te ((wipe σ vs).set j (some x)) H' Z)
    (hd : ∀ D H' ys, H1 D = none → Same H1 H' → H' D = some (.lst ys) → ys.length = xs.length → (∀ i y, ys[i]? = some y → R i y H') → Q (.ref D) H') :
    LcR (Itl K a) (gName j) tYes te vs σ Q H1 := fun D hD =>
  lc_list (xs := xs) (LcP H1 D R) (lcP_0 hD) (fun i H' hi p => sqL_same hl p.choose_spec.2.2.1) (fun i x H' hx p => ⟨hw _, tYes_of (hs i x H' _ hx p.choose_spec.2.2.1 fun y H4 s r => lcP_step hR hn (List.getElem?_eq_some_iff.mp hx).1 hD p s r)⟩) fun H' p => by
    obtain ⟨ys, e, l, s, hr⟩ := p
    exact hd D H' ys hD s e l hr
theorem lcN_tup {a : Addr} {xs : List V} {j : Nat} {vs : List Nat} (R : Nat → V → Hp → Prop) (hR : ∀ i v, Stab (R i v)) (hl : SqT K H1 a xs) (hn : xs.length ≤ sizeLine) (hw : ∀ v, wipe ((wipe σ vs).set j (some v)) vs = wipe σ vs)
    (hs : ∀ i x H' (Z : VK), xs[i]? = some x → Same H1 H' → (∀ y H4, Same H' H4 → R i y H4 → Z y H4) → te ((wipe σ vs).set j (some x)) H' Z)
    (hd : ∀ D H' ys, H1 D = none → Same H1 H' → H' D = some (.lst ys) → ys.length = xs.length → (∀ i y, ys[i]? = some y → R i y H') → Q (.ref D) H') :
    LcR (Itt K a) (gName j) tYes te vs σ Q H1 := fun D hD =>
  lc_tup (xs := xs) (LcP H1 D R) (lcP_0 hD) (fun i H' hi p => same_sqT p.choose_spec.2.2.1 hl) (fun i x H' hx p => ⟨hw _, tYes_of (hs i x H' _ hx p.choose_spec.2.2.1 fun y H4 s r => lcP_step hR hn (List.getElem?_eq_some_iff.mp hx).1 hD p s r)⟩) fun H' p => by
    obtain ⟨ys, e, l, s, hr⟩ := p
    exact hd D H' ys hD s e l hr
/-- a list of ints, its items by their places -/
theorem ints_of {ys : List V} {n : Nat} {f : Nat → Int} (l : ys.length = n) (h : ∀ (i : Nat) (y : V), ys[i]? = some y → y = V.int (f i)) : ys = ((List.range n).map f).map V.int := by
  subst l
  refine List.ext_getElem? fun i => ?_
  by_cases lt : i < ys.length
  · rw [List.getElem?_eq_getElem lt]
    rw [h i _ (List.getElem?_eq_getElem lt)]
    simp [lt]
  · rw [List.getElem?_eq_none (by omega), List.getElem?_eq_none (by simp; omega)]
/-! ### whiles -/
theorem r_while {tt : TT} {tb : TS} (q : ∃ W : Nat → L2.St → Hp → Prop, (∃ m, W m σ H) ∧ ∀ m σ H, W m σ H →
  tt σ H fun b H1 => if b = true then ∃ N : L2.St → Hp → Prop, (∀ σ' H', N σ' H' → ∃ m', m' < m ∧ W m' σ' H') ∧ tb { D with nx := N, ct := N, bk := D.nx } σ H1 else D.nx σ H1) : tWhile tt tb D σ H := q
/-! ### slices, sums -/
theorem r_revL {a : Addr} {xs : List V} (h : SqL K H a xs) (q : ∀ p, H p = none → Q (.ref p) (upd H p (.lst xs.reverse))) : ∃ a' ys, V.ref a = .ref a' ∧ SqL K H a' ys ∧ ∀ p, H p = none → Q (.ref p) (upd H p (.lst ys.reverse)) := ⟨a, xs, rfl, h, q⟩
theorem at_m1 {xs : List V} (l : xs[xs.length - 1]? = some v) : atI xs (-1) = some v := by
  have lt := (List.getElem?_eq_some_iff.mp l).1
  unfold atI ixN
  have e : (-1 : Int) + (xs.length : Nat) = ((xs.length - 1 : Nat) : Int) := by omega
  have c : 1 ≤ ((xs.length : Nat) : Int) := by omega
  simp only [Int.reduceNeg, Int.reduceLE, reduceIte, Int.neg_le_neg_iff, if_pos c, e, Int.toNat_natCast, Option.bind_some]
  exact l
theorem r_rev (q : te σ H fun x H1 => ∃ a xs, x = .ref a ∧ SqL K H1 a xs ∧ ∀ p, H1 p = none → Q (.ref p) (upd H1 p (.lst xs.reverse))) : tRevL K te σ H Q := q
theorem r_sl {r : V → Option Int → Option Int → Hp → VK → Prop} {tl th : TO} (q : te σ H fun x H1 => tl σ H1 fun l H2 => th σ H2 fun u H3 => r x l u H3 Q) : tSl r te tl th σ H Q := q
def PartR (Q : Option Int → Hp → Prop) (x : V) (H1 : Hp) : Prop := ∃ i, x = .int i ∧ Q (some i) H1
theorem r_part {Q : Option Int → Hp → Prop} (q : te σ H (PartR Q)) : tPart te σ H Q := q
theorem r_pi {Q : Option Int → Hp → Prop} {i : Int} (q : Q (some i) H) : PartR Q (.int i) H := ⟨i, rfl, q⟩
theorem r_noPart {Q : Option Int → Hp → Prop} (q : Q none H) : tNoPart σ H Q := q
theorem cutV_take {xs : List V} (k : Nat) : cutV xs none (some (k : Int)) = xs.take k := by
  unfold cutV
  rw [HT.sIx_nat, HT.sIx_none]
  simp only [List.drop_zero, Nat.sub_zero]
  by_cases h : k ≤ xs.length
  · rw [Nat.min_eq_left h]
  · rw [Nat.min_eq_right (by omega), List.take_of_length_le (Nat.le_refl _), List.take_of_length_le (by omega)]
theorem cutV_drop {xs : List V} (k : Nat) : cutV xs (some (k : Int)) none = xs.drop k := by
  unfold cutV
  rw [HT.sIx_nat, HT.sIx_none]
  by_cases h : k ≤ xs.length
  · rw [Nat.min_eq_left h, List.take_of_length_le (by simp)]
  · rw [Nat.min_eq_right (by omega), List.drop_of_length_le (Nat.le_refl _), List.drop_of_length_le (by omega)]
    simp
theorem cutV_mid {xs : List V} (j k : Nat) (h : k ≤ xs.length) : cutV xs (some (j : Int)) (some (k : Int)) = (xs.take k).drop j := by
  unfold cutV
  rw [HT.sIx_nat, HT.sIx_nat, Nat.min_eq_left h, List.drop_take]
  by_cases hj : j ≤ xs.length
  · rw [Nat.min_eq_left hj]
  · rw [Nat.min_eq_right (by omega), List.drop_of_length_le (Nat.le_refl _), List.drop_of_length_le (by omega)]
    simp
theorem r_slL {a : Addr} {xs : List V} {lo hi : Option Int} (h : SqL K H a xs) (q : ∀ p, H p = none → Q (.ref p) (upd H p (.lst (cutV xs lo hi)))) : rSlL K (.ref a) lo hi H Q := ⟨a, xs, rfl, h, q⟩
theorem r_cat {a b : Addr} {xs ys : List V} (h : H a = some (.lst xs)) (k : H b = some (.lst ys)) (l : xs.length + ys.length ≤ sizeLine) (q : ∀ p, H p = none → Q (.ref p) (upd H p (.lst (xs ++ ys)))) : rCat (.ref a) (.ref b) H Q := ⟨a, b, xs, ys, rfl, rfl, h, k, l, q⟩
theorem r_catA {a b : Addr} {xs ys : List V} (h : SqT K H a xs) (k : SqT K H b ys) (l : xs.length + ys.length ≤ sizeLine) (q : ∀ p H', Same H H' → SqT K H' p (xs ++ ys) → Q (.ref p) H') : rCatA K (.ref a) (.ref b) H Q := by
  refine ⟨a, b, xs, ys, rfl, rfl, h, k, l, fun e => ?_, fun _ e => ?_, fun _ _ p hp => ?_⟩
  · subst e
    exact q b H sameR k
  · subst e
    exact q a H sameR (by rw [List.append_nil]; exact h)
  · exact q p _ (same_new hp) (sqT_at upd_same)
theorem r_slA {a : Addr} {xs : List V} {lo hi : Option Int} (h : SqT K H a xs) (q : ∀ p H', Same H H' → SqT K H' p (cutV xs lo hi) → Q (.ref p) H') : rSlA K (.ref a) lo hi H Q := by
  refine ⟨a, xs, rfl, h, fun e => ?_, fun _ p hp => ?_⟩
  · refine q a H sameR ?_
    have z : cutV xs lo hi = xs := by
      unfold cutV
      rw [e.1, e.2]
      simp
    rw [z]
    exact h
  · exact q p _ (same_new hp) (sqT_at upd_same)
theorem iN' {p : Prop} [Decidable p] {B : Prop} {A : Prop} (h : p) (q : B) : if (!decide p) = true then A else B := i2n (fun z => absurd h z) fun _ => q
theorem iY' {p : Prop} [Decidable p] {B : Prop} {A : Prop} (h : ¬ p) (q : A) : if (!decide p) = true then A else B := i2n (fun _ => q) fun z => absurd z h
theorem none_of_same {H H' : Hp} {p : Addr} (s : Same H H') (h : H' p = none) : H p = none := by
  cases e : H p with
  | none => rfl
  | some o => exact absurd (h.symm.trans (s _ _ e)) (by simp)
/-- a class's constant, by values -/
def CvR (K : PySem.W.Frag) (f : Str) (Q : VK) (x : V) (H1 : Hp) : Prop := ∃ C mc v u, x = .ref C ∧ ClX.CRead K C mc ∧ ClX.CVal K C mc f v u ∧ Q v H1
theorem r_cval {tc : TE} {f : Str} (q : tc σ H (CvR K f Q)) : ClX.tCVal K tc f σ H Q := q
theorem r_cvalR {f : Str} {C : Addr} {mc : Value} {v : V} (h : ClX.CRead K C mc ∧ ∃ u, ClX.CVal K C mc f v u) (q : Q v H) : CvR K f Q (.ref C) H :=
  let ⟨a, u, b⟩ := h; ⟨C, mc, v, u, rfl, a, b, q⟩
theorem r_augS {to ti : TE} {g : V → V → Hp → VK → Prop} {tip : TIp} {ts : TSet} (q : to σ H fun o H1 => ti σ H1 fun i H2 => g o i H2 fun x H3 => te σ H3 fun y H4 => tip x y H4 fun z H5 => ts o i z H5 fun H6 => D.nx σ H6) : tAugS to ti te g tip ts D σ H := q
/-! ### stores -/
theorem r_gsub {to ti : TE} {ts : TSet} {Q : L2.St → Hp → Prop} (q : to σ H fun o H1 => ti σ H1 fun i H2 => ts o i v H2 fun H3 => Q σ H3) : gSub to ti ts v σ H Q := q
theorem r_setL {p : Addr} {xs : List V} {k : Int} {j : Nat} {Q : Hp → Prop} (h : H p = some (.lst xs)) (e : k = (j : Int)) (l : j < xs.length) (q : Q (upd H p (.lst (xs.set j v)))) : rSetL (.ref p) (.int k) v H Q := by
  subst e
  refine ⟨p, xs, _, j, rfl, rfl, h, ?_, q⟩
  unfold ixN
  rw [if_pos (by omega), if_pos (by omega)]
  rfl
/-! ### == of plain data -/
theorem dpAll_ints : ∀ ns : List Int, DpAll K H (ns.map V.int) (ns.map PyData.int)
  | [] => .nil
  | n :: ns => .cons (.int n) (dpAll_ints ns)
theorem lay_ints : ∀ ns : List Int, PyData.canLayAll0 (ns.map PyData.int) = true ∧ PyData.depthAll (ns.map PyData.int) = 0
  | [] => ⟨rfl, rfl⟩
  | n :: ns => by
    obtain ⟨h1, h2⟩ := lay_ints ns
    constructor
    · show (true && PyData.canLayAll0 (ns.map PyData.int)) = true
      rw [h1]
      rfl
    · show max 0 (PyData.depthAll (ns.map PyData.int)) = 0
      rw [h2]
      rfl
theorem shaped_tupI (ns : List Int) : SeqAt.shaped (.tuple (ns.map PyData.int)) = true := by
  obtain ⟨h1, h2⟩ := lay_ints ns
  show (PyData.canLayAll0 (ns.map PyData.int) && decide (PyData.depthAll (ns.map PyData.int) + 1 ≤ 64)) = true
  rw [h1, h2]
  rfl
theorem shaped_lstI (ns : List Int) : SeqAt.shaped (.list (ns.map PyData.int)) = true := shaped_tupI ns
theorem eqvAll_ints : ∀ ns ms : List Int, PyData.eqvAll (ns.map PyData.int) (ms.map PyData.int) = decide (ns = ms)
  | [], [] => by simp [PyData.eqvAll]
  | [], _ :: _ => by simp [PyData.eqvAll]
  | _ :: _, [] => by simp [PyData.eqvAll]
  | n :: ns, m :: ms => by
    have e := eqvAll_ints ns ms
    simp only [List.map_cons, PyData.eqvAll, e]
    by_cases h : n = m <;> by_cases k : ns = ms <;> simp [PyData.eqv, h, k]
theorem eqv_tupI (ns ms : List Int) : PyData.eqv (.tuple (ns.map PyData.int)) (.tuple (ms.map PyData.int)) = decide (ns = ms) := by
  rw [← eqvAll_ints]
  simp only [PyData.eqv]
theorem eqv_lstI (ns ms : List Int) : PyData.eqv (.list (ns.map PyData.int)) (.list (ms.map PyData.int)) = decide (ns = ms) := by
  rw [← eqvAll_ints]
  simp only [PyData.eqv]
theorem r_eqTI {a b : Addr} {ns ms : List Int} (h : SqT K H a (ns.map V.int)) (k : SqT K H b (ms.map V.int)) (q : Q (.bl (decide (ns = ms))) H) : rEqD K (.ref a) (.ref b) H Q :=
  ⟨_, _, .tup h (dpAll_ints ns), .tup k (dpAll_ints ms), shaped_tupI ns, shaped_tupI ms, by rw [eqv_tupI]; exact q⟩
theorem r_eqD {d e : PyData} (h : Dp K H x d) (k : Dp K H y e) (sd : SeqAt.shaped d = true) (se : SeqAt.shaped e = true) (q : Q (.bl (PyData.eqv d e)) H) : rEqD K x y H Q := ⟨d, e, h, k, sd, se, q⟩
/-- all but one place as it was -/
def SameX (p : Addr) (H H' : Hp) : Prop := ∀ b o, b ≠ p → H b = some o → H' b = some o
theorem SameX.tr {p : Addr} {H H' H2 : Hp} (a : SameX p H H') (s : Same H' H2) : SameX p H H2 := fun b o n e => s b o (a b o n e)
theorem SameX.of {p : Addr} {H H' : Hp} (s : Same H H') : SameX p H H' := fun b o _ e => s b o e
theorem SameX.at {p : Addr} {H H' : Hp} {o : HO} (a : SameX p H H') : SameX p H (upd H' p o) := fun b u n e => by
  rw [upd_ne n]
  exact a b u n e
theorem SameX.mut {p q : Addr} {H H' : Hp} {o : HO} (a : SameX p H H') (h : H q = none) : SameX p H (upd H' q o) := fun b u n e => by
  rw [upd_ne (ne_of_none e h)]
  exact a b u n e
theorem SameX.none {p q : Addr} {H H' : Hp} (a : SameX p H H') (n : q ≠ p) (h : H' q = none) : H q = .none := by
  cases e : H q with
  | none => rfl
  | some o => exact absurd (h.symm.trans (a q o n e)) (by simp)
end
end G57
end
section
set_option maxRecDepth 100000
set_option maxHeartbeats 4000000
/-! XAlk: isinstance readings, an index of a list or a tuple, alike data, a law's drawn numbers. -/
namespace G57
open PySem PySem.Spec PyProof.Rows L2
/-- o[i], o a list or a tuple -/
def rIxS (K : PySem.W.Frag) : R2 := fun x i H Q => rIxL K x i H Q ∨ rIxT K x i H Q
section
variable {X : Cx} {K : PySem.W.Frag} {H : Hp} {Q : VK} {x : V}
theorem ix_any : IxR X (rIxS X.K) := fun value slice pins s σ H x y v u Q I rx ry h hs => by
  rcases h with h | h
  · exact ix_list value slice pins s σ H x y v u Q I rx ry h hs
  · exact ix_tup value slice pins s σ H x y v u Q I rx ry h hs
theorem tyx_int {i : Int} : TyX K H (.int i) (.type "int") := .base (.int i)
theorem tyx_non : TyX K H .non (.type "NoneType") := .base .non
theorem tyx_bl {b : Bool} : TyX K H (.bl b) (.type "bool") := .base (.bl b)
theorem tyx_str {b : Str} : TyX K H (.str b) (.type "str") := .base (.str b)
theorem tyx_sqL {a : Addr} {xs : List V} (h : SqL K H a xs) : TyX K H (.ref a) (.type "list") := by
  rcases h with (h | ⟨o, h⟩) | ⟨o, its, n, h, c, _⟩
  · exact .base (.lst h)
  · exact .base (.frz h)
  · exact .kList h c
theorem tyx_sqT {a : Addr} {xs : List V} (h : SqT K H a xs) : TyX K H (.ref a) (.type "tuple") := by
  rcases h with (h | ⟨o, h⟩) | ⟨o, its, n, h, c, _⟩
  · exact .base (.tup h)
  · exact .fTuple h
  · exact .kTuple h c
theorem r_isi {t c : String} {b : Bool} (h : TyX K H x (.type t)) (k : kitB t c = some b) (q : Q (.bl b) H) : rIsi K [x, .ty c] H Q := ⟨x, .ty c, .type t, .type c, b, rfl, .ty c, h, kit_ty k, q⟩
theorem r_isi2 {t c d : String} {b1 b2 : Bool} {p : Addr} (hp : H p = some (.tup [.ty c, .ty d])) (h : TyX K H x (.type t)) (k1 : kitB t c = some b1) (k2 : kitB t d = some b2) (q : Q (.bl (b1 || b2)) H) : rIsiT K [x, .ref p] H Q :=
  ⟨x, p, [.ty c, .ty d], .type t, [.type c, .type d], b1 || b2, rfl, hp, .cons (.ty c) (.cons (.ty d) .nil), h, kitAny_cons (kit_ty k1) (fun e => by
    subst e
    refine kitAny_cons (kit_ty k2) (fun e => ?_) (fun e => ?_)
    · subst e
      exact kitAny_nil
    · subst e
      rfl) (fun e => by
    subst e
    rfl), q⟩
theorem r_eqS {y : V} (h : scal x y = true) (q : Q (.bl (decide (x = y))) H) : rEq x y H Q := ⟨h, q⟩
theorem r_neS {y : V} (h : scal x y = true) (q : Q (.bl (!decide (x = y))) H) : rNe x y H Q := ⟨h, q⟩
end
/-- a value without parts -/
inductive Flt : V → Prop where
  | int (i : Int) : Flt (.int i)
  | non : Flt .non
  | bl (b : Bool) : Flt (.bl b)
/-- alike, one nesting above A -/
def AlkS (K : PySem.W.Frag) (A : Hp → V → V → Prop) (H : Hp) (x y : V) : Prop := (x = y ∧ Flt x) ∨ ∃ (a b : Addr) (xs ys : List V), x = .ref a ∧ y = .ref b ∧ ((SqL K H a xs ∧ SqL K H b ys) ∨ (SqT K H a xs ∧ SqT K H b ys)) ∧ xs.length = ys.length ∧ xs.length ≤ 100000 ∧ ∀ (i : Nat) u v, xs[i]? = some u → ys[i]? = some v → A H u v
/-- alike: the same numbers, lists and tuples of them, of nesting at most n -/
def AlkD (K : PySem.W.Frag) : Nat → Hp → V → V → Prop
  | 0 => AlkS K fun _ _ _ => False
  | n + 1 => AlkS K (AlkD K n)
theorem same_sqL {K : PySem.W.Frag} {H H' : Hp} {a : Addr} {xs : List V} (e : Same H H') (h : SqL K H a xs) : SqL K H' a xs := by
  rcases h with (h | ⟨o, h⟩) | h
  · exact .inl (.inl (e _ _ h))
  · exact .inl (.inr ⟨o, e _ _ h⟩)
  · exact .inr h
theorem AlkS.mono {K : PySem.W.Frag} {A : Hp → V → V → Prop} (ha : ∀ H H' x y, A H x y → Same H H' → A H' x y) {H H' : Hp} {x y : V} (h : AlkS K A H x y) (s : Same H H') : AlkS K A H' x y := by
  rcases h with h | ⟨a, b, xs, ys, e1, e2, h, l, l2, k⟩
  · exact .inl h
  · refine .inr ⟨a, b, xs, ys, e1, e2, ?_, l, l2, fun i u v h1 h2 => ha _ _ _ _ (k i u v h1 h2) s⟩
    rcases h with h | h
    · exact .inl ⟨same_sqL s h.1, same_sqL s h.2⟩
    · exact .inr ⟨same_sqT s h.1, same_sqT s h.2⟩
theorem AlkD.mono {K : PySem.W.Frag} : ∀ (n : Nat) (H H' : Hp) (x y : V), AlkD K n H x y → Same H H' → AlkD K n H' x y
  | 0, _, _, _, _, h, s => AlkS.mono (fun _ _ _ _ z _ => z) h s
  | n + 1, _, _, _, _, h, s => AlkS.mono (AlkD.mono n) h s
theorem r_eqSelf {K : PySem.W.Frag} {H : Hp} {Q : VK} {x y : V} {d : PyData} (h : Dp K H x d) (h2 : Dp K H y d) (s : SeqAt.shaped d = true) (e : PyData.eqv d d = true) (q : Q (.bl true) H) : rEqD K x y H Q := ⟨d, d, h, h2, s, s, by rw [e]; exact q⟩
theorem r_neSelf {K : PySem.W.Frag} {H : Hp} {Q : VK} {x y : V} {d : PyData} (h : Dp K H x d) (h2 : Dp K H y d) (s : SeqAt.shaped d = true) (e : PyData.eqv d d = true) (q : Q (.bl false) H) : rNeD K x y H Q := ⟨d, d, h, h2, s, s, by rw [e]; exact q⟩
/-- [] != [] -/
theorem r_neNil {K : PySem.W.Frag} {H : Hp} {Q : VK} {p : Addr} (hp : H p = some (.lst [])) (q : ∀ H', Same H H' → Q (.bl false) H') : NwL (fun y H2 => rNeD K (.ref p) y H2 Q) [] H := r_nwL (Nat.le_of_ble_eq_true rfl) fun l hl =>
  r_neSelf (d := .list []) (.lst (sqL_at ((same_new hl) _ _ hp)) .nil) (.lst (sqL_at upd_same) .nil) (by rfl) (by simp [PyData.eqv, PyData.eqvAll]) (q _ (same_new hl))
/-- a list, a tuple, by its type's name -/
def SqN (K : PySem.W.Frag) (t : String) (H : Hp) (a : Addr) (xs : List V) : Prop := (t = "list" ∧ SqL K H a xs) ∨ (t = "tuple" ∧ SqT K H a xs)
theorem SqN.ty {K : PySem.W.Frag} {t : String} {H : Hp} {a : Addr} {xs : List V} (h : SqN K t H a xs) : TyX K H (.ref a) (.type t) := by
  rcases h with ⟨rfl, h⟩ | ⟨rfl, h⟩
  · exact tyx_sqL h
  · exact tyx_sqT h
theorem SqN.mono {K : PySem.W.Frag} {t : String} {H H' : Hp} {a : Addr} {xs : List V} (h : SqN K t H a xs) (s : Same H H') : SqN K t H' a xs := by
  rcases h with ⟨e, h⟩ | ⟨e, h⟩
  · exact .inl ⟨e, same_sqL s h⟩
  · exact .inr ⟨e, same_sqT s h⟩
theorem r_lenN {K : PySem.W.Frag} {t : String} {H : Hp} {a : Addr} {xs : List V} {Q : VK} (h : SqN K t H a xs) (q : Q (.int xs.length) H) : rLenQ K [V.ref a] H Q := by
  rcases h with ⟨_, h⟩ | ⟨_, h⟩
  · exact r_lenL h q
  · exact r_lenT h q
theorem r_ixN {K : PySem.W.Frag} {t : String} {H : Hp} {a : Addr} {xs : List V} {Q : VK} {v : V} {i : Int} {j : Nat} (h : SqN K t H a xs) (e : i = (j : Int)) (l : xs[j]? = some v) (q : Q v H) : rIxS K (.ref a) (.int i) H Q := by
  rcases h with ⟨_, h⟩ | ⟨_, h⟩
  · exact .inl (r_ixL h e l q)
  · exact .inr (r_ixT h e l q)
/-! ### a law's drawn numbers -/
/-- the list that draws: its number, the script's copy, its count -/
def Hat (H : Hp) (h l : Addr) : Prop := ∃ (m c : Int) (xs : List Int), H h = some (.lst [.int m, .ref l, .int c]) ∧ H l = some (.lst (xs.map V.int)) ∧ h ≠ l ∧ 0 ≤ m ∧ m < 2147483647 ∧ 0 ≤ c ∧ xs.length ≤ 63
theorem Hat.mono {H H' : Hp} {h l : Addr} (a : Hat H h l) (s : Same H H') : Hat H' h l := by
  obtain ⟨m, c, xs, e1, e2, r⟩ := a
  exact ⟨m, c, xs, s _ _ e1, s _ _ e2, r⟩
/-- all but the drawing list and its script stay -/
def SameD (h l : Addr) (H H' : Hp) : Prop := ∀ b o, b ≠ h → b ≠ l → H b = some o → H' b = some o
theorem sameD_of {h l : Addr} {H H' : Hp} (s : Same H H') : SameD h l H H' := fun b o _ _ z => s b o z
theorem SameD.tr {h l : Addr} {H H' H2 : Hp} (a : SameD h l H H') (b : SameD h l H' H2) : SameD h l H H2 := fun p o n1 n2 z => b p o n1 n2 (a p o n1 n2 z)
theorem SameD.sm {h l : Addr} {H H' H2 : Hp} (a : SameD h l H H') (b : Same H' H2) : SameD h l H H2 := a.tr (sameD_of b)
/-- what H does not hold may change -/
theorem SameD.mut {h l p : Addr} {H H' : Hp} {o : HO} (a : SameD h l H H') (n : H p = none) : SameD h l H (upd H' p o) := fun b u n1 n2 e => by
  rw [upd_ne (ne_of_none e n)]
  exact a b u n1 n2 e
/-- tuples stay -/
theorem SameD.tup {h l p : Addr} {H H' : Hp} {xs : List V} (a : SameD h l H H') (hh : Hat H h l) (e : H p = some (.tup xs)) : H' p = some (.tup xs) := by
  obtain ⟨m, c, ys, e1, e2, _⟩ := hh
  refine a p _ (fun z => ?_) (fun z => ?_) e
  · subst z
    rw [e] at e1
    cases e1
  · subst z
    rw [e] at e2
    cases e2
theorem SameD.sqT {K : PySem.W.Frag} {h l p : Addr} {H H' : Hp} {xs : List V} (a : SameD h l H H') (hh : Hat H h l) (e : SqT K H p xs) : SqT K H' p xs := by
  have ne : ∀ u : HO, H p = some u → (∀ ys, u ≠ .lst ys) → p ≠ h ∧ p ≠ l := fun u e n => by
    obtain ⟨m, c, ys, e1, e2, _⟩ := hh
    constructor
    · intro z
      subst z
      exact n _ (Option.some.inj (e.symm.trans e1))
    · intro z
      subst z
      exact n _ (Option.some.inj (e.symm.trans e2))
  rcases e with (e | ⟨o, e⟩) | e
  · obtain ⟨n1, n2⟩ := ne _ e fun _ z => by cases z
    exact .inl (.inl (a _ _ n1 n2 e))
  · obtain ⟨n1, n2⟩ := ne _ e fun _ z => by cases z
    exact .inl (.inr ⟨o, a _ _ n1 n2 e⟩)
  · exact .inr e
theorem Hat.ne {h l p : Addr} {H : Hp} (hh : Hat H h l) (e : H p = none) : p ≠ h ∧ p ≠ l := by
  obtain ⟨m, c, ys, e1, e2, _⟩ := hh
  constructor
  · intro z
    subst z
    rw [e] at e1
    cases e1
  · intro z
    subst z
    rw [e] at e2
    cases e2
theorem Hat.mut {h l p : Addr} {H : Hp} {o : HO} (hh : Hat H h l) (n : p ≠ h ∧ p ≠ l) : Hat (upd H p o) h l := by
  obtain ⟨m, c, ys, e1, e2, r⟩ := hh
  exact ⟨m, c, ys, by rw [upd_ne n.1.symm]; exact e1, by rw [upd_ne n.2.symm]; exact e2, r⟩
/-! a list of pairs -/
def PairAt (H : Hp) (v : V) (z : Int × Int) : Prop := ∃ p, v = .ref p ∧ H p = some (.tup [.int z.1, .int z.2])
def Pairs (H : Hp) (vs : List V) (l : List (Int × Int)) : Prop := vs.length = l.length ∧ ∀ (i : Nat) v z, vs[i]? = some v → l[i]? = some z → PairAt H v z
theorem Pairs.mono {H H' : Hp} {vs : List V} {l : List (Int × Int)} (h : Pairs H vs l) (s : Same H H') : Pairs H' vs l := ⟨h.1, fun i v z e1 e2 => let ⟨p, e3, e4⟩ := h.2 i v z e1 e2; ⟨p, e3, s _ _ e4⟩⟩
theorem Pairs.mut {H : Hp} {vs : List V} {l : List (Int × Int)} {D : Addr} {zs zs' : List V} (h : Pairs H vs l) (e : H D = some (.lst zs)) : Pairs (upd H D (.lst zs')) vs l := ⟨h.1, fun i v z e1 e2 => let ⟨p, e3, e4⟩ := h.2 i v z e1 e2; ⟨p, e3, Stab.tup.2 _ _ _ _ e4 e⟩⟩
theorem Pairs.snoc {H : Hp} {vs : List V} {l : List (Int × Int)} {v : V} {z : Int × Int} (h : Pairs H vs l) (k : PairAt H v z) : Pairs H (vs ++ [v]) (l ++ [z]) := by
  refine ⟨by simp [h.1], fun i u y e1 e2 => ?_⟩
  rcases Nat.lt_trichotomy i vs.length with lt | eq | gt
  · rw [List.getElem?_append_left lt] at e1
    rw [List.getElem?_append_left (by have := h.1; omega)] at e2
    exact h.2 i u y e1 e2
  · subst eq
    rw [List.getElem?_append_right (Nat.le_refl _)] at e1
    rw [List.getElem?_append_right (by have := h.1; omega)] at e2
    simp at e1
    simp [h.1] at e2
    subst e1 e2
    exact k
  · rw [List.getElem?_eq_none (by simp; omega)] at e1
    cases e1
theorem Pairs.nil {H : Hp} : Pairs H [] [] := ⟨rfl, fun i v z e _ => by simp at e⟩
theorem Pairs.at {H : Hp} {vs : List V} {l : List (Int × Int)} (h : Pairs H vs l) {i : Nat} {v : V} (e : vs[i]? = some v) : ∃ z, l[i]? = some z ∧ PairAt H v z := by
  have lt := (List.getElem?_eq_some_iff.mp e).1
  have lt2 : i < l.length := by have := h.1; omega
  exact ⟨l[i], List.getElem?_eq_getElem lt2, h.2 i v _ e (List.getElem?_eq_getElem lt2)⟩
theorem drop_at {α : Type} : ∀ {l : List α} {i : Nat} {z : α}, l[i]? = some z → l.drop i = z :: l.drop (i + 1)
  | [], _, _, h => by simp at h
  | a :: l, 0, z, h => by
    have e : a = z := by simpa using h
    rw [e]
    rfl
  | a :: l, i + 1, z, h => drop_at (l := l) (i := i) (by simpa using h)
/-! ### comprehensions that keep nothing; that draw -/
section
variable {K : PySem.W.Frag} {σ : L2.St} {H1 : Hp} {Q : VK} {te : TE} {tt : TT}
theorem lcE_list {a : Addr} {xs : List V} {j : Nat} {vs : List Nat} (hl : H1 a = some (.lst xs)) (hw : ∀ v, wipe ((wipe σ vs).set j (some v)) vs = wipe σ vs)
    (hs : ∀ (i : Nat) (x : V) (H' : Hp) (Z : Bool → Hp → Prop), xs[i]? = some x → Same H1 H' → (∀ H4, Same H' H4 → Z false H4) → tt ((wipe σ vs).set j (some x)) H' Z)
    (hd : ∀ D H', H1 D = none → Same H1 H' → H' D = some (.lst []) → Q (.ref D) H') : LcR (Itl K a) (gName j) tt te vs σ Q H1 := fun D hD =>
  lc_list (xs := xs) (fun _ H' => Same H1 H' ∧ H' D = some (.lst [])) ⟨same_new hD, upd_same⟩ (fun i H' hi p => sqL_same hl p.1) (fun i x H' hx p => ⟨hw _, hs i x H' _ hx p.1 fun H4 s => iteF ⟨sameT p.1 s, s _ _ p.2⟩⟩) fun H' p => hd D H' hD p.1 p.2
theorem lcD_range {h l : Addr} {lo : Int} {n j : Nat} {vs : List Nat} (P : Int → Prop) (hat : Hat H1 h l) (hn : n ≤ 1000) (hw : ∀ v, wipe ((wipe σ vs).set j (some v)) vs = wipe σ vs)
    (hs : ∀ i H' (Z : VK), i < n → Hat H' h l → SameD h l H1 H' → (∀ y H4, Hat H4 h l → SameD h l H' H4 → P y → Z (.int y) H4) → te ((wipe σ vs).set j (some (.int (lo + i)))) H' Z)
    (hd : ∀ D H' (ns : List Int), H1 D = none → Hat H' h l → SameD h l H1 H' → H' D = some (.lst (ns.map V.int)) → ns.length = n → (∀ x ∈ ns, P x) → Q (.ref D) H') : LcR (Itr lo n) (gName j) tYes te vs σ Q H1 := fun D hD => by
  have nD := hat.ne hD
  refine lc_range (fun i H' => Hat H' h l ∧ SameD h l H1 H' ∧ ∃ ns : List Int, H' D = some (.lst (ns.map V.int)) ∧ ns.length = i ∧ ∀ x ∈ ns, P x) ⟨hat.mut nD, (sameD_of sameR).mut hD, [], upd_same, rfl, fun x hx => by cases hx⟩ ?_ ?_
  · rintro i H' hi ⟨hat', sd, ns, e, nl, np⟩
    refine ⟨hw _, tYes_of (hs i H' _ hi hat' sd fun y H4 h4 s4 py => ⟨_, s4 _ _ nD.1 nD.2 e, Nat.lt_of_lt_of_le (show _ < 1001 by rw [List.length_map]; omega) (by decide), h4.mut nD, (sd.tr s4).mut hD, ns ++ [y], by rw [upd_same]; simp, by simp [nl], fun x hx => ?_⟩)⟩
    rcases List.mem_append.mp hx with hx | hx
    · exact np x hx
    · rw [List.mem_singleton.mp hx]
      exact py
  · rintro H' ⟨hat', sd, ns, e, nl, np⟩
    exact hd D H' ns hD hat' sd e nl np
end
end G57
end
section
set_option maxRecDepth 100000
set_option maxHeartbeats 4000000
/-! XAuto: readings whose new heaps are letters; facts found by the way back. -/
namespace G57
open PySem PySem.Spec PyProof.Rows L2
section
variable {K : PySem.W.Frag} {σ : L2.St} {H H' H1 : Hp} {Q : VK} {v x y : V} {ta tb tc te : TE} {D : Ends}
theorem at_s {p : Addr} {o : HO} (s : Same H H') (h : H p = some o) : H' p = some o := s _ _ h
theorem at_upd {p q : Addr} {o u : HO} (n : H q = none) (h : H p = some o) : upd H q u p = some o := (same_new n) _ _ h
theorem atd_tup {h l p : Addr} {xs : List V} (s : SameD h l H H') (hat : Hat H h l) (e : H p = some (.tup xs)) : H' p = some (.tup xs) := s.tup hat e
theorem atd_ins {h l p C dx : Addr} {fs : List (Str × V)} (s : SameD h l H H') (hat : Hat H h l) (e : H p = some (.ins C dx fs)) : H' p = some (.ins C dx fs) := by
  obtain ⟨m, c, ys, e1, e2, _⟩ := hat
  refine s p _ (fun z => ?_) (fun z => ?_) e
  · subst z
    rw [e] at e1
    cases e1
  · subst z
    rw [e] at e2
    cases e2
theorem atd_lst {h l p : Addr} {xs : List V} (s : SameD h l H H') (n : p ≠ h ∧ p ≠ l) (e : H p = some (.lst xs)) : H' p = some (.lst xs) := s _ _ n.1 n.2 e
theorem atx_tup {L p : Addr} {xs zs : List V} (s : SameX L H H') (hl : H L = some (.lst zs)) (e : H p = some (.tup xs)) : H' p = some (.tup xs) := s p _ (fun z => by subst z; rw [hl] at e; cases e) e
theorem atx_ins {L p C dx : Addr} {fs : List (Str × V)} {zs : List V} (s : SameX L H H') (hl : H L = some (.lst zs)) (e : H p = some (.ins C dx fs)) : H' p = some (.ins C dx fs) := s p _ (fun z => by subst z; rw [hl] at e; cases e) e
theorem atx_ne {L p : Addr} {o : HO} (s : SameX L H H') (n : p ≠ L) (e : H p = some o) : H' p = some o := s p _ n e
theorem at_id {p : Addr} {o : HO} (h : H p = some o) : H p = some o := h
theorem sqT_id {a : Addr} {xs : List V} (h : SqT K H a xs) : SqT K H a xs := h
theorem hat_id {h l : Addr} (a : Hat H h l) : Hat H h l := a
theorem pairs_id {vs : List V} {l : List (Int × Int)} (a : Pairs H vs l) : Pairs H vs l := a
theorem ne_id {h l p : Addr} (e : p ≠ h ∧ p ≠ l) : p ≠ h ∧ p ≠ l := e
theorem sqL_s {a : Addr} {xs : List V} (s : Same H H') (h : SqL K H a xs) : SqL K H' a xs := same_sqL s h
theorem sqT_s {a : Addr} {xs : List V} (s : Same H H') (h : SqT K H a xs) : SqT K H' a xs := same_sqT s h
theorem sqT_d {h l a : Addr} {xs : List V} (s : SameD h l H H') (hat : Hat H h l) (e : SqT K H a xs) : SqT K H' a xs := s.sqT hat e
theorem sqT_x {L a : Addr} {xs zs : List V} (s : SameX L H H') (hl : H L = some (.lst zs)) (h : SqT K H a xs) : SqT K H' a xs := by
  have ne : ∀ o : HO, H a = some o → (∀ xs, o ≠ .lst xs) → a ≠ L := fun o e n z => by
    subst z
    rw [hl] at e
    exact n _ (Option.some.inj e).symm
  rcases h with (h | ⟨o, h⟩) | h
  · exact .inl (.inl (s _ _ (ne _ h fun _ z => by cases z) h))
  · exact .inl (.inr ⟨o, s _ _ (ne _ h fun _ z => by cases z) h⟩)
  · exact .inr h
theorem hat_s {h l : Addr} (s : Same H H') (a : Hat H h l) : Hat H' h l := a.mono s
theorem pairs_s {vs : List V} {l : List (Int × Int)} (s : Same H H') (a : Pairs H vs l) : Pairs H' vs l := a.mono s
theorem hat_ne {h l p : Addr} (e : H p = none) (hat : Hat H h l) : p ≠ h ∧ p ≠ l := hat.ne e
theorem sameB {H2 : Hp} (b : Same H' H2) (a : Same H H') : Same H H2 := sameT a b
theorem sameDB {h l : Addr} {H2 : Hp} (b : SameD h l H' H2) (a : SameD h l H H') : SameD h l H H2 := a.tr b
theorem sameDS {h l : Addr} {H2 : Hp} (b : Same H' H2) (a : SameD h l H H') : SameD h l H H2 := a.sm b
/-! new objects -/
theorem a_nwT {xs : List V} (h : xs.length ≤ 1000) (q : ∀ p H', Same H H' → H p = none → H' p = some (.tup xs) → Q (.ref p) H') : NwT Q xs H := r_nwT h fun p hp => q p _ (same_new hp) hp upd_same
theorem a_nwL {xs : List V} (h : xs.length ≤ 1000) (q : ∀ p H', Same H H' → H p = none → H' p = some (.lst xs) → Q (.ref p) H') : NwL Q xs H := r_nwL h fun p hp => q p _ (same_new hp) hp upd_same
theorem a_listL {a : Addr} {xs : List V} (h : SqL K H a xs) (q : ∀ p H', Same H H' → H p = none → H' p = some (.lst xs) → Q (.ref p) H') : rListQ K [V.ref a] H Q := r_listL h fun p hp => q p _ (same_new hp) hp upd_same
theorem a_tupL {a : Addr} {xs : List V} (h : SqL K H a xs) (q : ∀ p H', Same H H' → H p = none → H' p = some (.tup xs) → Q (.ref p) H') : rTupLQ K [V.ref a] H Q := r_tupL h fun p hp => q p _ (same_new hp) hp upd_same
theorem a_cat {a b : Addr} {xs ys : List V} (h : H a = some (.lst xs)) (k : H b = some (.lst ys)) (l : xs.length + ys.length ≤ 100000) (q : ∀ p H', Same H H' → H p = none → H' p = some (.lst (xs ++ ys)) → Q (.ref p) H') : rCat (.ref a) (.ref b) H Q :=
  r_cat h k (Nat.le_trans l (by decide)) fun p hp => q p _ (same_new hp) hp upd_same
theorem a_slL {a : Addr} {xs : List V} {lo hi : Option Int} (h : SqL K H a xs) (q : ∀ p H', Same H H' → H p = none → H' p = some (.lst (cutV xs lo hi)) → Q (.ref p) H') : rSlL K (.ref a) lo hi H Q := r_slL h fun p hp => q p _ (same_new hp) hp upd_same
theorem a_revL {a : Addr} {xs : List V} (h : SqL K H a xs) (q : ∀ p H', Same H H' → H p = none → H' p = some (.lst xs.reverse) → Q (.ref p) H') : ∃ a' ys, V.ref a = .ref a' ∧ SqL K H a' ys ∧ ∀ p, H p = none → Q (.ref p) (upd H p (.lst ys.reverse)) := r_revL h fun p hp => q p _ (same_new hp) hp upd_same
theorem a_append {a : Addr} {xs : List V} (h : H a = some (.lst xs)) (l : xs.length < 100000) (q : ∀ H', SameX a H H' → H' a = some (.lst (xs ++ [v])) → Q .non H') : rAppend (.ref a) [v] H Q := r_append h l (q _ (SameX.at (SameX.of sameR)) upd_same)
theorem r_p6 (q : Q (.int 1000000) H) : rI CPow (fun i j => V.int (i ^ j.toNat)) (.int 10) (.int 6) H Q := ⟨10, 6, rfl, rfl, ⟨by decide, by decide, by decide⟩, by
  show Q (.int ((10 : Int) ^ (6 : Int).toNat)) H
  have e : (10 : Int) ^ (6 : Int).toNat = 1000000 := by decide
  rw [e]
  exact q⟩
theorem r_p8 (q : Q (.int 100000000) H) : rI CPow (fun i j => V.int (i ^ j.toNat)) (.int 10) (.int 8) H Q := ⟨10, 8, rfl, rfl, ⟨by decide, by decide, by decide⟩, by
  show Q (.int ((10 : Int) ^ (8 : Int).toNat)) H
  have e : (10 : Int) ^ (8 : Int).toNat = 100000000 := by decide
  rw [e]
  exact q⟩
theorem r_p9 (q : Q (.int 1000000000) H) : rI CPow (fun i j => V.int (i ^ j.toNat)) (.int 10) (.int 9) H Q := ⟨10, 9, rfl, rfl, ⟨by decide, by decide, by decide⟩, by
  show Q (.int ((10 : Int) ^ (9 : Int).toNat)) H
  have e : (10 : Int) ^ (9 : Int).toNat = 1000000000 := by decide
  rw [e]
  exact q⟩
theorem r_p10 (q : Q (.int 10000000000) H) : rI CPow (fun i j => V.int (i ^ j.toNat)) (.int 10) (.int 10) H Q := ⟨10, 10, rfl, rfl, ⟨by decide, by decide, by decide⟩, by
  show Q (.int ((10 : Int) ^ (10 : Int).toNat)) H
  have e : (10 : Int) ^ (10 : Int).toNat = 10000000000 := by decide
  rw [e]
  exact q⟩
theorem r_p12 (q : Q (.int 1000000000000) H) : rI CPow (fun i j => V.int (i ^ j.toNat)) (.int 10) (.int 12) H Q := ⟨10, 12, rfl, rfl, ⟨by decide, by decide, by decide⟩, by
  show Q (.int ((10 : Int) ^ (12 : Int).toNat)) H
  have e : (10 : Int) ^ (12 : Int).toNat = 1000000000000 := by decide
  rw [e]
  exact q⟩
theorem r_p14 (q : Q (.int 100000000000000) H) : rI CPow (fun i j => V.int (i ^ j.toNat)) (.int 10) (.int 14) H Q := ⟨10, 14, rfl, rfl, ⟨by decide, by decide, by decide⟩, by
  show Q (.int ((10 : Int) ^ (14 : Int).toNat)) H
  have e : (10 : Int) ^ (14 : Int).toNat = 100000000000000 := by decide
  rw [e]
  exact q⟩
theorem r_p15 (q : Q (.int 1000000000000000) H) : rI CPow (fun i j => V.int (i ^ j.toNat)) (.int 10) (.int 15) H Q := ⟨10, 15, rfl, rfl, ⟨by decide, by decide, by decide⟩, by
  show Q (.int ((10 : Int) ^ (15 : Int).toNat)) H
  have e : (10 : Int) ^ (15 : Int).toNat = 1000000000000000 := by decide
  rw [e]
  exact q⟩
theorem r_p17 (q : Q (.int 100000000000000000) H) : rI CPow (fun i j => V.int (i ^ j.toNat)) (.int 10) (.int 17) H Q := ⟨10, 17, rfl, rfl, ⟨by decide, by decide, by decide⟩, by
  show Q (.int ((10 : Int) ^ (17 : Int).toNat)) H
  have e : (10 : Int) ^ (17 : Int).toNat = 100000000000000000 := by decide
  rw [e]
  exact q⟩
theorem r_p18 (q : Q (.int 1000000000000000000) H) : rI CPow (fun i j => V.int (i ^ j.toNat)) (.int 10) (.int 18) H Q := ⟨10, 18, rfl, rfl, ⟨by decide, by decide, by decide⟩, by
  show Q (.int ((10 : Int) ^ (18 : Int).toNat)) H
  have e : (10 : Int) ^ (18 : Int).toNat = 1000000000000000000 := by decide
  rw [e]
  exact q⟩
theorem a_lenLI {a : Addr} {ns : List Int} (h : SqL K H a (ns.map V.int)) (q : Q (.int ns.length) H) : rLenQ K [.ref a] H Q := r_lenL h (by rw [List.length_map]; exact q)
theorem a_rng2v {i j : Int} {R : It → Hp → Prop} (h1 : -4611686018427387904 ≤ i) (h2 : i < 4611686018427387904) (h3 : -4611686018427387904 ≤ j) (h4 : j < 4611686018427387904) (q : R (Itr i (j - i).toNat) H) : ∃ i' j' : Int, [V.int i, V.int j] = [.int i', .int j'] ∧ (-(2 ^ 62) ≤ i' ∧ i' < 2 ^ 62 ∧ -(2 ^ 62) ≤ j' ∧ j' < 2 ^ 62) ∧ R (Itr i' (j' - i').toNat) H := ⟨i, j, rfl, ⟨h1, h2, h3, h4⟩, q⟩
theorem a_rng1v {j : Int} {R : It → Hp → Prop} (h1 : -4611686018427387904 ≤ j) (h2 : j < 4611686018427387904) (q : R (Itr 0 j.toNat) H) : ∃ j' : Int, [V.int j] = [.int j'] ∧ -(2 ^ 62) ≤ j' ∧ j' < 2 ^ 62 ∧ R (Itr 0 j'.toNat) H := ⟨j, rfl, h1, h2, q⟩
theorem a_iTv {a : Addr} {xs : List V} {R : It → Hp → Prop} (h : SqT K H a xs) (q : R (Itt K a) H) : ∃ a', V.ref a = .ref a' ∧ (∃ xs, SqT K H a' xs) ∧ R (Itt K a') H := ⟨a, rfl, ⟨xs, h⟩, q⟩
theorem zNF {Z : Bool → Hp → Prop} {p : Prop} [Decidable p] (h : p) (q : Z false H) : Z (!decide p) H := by
  rw [decide_eq_true h]
  exact q
theorem zF {Z : Bool → Hp → Prop} {p : Prop} [Decidable p] (h : ¬ p) (q : Z false H) : Z (decide p) H := by
  rw [decide_eq_false h]
  exact q
theorem zT {Z : Bool → Hp → Prop} {p : Prop} [Decidable p] (h : p) (q : Z true H) : Z (decide p) H := by
  rw [decide_eq_true h]
  exact q
/-! an item of a short list of ints -/
theorem a_pick2 {a : Addr} {p q r : Int} (h : SqL K H a [.int p, .int q]) (r0 : 0 ≤ r) (r1 : r < 2) (k : ∀ z, z = p ∨ z = q → Q (.int z) H) : rIxL K (.ref a) (.int r) H Q := by
  rcases (by omega : r = 0 ∨ r = 1) with e | e <;> subst e
  · exact r_ixL h (j := 0) rfl rfl (k p (.inl rfl))
  · exact r_ixL h (j := 1) rfl rfl (k q (.inr rfl))
theorem a_pick3 {a : Addr} {p q s r : Int} (h : SqL K H a [.int p, .int q, .int s]) (r0 : 0 ≤ r) (r1 : r < 3) (k : ∀ z, z = p ∨ z = q ∨ z = s → Q (.int z) H) : rIxL K (.ref a) (.int r) H Q := by
  rcases (by omega : r = 0 ∨ r = 1 ∨ r = 2) with e | e | e <;> subst e
  · exact r_ixL h (j := 0) rfl rfl (k p (.inl rfl))
  · exact r_ixL h (j := 1) rfl rfl (k q (.inr (.inl rfl)))
  · exact r_ixL h (j := 2) rfl rfl (k s (.inr (.inr rfl)))
theorem a_pick4 {a : Addr} {p q s t r : Int} (h : SqL K H a [.int p, .int q, .int s, .int t]) (r0 : 0 ≤ r) (r1 : r < 4) (k : ∀ z, z = p ∨ z = q ∨ z = s ∨ z = t → Q (.int z) H) : rIxL K (.ref a) (.int r) H Q := by
  rcases (by omega : r = 0 ∨ r = 1 ∨ r = 2 ∨ r = 3) with e | e | e | e <;> subst e
  · exact r_ixL h (j := 0) rfl rfl (k p (.inl rfl))
  · exact r_ixL h (j := 1) rfl rfl (k q (.inr (.inl rfl)))
  · exact r_ixL h (j := 2) rfl rfl (k s (.inr (.inr (.inl rfl))))
  · exact r_ixL h (j := 3) rfl rfl (k t (.inr (.inr (.inr rfl))))
/-! comprehensions over lists of ints -/
theorem lcE_ints {tt : TT} {a : Addr} {xs : List Int} {j : Nat} (hl : H1 a = some (.lst (xs.map V.int)))
    (hs : ∀ (x : Int) (H' : Hp) (Z : Bool → Hp → Prop), x ∈ xs → Same H1 H' → (∀ H4, Same H' H4 → Z false H4) → SetR j (.int x) (fun s => tt s H' Z) σ)
    (hd : ∀ D H', H1 D = none → Same H1 H' → H' D = some (.lst []) → Q (.ref D) H') : LcR (Itl K a) (gName j) tt te [j] σ Q H1 :=
  lcE_list hl wipe1' (fun i x H' Z hx s z => by
    rw [wipe1]
    obtain ⟨y, hy, rfl⟩ : ∃ y, xs[i]? = some y ∧ V.int y = x := by simpa using hx
    exact hs y H' Z (List.mem_of_getElem? hy) s z) hd
/-- a comprehension whose items are ints told by their places -/
theorem lcI_range {lo : Int} {n j : Nat} (f : Nat → Int) (hn : n ≤ 100000)
    (hs : ∀ i H' (Z : VK), i < n → Same H1 H' → (∀ H4, Same H' H4 → Z (.int (f i)) H4) → SetR j (.int (lo + i)) (fun s => te s H' Z) σ)
    (hd : ∀ D H', H1 D = none → Same H1 H' → H' D = some (.lst (((List.range n).map f).map V.int)) → Q (.ref D) H') : LcR (Itr lo n) (gName j) tYes te [j] σ Q H1 :=
  lcN_range (fun i v _ => v = .int (f i)) (fun _ _ => Stab.triv) (Nat.le_trans hn (by decide)) wipe1' (fun i H' Z hi s z => by
    rw [wipe1]
    exact hs i H' Z hi s fun H4 s4 => z _ _ s4 rfl) fun D H' ys hD s e l h => hd D H' hD s (by rw [e, ints_of l h])
theorem map_at {xs : List Int} {ys : List V} {f : Int → Int} (l : ys.length = xs.length) (h : ∀ (i : Nat) (y : V), ys[i]? = some y → ∃ x, xs[i]? = some x ∧ y = V.int (f x)) : ys = (xs.map f).map V.int := by
  refine List.ext_getElem? fun i => ?_
  by_cases lt : i < ys.length
  · obtain ⟨x, hx, e⟩ := h i _ (List.getElem?_eq_getElem lt)
    rw [List.getElem?_eq_getElem lt, e, List.getElem?_map, List.getElem?_map, hx]
    rfl
  · rw [List.getElem?_eq_none (by omega), List.getElem?_eq_none (by simp; omega)]
theorem lcI_list {a : Addr} {xs : List Int} {j : Nat} (f : Int → Int) (hl : H1 a = some (.lst (xs.map V.int))) (hn : xs.length ≤ 100000)
    (hs : ∀ x H' (Z : VK), x ∈ xs → Same H1 H' → (∀ H4, Same H' H4 → Z (.int (f x)) H4) → SetR j (.int x) (fun s => te s H' Z) σ)
    (hd : ∀ D H', H1 D = none → Same H1 H' → H' D = some (.lst ((xs.map f).map V.int)) → Q (.ref D) H') : LcR (Itl K a) (gName j) tYes te [j] σ Q H1 :=
  lcN_list (fun i v _ => ∃ x, xs[i]? = some x ∧ v = .int (f x)) (fun _ _ => Stab.triv) hl (Nat.le_trans (by rw [List.length_map]; exact hn) (by decide : 100000 ≤ sizeLine)) wipe1' (fun i v H' Z hx s z => by
    rw [wipe1]
    obtain ⟨y, hy, rfl⟩ : ∃ y, xs[i]? = some y ∧ V.int y = v := by simpa using hx
    exact hs y H' Z (List.mem_of_getElem? hy) s fun H4 s4 => z _ _ s4 ⟨y, hy, rfl⟩) fun D H' ys hD s e l h => hd D H' hD s (by rw [e, map_at (by rw [l, List.length_map]) h])
theorem lcI_tup {a : Addr} {xs : List Int} {j : Nat} (f : Int → Int) (hl : SqT K H1 a (xs.map V.int)) (hn : xs.length ≤ 100000)
    (hs : ∀ x H' (Z : VK), x ∈ xs → Same H1 H' → (∀ H4, Same H' H4 → Z (.int (f x)) H4) → SetR j (.int x) (fun s => te s H' Z) σ)
    (hd : ∀ D H', H1 D = none → Same H1 H' → H' D = some (.lst ((xs.map f).map V.int)) → Q (.ref D) H') : LcR (Itt K a) (gName j) tYes te [j] σ Q H1 :=
  lcN_tup (fun i v _ => ∃ x, xs[i]? = some x ∧ v = .int (f x)) (fun _ _ => Stab.triv) hl (Nat.le_trans (by rw [List.length_map]; exact hn) (by decide : 100000 ≤ sizeLine)) wipe1' (fun i v H' Z hx s z => by
    rw [wipe1]
    obtain ⟨y, hy, rfl⟩ : ∃ y, xs[i]? = some y ∧ V.int y = v := by simpa using hx
    exact hs y H' Z (List.mem_of_getElem? hy) s fun H4 s4 => z _ _ s4 ⟨y, hy, rfl⟩) fun D H' ys hD s e l h => hd D H' hD s (by rw [e, map_at (by rw [l, List.length_map]) h])
/-- a drawing comprehension: ints that keep a word -/
theorem lcD_ints {h l : Addr} {lo : Int} {n j : Nat} (P : Int → Prop) (hat : Hat H1 h l) (hn : n ≤ 1000)
    (hs : ∀ (i : Nat) H' (Z : VK), i < n → Hat H' h l → SameD h l H1 H' → (∀ y H4, Hat H4 h l → SameD h l H' H4 → P y → Z (.int y) H4) → SetR j (.int (lo + i)) (fun s => te s H' Z) σ)
    (hd : ∀ D H' (ns : List Int), Hat H' h l → SameD h l H1 H' → H1 D = none → H' D = some (.lst (ns.map V.int)) → ns.length = n → (∀ x ∈ ns, P x) → Q (.ref D) H') : LcR (Itr lo n) (gName j) tYes te [j] σ Q H1 :=
  lcD_range P hat hn wipe1' (fun i H' Z a b c d => by
    rw [wipe1]
    exact hs i H' Z a b c d) fun D H' ns a b c d e f => hd D H' ns b c a d e f
/-- a filter over a range that keeps some -/
theorem lcF_range {tt : TT} {lo : Int} {n j : Nat} (p : Nat → Bool) (f : Nat → Int) (hn : n ≤ 100000)
    (ht : ∀ i H' (Z : Bool → Hp → Prop), i < n → Same H1 H' → (∀ H4, Same H' H4 → Z (p i) H4) → SetR j (.int (lo + (i : Nat))) (fun s => tt s H' Z) σ)
    (hs : ∀ i H' (Z : VK), i < n → p i = true → Same H1 H' → (∀ H4, Same H' H4 → Z (.int (f i)) H4) → SetR j (.int (lo + (i : Nat))) (fun s => te s H' Z) σ)
    (hd : ∀ D H', H1 D = none → Same H1 H' → H' D = some (.lst ((((List.range n).filter p).map f).map V.int)) → Q (.ref D) H') : LcR (Itr lo n) (gName j) tt te [j] σ Q H1 := fun D hD => by
  refine lc_range (fun i H' => Same H1 H' ∧ H' D = some (.lst ((((List.range i).filter p).map f).map V.int))) ⟨same_new hD, by rw [upd_same]; rfl⟩ ?_ fun H' p => hd D H' hD p.1 p.2
  rintro i H' hi ⟨s1, e1⟩
  refine ⟨wipe1' _, ?_⟩
  rw [wipe1]
  have len : ((((List.range i).filter p).map f).map V.int).length ≤ i := by
    rw [List.length_map, List.length_map]
    exact Nat.le_trans (List.length_filter_le _ _) (by rw [List.length_range]; exact Nat.le_refl _)
  refine ht i H' _ hi s1 fun H4 s4 => ?_
  have s14 := sameT s1 s4
  have e4 := s4 _ _ e1
  cases hp : p i with
  | false =>
    refine iteF ⟨s14, ?_⟩
    rw [e4, List.range_succ, List.filter_append]
    simp [hp]
  | true =>
    refine iteT (hs i H4 _ hi hp s14 fun H5 s5 => ⟨_, s5 _ _ e4, Nat.lt_of_lt_of_le (show _ < 100001 by omega) (by decide), same_mut (sameT s14 s5) hD, ?_⟩)
    rw [upd_same, List.range_succ, List.filter_append]
    simp [hp]
theorem lcE_range {tt : TT} {lo : Int} {n j : Nat} (hn : n ≤ 100000)
    (ht : ∀ i H' (Z : Bool → Hp → Prop), i < n → Same H1 H' → (∀ H4, Same H' H4 → Z false H4) → SetR j (.int (lo + (i : Nat))) (fun s => tt s H' Z) σ)
    (hd : ∀ D H', H1 D = none → Same H1 H' → H' D = some (.lst []) → Q (.ref D) H') : LcR (Itr lo n) (gName j) tt te [j] σ Q H1 :=
  lcF_range (fun _ => false) (fun _ => 0) hn ht (fun _ _ _ _ z => by cases z) fun D H' hD s e => hd D H' hD s (by
    rw [e]
    simp)
theorem ix_rng {f : Nat → Int} {n i : Nat} (h : i < n) : (((List.range n).map f).map V.int)[i]? = some (.int (f i)) := by
  rw [List.getElem?_map, List.getElem?_map, List.getElem?_range h]
  rfl
/-- a comprehension over a list of pairs -/
theorem lcP_list {a : Addr} {us : List V} {l : List (Int × Int)} {i j : Nat} (R : Nat → V → Hp → Prop) (hR : ∀ i v, Stab (R i v)) (nij : i ≠ j) (hl : H1 a = some (.lst us)) (hp : Pairs H1 us l) (hn : l.length ≤ 100000)
    (hs : ∀ k z H' (Z : VK), l[k]? = some z → Same H1 H' → (∀ y H4, Same H' H4 → R k y H4 → Z y H4) → SetR i (.int z.1) (SetR j (.int z.2) fun s => te s H' Z) σ)
    (hd : ∀ D H' ys, H1 D = none → Same H1 H' → H' D = some (.lst ys) → ys.length = l.length → (∀ k y, ys[k]? = some y → R k y H') → Q (.ref D) H') :
    LcR (Itl K a) (gTup K 2 (gCons (gName i) (gCons (gName j) gNil))) tYes te [i, j] σ Q H1 := fun D hD => by
  have ul : us.length = l.length := hp.1
  refine lc_list (xs := us) (LcP H1 D R) (lcP_0 hD) (fun k H' hk p => sqL_same hl p.choose_spec.2.2.1) (fun k x H' hx p => ?_) fun H' p => by
    obtain ⟨ys, e, le, s, hr⟩ := p
    exact hd D H' ys hD s e (le.trans ul) hr
  have s := p.choose_spec.2.2.1
  obtain ⟨z, hz, q, rfl, hq⟩ := (hp.mono s).at hx
  have lt := (List.getElem?_eq_some_iff.mp hz).1
  refine r_gtup (sqT_at hq) rfl ?_
  refine r_gcons ?_
  refine r_gname ?_
  refine r_setU ?_
  refine r_gcons ?_
  refine r_gname ?_
  refine r_setU ?_
  refine r_gnil ?_
  rw [wipe2 nij]
  refine ⟨wipe2' nij _ _, tYes_of (hs k z H' _ hz s fun y H4 s4 r => lcP_step hR (show l.length ≤ sizeLine from Nat.le_trans hn (by decide)) lt hD p s4 r)⟩
theorem stab_pair {v : V} {z : Int × Int} : Stab fun H => PairAt H v z := Stab.ex fun _ => Stab.and Stab.triv Stab.tup
theorem lcPP_list {a : Addr} {us : List V} {l : List (Int × Int)} {i j : Nat} (f : Int × Int → Int × Int) (nij : i ≠ j) (hl : H1 a = some (.lst us)) (hp : Pairs H1 us l) (hn : l.length ≤ 100000)
    (hs : ∀ z H' (Z : VK), z ∈ l → Same H1 H' → (∀ y H4, Same H' H4 → PairAt H4 y (f z) → Z y H4) → SetR i (.int z.1) (SetR j (.int z.2) fun s => te s H' Z) σ)
    (hd : ∀ D H' ys, H1 D = none → Same H1 H' → H' D = some (.lst ys) → Pairs H' ys (l.map f) → Q (.ref D) H') :
    LcR (Itl K a) (gTup K 2 (gCons (gName i) (gCons (gName j) gNil))) tYes te [i, j] σ Q H1 :=
  lcP_list (fun k v H => ∃ z, l[k]? = some z ∧ PairAt H v (f z)) (fun _ _ => Stab.ex fun _ => Stab.and Stab.triv stab_pair) nij hl hp hn (fun k z H' Z hz s c => hs z H' Z (List.mem_of_getElem? hz) s fun y H4 s4 r => c y H4 s4 ⟨z, hz, r⟩) fun D H' ys hD s e le hr => hd D H' ys hD s e ⟨by rw [le, List.length_map], fun k v z e1 e2 => by
    obtain ⟨z', hz', r⟩ := hr k v e1
    rw [List.getElem?_map, hz'] at e2
    rw [← Option.some.inj e2]
    exact r⟩
theorem lcPI_list {a : Addr} {us : List V} {l : List (Int × Int)} {i j : Nat} (f : Int × Int → Int) (nij : i ≠ j) (hl : H1 a = some (.lst us)) (hp : Pairs H1 us l) (hn : l.length ≤ 100000)
    (hs : ∀ z H' (Z : VK), z ∈ l → Same H1 H' → (∀ H4, Same H' H4 → Z (.int (f z)) H4) → SetR i (.int z.1) (SetR j (.int z.2) fun s => te s H' Z) σ)
    (hd : ∀ D H', H1 D = none → Same H1 H' → H' D = some (.lst ((l.map f).map V.int)) → Q (.ref D) H') :
    LcR (Itl K a) (gTup K 2 (gCons (gName i) (gCons (gName j) gNil))) tYes te [i, j] σ Q H1 :=
  lcP_list (fun k v _ => ∃ z, l[k]? = some z ∧ v = .int (f z)) (fun _ _ => Stab.triv) nij hl hp hn (fun k z H' Z hz s c => hs z H' Z (List.mem_of_getElem? hz) s fun H4 s4 => c _ H4 s4 ⟨z, hz, rfl⟩) fun D H' ys hD s e le hr => hd D H' hD s (by
    rw [e]
    congr 2
    refine List.ext_getElem? fun k => ?_
    by_cases lt : k < ys.length
    · obtain ⟨z, hz, r⟩ := hr k _ (List.getElem?_eq_getElem lt)
      rw [List.getElem?_eq_getElem lt, r, List.getElem?_map, List.getElem?_map, hz]
      rfl
    · rw [List.getElem?_eq_none (by omega), List.getElem?_eq_none (by simp; omega)])
theorem a_neNil {p : Addr} (hp : SqL K H p []) (q : ∀ H', Same H H' → Q (.bl false) H') : NwL (fun y H2 => rNeD K (.ref p) y H2 Q) [] H := a_nwL (Nat.le_of_ble_eq_true rfl) fun l H' s _ e =>
  r_neSelf (d := .list []) (.lst (same_sqL s hp) .nil) (.lst (sqL_at e) .nil) (by rfl) (by simp [PyData.eqv, PyData.eqvAll]) (q _ s)
theorem a_eqNil {p : Addr} (hp : SqL K H p []) (q : ∀ H', Same H H' → Q (.bl true) H') : NwL (fun y H2 => rEqD K (.ref p) y H2 Q) [] H := a_nwL (Nat.le_of_ble_eq_true rfl) fun l H' s _ e =>
  r_eqSelf (d := .list []) (.lst (same_sqL s hp) .nil) (.lst (sqL_at e) .nil) (by rfl) (by simp [PyData.eqv, PyData.eqvAll]) (q _ s)
theorem a_neSelf {d : PyData} (h : Dp K H x d) (h2 : Dp K H y d) (s : SeqAt.shaped d = true) (e : PyData.eqv d d = true) (q : Q (.bl false) H) : rNeD K x y H Q := r_neSelf h h2 s e q
theorem a_eqSelf {d : PyData} (h : Dp K H x d) (h2 : Dp K H y d) (s : SeqAt.shaped d = true) (e : PyData.eqv d d = true) (q : Q (.bl true) H) : rEqD K x y H Q := r_eqSelf h h2 s e q
/-- == of lists of ints -/
theorem a_eqLI {a b : Addr} {ns ms : List Int} (h : SqL K H a (ns.map V.int)) (k : SqL K H b (ms.map V.int)) (q : Q (.bl (decide (ns = ms))) H) : rEqD K (.ref a) (.ref b) H Q :=
  ⟨_, _, .lst h (dpAll_ints ns), .lst k (dpAll_ints ms), shaped_lstI ns, shaped_lstI ms, by rw [eqv_lstI]; exact q⟩
theorem a_neLI {a b : Addr} {ns ms : List Int} (h : SqL K H a (ns.map V.int)) (k : SqL K H b (ms.map V.int)) (q : Q (.bl (!decide (ns = ms))) H) : rNeD K (.ref a) (.ref b) H Q :=
  ⟨_, _, .lst h (dpAll_ints ns), .lst k (dpAll_ints ms), shaped_lstI ns, shaped_lstI ms, by rw [eqv_lstI]; exact q⟩
theorem a_neTI {a b : Addr} {ns ms : List Int} (h : SqT K H a (ns.map V.int)) (k : SqT K H b (ms.map V.int)) (q : Q (.bl (!decide (ns = ms))) H) : rNeD K (.ref a) (.ref b) H Q :=
  ⟨_, _, .tup h (dpAll_ints ns), .tup k (dpAll_ints ms), shaped_tupI ns, shaped_tupI ms, by rw [eqv_tupI]; exact q⟩
end
/-! ### alike data, by shapes -/
theorem alk0_int {K : PySem.W.Frag} {H : Hp} {i j : Int} (e : i = j) : AlkD K 0 H (.int i) (.int j) := .inl ⟨by rw [e], .int i⟩
theorem alk_int {K : PySem.W.Frag} {n : Nat} {H : Hp} {i j : Int} (e : i = j) : AlkD K n H (.int i) (.int j) := by
  subst e
  cases n with
  | zero => exact .inl ⟨rfl, .int i⟩
  | succ n => exact .inl ⟨rfl, .int i⟩
theorem alk_non {K : PySem.W.Frag} {n : Nat} {H : Hp} : AlkD K n H .non .non := by
  cases n with
  | zero => exact .inl ⟨rfl, .non⟩
  | succ n => exact .inl ⟨rfl, .non⟩
theorem alk_bl {K : PySem.W.Frag} {n : Nat} {H : Hp} {b : Bool} : AlkD K n H (.bl b) (.bl b) := by
  cases n with
  | zero => exact .inl ⟨rfl, .bl b⟩
  | succ n => exact .inl ⟨rfl, .bl b⟩
/-- items alike, one by one -/
inductive AlkL (K : PySem.W.Frag) (n : Nat) (H : Hp) : List V → List V → Prop where
  | nil : AlkL K n H [] []
  | cons {x y : V} {xs ys : List V} (h : AlkD K n H x y) (t : AlkL K n H xs ys) : AlkL K n H (x :: xs) (y :: ys)
theorem AlkL.len {K : PySem.W.Frag} {n : Nat} {H : Hp} : ∀ {xs ys : List V}, AlkL K n H xs ys → xs.length = ys.length
  | _, _, .nil => rfl
  | _, _, .cons _ t => by rw [List.length_cons, List.length_cons, t.len]
theorem AlkL.at {K : PySem.W.Frag} {n : Nat} {H : Hp} : ∀ {xs ys : List V}, AlkL K n H xs ys → ∀ (i : Nat) u v, xs[i]? = some u → ys[i]? = some v → AlkD K n H u v
  | _, _, .nil, i, u, v, h, _ => by simp at h
  | _, _, .cons h t, 0, u, v, h1, h2 => by
    cases h1
    cases h2
    exact h
  | _, _, .cons h t, i + 1, u, v, h1, h2 => t.at i u v (by simpa using h1) (by simpa using h2)
theorem alk_lst {K : PySem.W.Frag} {n : Nat} {H : Hp} {a b : Addr} {xs ys : List V} (h : SqL K H a xs) (k : SqL K H b ys) (l : xs.length ≤ 100000) (t : AlkL K n H xs ys) : AlkD K (n + 1) H (.ref a) (.ref b) := .inr ⟨a, b, xs, ys, rfl, rfl, .inl ⟨h, k⟩, t.len, l, t.at⟩
theorem alk_tup {K : PySem.W.Frag} {n : Nat} {H : Hp} {a b : Addr} {xs ys : List V} (h : SqT K H a xs) (k : SqT K H b ys) (l : xs.length ≤ 100000) (t : AlkL K n H xs ys) : AlkD K (n + 1) H (.ref a) (.ref b) := .inr ⟨a, b, xs, ys, rfl, rfl, .inr ⟨h, k⟩, t.len, l, t.at⟩
theorem alk_ints {K : PySem.W.Frag} {n : Nat} {H : Hp} : ∀ {ns ms : List Int}, ns = ms → AlkL K n H (ns.map V.int) (ms.map V.int)
  | [], _, e => by
    subst e
    exact .nil
  | n :: ns, _, e => by
    subst e
    exact .cons (alk_int rfl) (alk_ints rfl)
theorem alk_pairs {K : PySem.W.Frag} {H : Hp} {vs ws : List V} {l : List (Int × Int)} (hv : Pairs H vs l) (hw : Pairs H ws l) (n : Nat) : ∀ (i : Nat) u v, vs[i]? = some u → ws[i]? = some v → AlkD K (n + 1) H u v := fun i u v h1 h2 => by
  obtain ⟨z, hz, p, rfl, hp⟩ := hv.at h1
  obtain ⟨z2, hz2, q, rfl, hq⟩ := hw.at h2
  have e : z = z2 := Option.some.inj (hz.symm.trans hz2)
  subst e
  exact alk_tup (sqT_at hp) (sqT_at hq) (by simp) (.cons (alk_int rfl) (.cons (alk_int rfl) .nil))
theorem alk_prs {K : PySem.W.Frag} {H : Hp} {a b : Addr} {vs ws : List V} {l : List (Int × Int)} (n : Nat) (h : SqL K H a vs) (k : SqL K H b ws) (ll : l.length ≤ 100000) (hv : Pairs H vs l) (hw : Pairs H ws l) : AlkD K (n + 2) H (.ref a) (.ref b) :=
  .inr ⟨a, b, vs, ws, rfl, rfl, .inl ⟨h, k⟩, by rw [hv.1, hw.1], by have := hv.1; omega, alk_pairs hv hw n⟩
end G57
end
section
set_option maxRecDepth 100000
set_option maxHeartbeats 4000000
/-! XB: the second family's drawing list; instances that are called. -/
namespace G57
open PySem PySem.Spec PyProof.Rows L2
/-! ### the drawing list -/
def hid (h : Addr) (H : Hp) : Hp := fun b => if b = h then none else H b
theorem hid_same {h : Addr} {H : Hp} : Same (hid h H) H := fun b o e => by
  unfold hid at e
  split at e
  · cases e
  · exact e
theorem hid_ne {h b : Addr} {H : Hp} (n : b ≠ h) : hid h H b = H b := if_neg n
theorem hid_d {h : Addr} {H H' : Hp} (s : SameD h h H H') : Same (hid h H) (hid h H') := fun b o e => by
  unfold hid at e
  split at e
  · cases e
  · rename_i n
    rw [hid_ne n]
    exact s b o n n e
theorem hid_new {h : Addr} {H : Hp} {o : HO} (n : H h = none) : Same H (hid h (upd H h o)) := fun b u e => by
  have ne := ne_of_none e n
  rw [hid_ne ne, upd_ne ne]
  exact e
/-- script, place, number, rest -/
def HatB (K : PySem.W.Frag) (H : Hp) (h a : Addr) : Prop := ∃ (ns : List Int) (p m r : Int), H h = some (.lst [.ref a, .int p, .int m, .int r]) ∧ SqL K (hid h H) a (ns.map V.int) ∧ ns.length ≤ 63 ∧ 0 ≤ p ∧ 0 ≤ m ∧ m < 2147483647 ∧ 0 ≤ r
section
variable {K : PySem.W.Frag} {H H' H2 : Hp} {h a p : Addr}
theorem HatB.mono (w : HatB K H h a) (s : Same H H') : HatB K H' h a := by
  obtain ⟨ns, p, m, r, e, q, z⟩ := w
  exact ⟨ns, p, m, r, s _ _ e, same_sqL (hid_d (sameD_of s)) q, z⟩
theorem HatB.lst (w : HatB K H h a) : ∃ xs, H h = some (.lst xs) := let ⟨_, _, _, _, e, _⟩ := w; ⟨_, e⟩
theorem hatB_s (s : Same H H') (w : HatB K H h a) : HatB K H' h a := w.mono s
theorem hatB_id (w : HatB K H h a) : HatB K H h a := w
theorem HatB.ne (hat : HatB K H h a) (e : H p = none) : p ≠ h ∧ p ≠ h := by
  obtain ⟨xs, q⟩ := hat.lst
  have n : p ≠ h := fun z => by
    subst z
    rw [e] at q
    cases q
  exact ⟨n, n⟩
theorem hatB_ne (e : H p = none) (hat : HatB K H h a) : p ≠ h ∧ p ≠ h := hat.ne e
theorem atB_no {o : HO} (hat : HatB K H h a) (n : ∀ xs, o ≠ .lst xs) (e : H p = some o) : p ≠ h := fun z => by
  obtain ⟨xs, q⟩ := hat.lst
  subst z
  rw [e] at q
  exact n _ (Option.some.inj q)
theorem atB_tup {xs : List V} (s : SameD h h H H') (hat : HatB K H h a) (e : H p = some (.tup xs)) : H' p = some (.tup xs) := by
  have n := atB_no hat (fun _ z => by cases z) e
  exact s _ _ n n e
theorem atB_ins {C dx : Addr} {fs : List (Str × V)} (s : SameD h h H H') (hat : HatB K H h a) (e : H p = some (.ins C dx fs)) : H' p = some (.ins C dx fs) := by
  have n := atB_no hat (fun _ z => by cases z) e
  exact s _ _ n n e
theorem atB_lst {xs : List V} (s : SameD h h H H') (n : p ≠ h ∧ p ≠ h) (e : H p = some (.lst xs)) : H' p = some (.lst xs) := s _ _ n.1 n.2 e
theorem sqTB {xs : List V} (s : SameD h h H H') (hat : HatB K H h a) (e : SqT K H p xs) : SqT K H' p xs := by
  rcases e with (e | ⟨o, e⟩) | e
  · exact .inl (.inl (atB_tup s hat e))
  · have n := atB_no hat (fun _ z => by cases z) e
    exact .inl (.inr ⟨o, s _ _ n n e⟩)
  · exact .inr e
end
section
variable {K : PySem.W.Frag} {σ : L2.St} {H1 : Hp} {Q : VK} {te : TE}
theorem sqL_hid {D a : Addr} {H : Hp} {xs : List V} (n : H D = none) (q : SqL K H a xs) : SqL K (hid D H) a xs := by
  rcases q with (q | ⟨o, q⟩) | q
  · exact .inl (.inl (by rw [hid_ne (ne_of_none q n)]; exact q))
  · exact .inl (.inr ⟨o, by rw [hid_ne (ne_of_none q n)]; exact q⟩)
  · exact .inr q
theorem hid_hid {D h : Addr} {H H' : Hp} (s : SameD h h H H') : Same (hid D (hid h H)) (hid D (hid h H')) := fun b o e => by
  unfold hid at e
  split at e
  · cases e
  · rename_i n1
    split at e
    · cases e
    · rename_i n2
      rw [hid_ne n1, hid_ne n2]
      exact s b o n2 n2 e
/-- the script apart from D -/
def Scr (K : PySem.W.Frag) (H : Hp) (D h a : Addr) : Prop := ∃ ns : List Int, SqL K (hid D (hid h H)) a (ns.map V.int) ∧ ns.length ≤ 63
theorem Scr.of {H : Hp} {D h a : Addr} (hat : HatB K H h a) (n : H D = none) : Scr K H D h a := by
  obtain ⟨ns, p, m, r, e, q, l, _⟩ := hat
  refine ⟨ns, sqL_hid ?_ q, l⟩
  unfold hid
  split
  · rfl
  · exact n
theorem Scr.d {H H' : Hp} {D h a : Addr} (z : Scr K H D h a) (s : SameD h h H H') : Scr K H' D h a := let ⟨ns, q, l⟩ := z; ⟨ns, same_sqL (hid_hid s) q, l⟩
theorem HatB.put {H : Hp} {D h a : Addr} {o : HO} (hat : HatB K H h a) (z : Scr K H D h a) (n : D ≠ h) : HatB K (upd H D o) h a ∧ Scr K (upd H D o) D h a := by
  obtain ⟨ms, p, m, r, e, _, _, w⟩ := hat
  obtain ⟨ns, q, l⟩ := z
  have s : Same (hid D (hid h H)) (hid D (hid h (upd H D o))) := fun b u e => by
    unfold hid at e
    split at e
    · cases e
    · rename_i n1
      split at e
      · cases e
      · rename_i n2
        rw [hid_ne n1, hid_ne n2, upd_ne n1]
        exact e
  have q2 := same_sqL s q
  exact ⟨⟨ns, p, m, r, by rw [upd_ne n.symm]; exact e, same_sqL hid_same q2, l, w⟩, ns, q2, l⟩
/-- a drawing comprehension: ints that keep a word -/
theorem lcB_ints {h a : Addr} {lo : Int} {n j : Nat} (P : Int → Prop) (hat : HatB K H1 h a) (hn : n ≤ 1000)
    (hs : ∀ (i : Nat) H' (Z : VK), i < n → HatB K H' h a → SameD h h H1 H' → (∀ y H4, HatB K H4 h a → SameD h h H' H4 → P y → Z (.int y) H4) → SetR j (.int (lo + i)) (fun s => te s H' Z) σ)
    (hd : ∀ D H' (ns : List Int), HatB K H' h a → SameD h h H1 H' → H1 D = none → H' D = some (.lst (ns.map V.int)) → ns.length = n → (∀ x ∈ ns, P x) → Q (.ref D) H') : LcR (Itr lo n) (gName j) tYes te [j] σ Q H1 := fun D hD => by
  have nD := hat.ne hD
  refine lc_range (fun i H' => (HatB K H' h a ∧ Scr K H' D h a) ∧ SameD h h H1 H' ∧ ∃ xs : List Int, H' D = some (.lst (xs.map V.int)) ∧ xs.length = i ∧ ∀ x ∈ xs, P x) ⟨hat.put (Scr.of hat hD) nD.1, (sameD_of sameR).mut hD, [], upd_same, rfl, fun x hx => by cases hx⟩ ?_ ?_
  · rintro i H' hi ⟨⟨hH', sc⟩, sd, xs, hDx, xl, xb⟩
    refine ⟨wipe1' _, tYes_of ?_⟩
    rw [wipe1]
    refine hs i H' _ hi hH' sd fun y H4 h4 s4 py => ?_
    have hD4 := s4 _ _ nD.1 nD.1 hDx
    refine ⟨_, hD4, Nat.lt_of_lt_of_le (show _ < 1001 by rw [List.length_map]; omega) (by decide), h4.put (sc.d s4) nD.1, (sd.tr s4).mut hD, xs ++ [y], by rw [upd_same]; simp, by simp [xl], fun x hx => ?_⟩
    rcases List.mem_append.mp hx with hx | hx
    · exact xb x hx
    · rw [List.mem_singleton.mp hx]
      exact py
  · rintro H' ⟨⟨hH', sc⟩, sd, xs, hDx, xl, xb⟩
    exact hd D H' xs hH' sd hD hDx xl xb
end
/-! ### an instance that is called -/
structure Cop (P : Program) (w : World) (K : PySem.W.Frag) (mg : Str → Option Value) (base : Heap) (k : Nat) (C : Addr) (sp : Sp) : Prop where
  ex : ∃ g : Addr, StX.CallO K C g ∧ FnR P w K mg base CX0 k g sp
section
variable {P : Program} {w : World} {K : PySem.W.Frag} {mg : Str → Option Value} {base : Heap}
theorem cop_of {d : DefA} {C : Str} {N ps : List Str} {k : Nat} {sp : Sp} (F : ∃ fd, d.Fn K fd) (hp : d.path = pM C "__call__") (hd : d.dfl = []) (hm : Meth K (He.ga K C) "__call__" (He.ma K (He.ga K C) "__call__")) (hf : PySem.W.fnIn K (He.ma K (He.ga K C) "__call__") = true) (S : FnScope N ps d.scope)
    (b : BindA d.name d.qual d.params d.body d.scope ps) (len : ∀ vs H Q E, sp vs H Q E → vs.length = ps.length) (hb : Body0 P w K mg base N d.qual d.body d.scope (He.ma K (He.ga K C) "__call__") k sp) : Cop P w K mg base (k + 1) (He.ga K C) sp := by
  obtain ⟨fd, F⟩ := F
  have F' : FunD K d.name d.qual d.params d.body d.scope [] (d.kws K) (He.ma K (He.ga K C) "__call__") fd := by
    have q : FunD K d.name d.qual d.params d.body d.scope (d.dvs K) (d.kws K) (d.path K) fd := F
    unfold DefA.dvs at q
    rw [hd, hp] at q
    exact q
  have Fk := fn0_of (P := P) (w := w) (mg := mg) (base := base) F' S len hb
  obtain ⟨oc, od, kV, doc, pm, an, cdv, ct, osl, rfl, lk, hcd⟩ := fun_of F'
  refine ⟨_, ⟨hm.at_, hm.fn, hf⟩, ?_⟩
  have z := Fk.raw (Binds.all (b kV doc pm an cdv ct)) .nil
  exact z.imp fun vs H Q E q => by
    rw [List.append_nil]
    exact q
end
def InsD (H : Hp) (a C : Addr) : Prop := (∃ dx vs, SlX.Slt H a C dx vs) ∨ ∃ dx fs, H a = some (.ins C dx fs)
def tCo (C : Addr) (sp : Sp) (E : XK) (tf : TE) (t : TA) : TE := fun σ H Q => tf σ H fun y H1 => ∃ a, y = V.ref a ∧ t σ H1 fun vs H2 => InsD H2 a C ∧ sp (V.ref a :: vs) H2 Q E
section
variable {X : Cx} {k j : Nat} {C : Addr} {sp : Sp} {fe e : Expr} {es : List Expr} {pos : Pos} {tf : TE} {t : TA}
theorem pe_co (c : Cop X.prog X.w X.K X.mg X.base k C sp) (hr : Room j X.A) (hk : k ≤ j) (hf : PE X fe tf) (ha : PA X (e :: es) t)
    (ht : eval (.Call fe (e :: es) [] pos) X.env = (do callWith pos (← eval fe X.env) [] (backTo pos (starEach (e :: es) X.env)) (backToKw pos (keywordEach [] X.env))) := by rfl)
    (he : starEach (e :: es) X.env = (false, eval e X.env) :: starEach es X.env := by rfl) (hpl : (backTo pos (starEach es X.env)).any (·.1) = false := by rfl) : PE X (.Call fe (e :: es) [] pos) (tCo C sp E0 tf t) := by
  obtain ⟨g, c1, F⟩ := c.ex
  exact StX.pe_callO hf c1 F (hr.mono hk) pass0 ha ht he hpl
end
section
variable {σ : L2.St} {H : Hp} {Q : VK} {C : Addr} {sp : Sp} {E : XK} {tf : TE} {t : TA}
def CoR (C : Addr) (sp : Sp) (E : XK) (t : TA) (σ : L2.St) (Q : VK) (y : V) (H1 : Hp) : Prop := ∃ a, y = V.ref a ∧ t σ H1 fun vs H2 => InsD H2 a C ∧ sp (V.ref a :: vs) H2 Q E
theorem r_co (q : tf σ H (CoR C sp E t σ Q)) : tCo C sp E tf t σ H Q := q
theorem r_coR {a : Addr} (q : t σ H fun vs H2 => InsD H2 a C ∧ sp (V.ref a :: vs) H2 Q E) : CoR C sp E t σ Q (.ref a) H := ⟨a, rfl, q⟩
theorem r_coI {a dx : Addr} {fs : List (Str × V)} {A : Prop} (h : H a = some (.ins C dx fs)) (q : A) : InsD H a C ∧ A := ⟨.inr ⟨dx, fs, h⟩, q⟩
end
/-! ### list(range(..)) -/
section
variable {σ : L2.St} {H : Hp} {Q : VK} {ta tb : TE}
def Rg2R (Q : Int → Int → Hp → Prop) (x y : V) (H : Hp) : Prop := ∃ i j, x = .int i ∧ y = .int j ∧ Q i j H
def LRgR (Q : VK) (a b : Int) (H : Hp) : Prop := RgOk a b ∧ ∀ q, H q = none → Q (.ref q) (upd H q (.lst (rgV a b)))
theorem r_lRg {te : L2.St → Hp → (Int → Int → Hp → Prop) → Prop} (q : te σ H (LRgR Q)) : tLstRg te σ H Q := q
theorem r_rg2 {Q : Int → Int → Hp → Prop} (q : ta σ H fun x H1 => tb σ H1 fun y H2 => Rg2R Q x y H2) : tRg2 ta tb σ H Q := q
theorem r_rg2R {Q : Int → Int → Hp → Prop} {i j : Int} (q : Q i j H) : Rg2R Q (.int i) (.int j) H := ⟨i, j, rfl, rfl, q⟩
theorem rgV_ints (a b : Int) : rgV a b = ((List.range (b - a).toNat).map fun i : Nat => a + (i : Int)).map V.int := by
  unfold rgV
  simp
theorem a_lRg {a b : Int} (ok : RgOk a b) (q : ∀ p H', Same H H' → H p = none → H' p = some (.lst (((List.range (b - a).toNat).map fun i : Nat => a + (i : Int)).map V.int)) → Q (.ref p) H') : LRgR Q a b H := ⟨ok, fun p hp => by
  rw [rgV_ints]
  exact q p _ (same_new hp) hp upd_same⟩
end
/-- an if whose ways meet in J -/
theorem r_ifJ {c : TT} {t u : TS} {D : Ends} {σ : L2.St} {H : Hp} (J : L2.St → Hp → Prop) (hn : ∀ σ H, J σ H → D.nx σ H) (h1 : (∀ σ H, J σ H → D.nx σ H) → tIfS c t u D σ H) : tIfS c t u D σ H := h1 hn
theorem r_stopF {w : TI} {g : TG} {tb : TS} {D : Ends} {σ : L2.St} {H : Hp} (q : tFor w g tb D σ H) : tFor w g tb D σ H := q
end G57
end
section
set_option maxRecDepth 100000
set_option maxHeartbeats 4000000
/-! XLam: lambdas as values: their making, their promises, defs that are told what a closure does. -/
namespace G57
open PySem PySem.Spec PyProof.Rows L2 LamX NdefX
/-! ### a lambda's text, a made closure -/
structure LamD where
  params : Arguments
  body : Expr
  scope : Scope
  pos : Pos
structure LF where
  d : LamD
  qual : Str
  cl : List (Str × Addr)
  c : Addr
  dV : Value
def LF.nf (F : LF) : NF := ⟨"<lambda>", F.qual, F.d.params, [], F.d.scope, F.cl, F.c⟩
abbrev LF.fd (F : LF) (doc pm ctv : Value) : FuncData := PySem.W.kdv_fn "<lambda>" F.qual F.d.params (.expr F.d.body) F.d.scope F.cl F.dV doc pm (.ref F.c) ctv
abbrev LF.obj (F : LF) (doc pm ctv : Value) : Obj := { cls := .type "function", data := .func (F.fd doc pm ctv) }
/-- an object that never changes -/
def Frz (H : Hp) (a : Addr) (o : Obj) : Prop := ∃ u, H a = some (.frz o u)
def CodeF (H : Hp) (c : Addr) (q : Str) : Prop := ∃ oc vs t, Frz H c oc ∧ oc.data = .fields vs ∧ vs[1]? = some (.str q t)
def FnF (H : Hp) (f : Addr) (F : LF) : Prop := ∃ doc pm ctv, Frz H f (F.obj doc pm ctv)
structure Lam (H : Hp) (f : Addr) (F : LF) (ds : List V) : Prop where
  fn : FnF H f F
  code : CodeF H F.c F.qual
  dfl : (F.dV = .none ∧ ds = []) ∨ (ds ≠ [] ∧ ∃ t, F.dV = .ref t ∧ H t = some (.tup ds))
/-- what never changes has not -/
def Still (H H' : Hp) : Prop := (∀ b o u, H b = some (.frz o u) → H' b = some (.frz o u)) ∧ ∀ b xs, H b = some (.tup xs) → H' b = some (.tup xs)
section
variable {H H' : Hp} {f c h a : Addr} {F : LF} {ds : List V} {q : Str} {K : PySem.W.Frag}
theorem Still.of (s : Same H H') : Still H H' := ⟨fun b o u e => s _ _ e, fun b xs e => s _ _ e⟩
theorem Still.n (s : ExtN H H') : Still H H' := ⟨fun b o u e => s _ _ e fun ps z => (by cases z), fun b xs e => s _ _ e fun ps z => (by cases z)⟩
theorem Still.d (s : SameD h h H H') (hat : HatB K H h a) : Still H H' := by
  refine ⟨fun b o u e => ?_, fun b xs e => atB_tup s hat e⟩
  have n := atB_no hat (fun _ z => by cases z) e
  exact s _ _ n n e
theorem Still.dA {l : Addr} (s : SameD h l H H') (hat : Hat H h l) : Still H H' := by
  refine ⟨fun b o u e => ?_, fun b xs e => s.tup hat e⟩
  obtain ⟨m, c, ys, e1, e2, _⟩ := hat
  refine s b _ (fun z => ?_) (fun z => ?_) e
  · subst z
    rw [e] at e1
    cases e1
  · subst z
    rw [e] at e2
    cases e2
theorem Still.tr {H2 : Hp} (a : Still H H') (b : Still H' H2) : Still H H2 := ⟨fun x o u e => b.1 _ _ _ (a.1 _ _ _ e), fun x xs e => b.2 _ _ (a.2 _ _ e)⟩
theorem Frz.st {o : Obj} (z : Frz H a o) (s : Still H H') : Frz H' a o := let ⟨u, e⟩ := z; ⟨u, s.1 _ _ _ e⟩
theorem CodeF.st (z : CodeF H c q) (s : Still H H') : CodeF H' c q := let ⟨oc, vs, t, e, r⟩ := z; ⟨oc, vs, t, e.st s, r⟩
theorem FnF.st (z : FnF H f F) (s : Still H H') : FnF H' f F := let ⟨d, p, c, e⟩ := z; ⟨d, p, c, e.st s⟩
theorem Lam.st (z : Lam H f F ds) (s : Still H H') : Lam H' f F ds := ⟨z.fn.st s, z.code.st s, z.dfl.elim .inl fun ⟨n, t, e, k⟩ => .inr ⟨n, t, e, s.2 _ _ k⟩⟩
end
/-! ### tables -/
def TabF (H : Hp) (P : Addr) (q : Str) : Prop := ∃ ps : Array Value, H P = some (.tbl ps) ∧ TriplesOk ps.toList ∧ ∀ (pos : Pos) (cv : Value), codeAmong pos ps.toList = some cv → ∃ c, cv = .ref c ∧ CodeF H c q
def TabsF (T : List (Addr × Str)) (H : Hp) : Prop := ∀ p ∈ T, TabF H p.1 p.2
theorem TabF.mv {H H' : Hp} {P : Addr} {q : Str} (t : TabF H P q) (e : ∀ ps, H P = some (.tbl ps) → H' P = some (.tbl ps)) (s : Still H H') : TabF H' P q := by
  obtain ⟨ps, h1, h2, h3⟩ := t
  exact ⟨ps, e _ h1, h2, fun pos cv hc => let ⟨c, e1, e2⟩ := h3 pos cv hc; ⟨c, e1, e2.st s⟩⟩
theorem tabsF_s {T : List (Addr × Str)} {H H' : Hp} (s : Same H H') (t : TabsF T H) : TabsF T H' := fun p hp => (t p hp).mv (fun ps e => s _ _ e) (.of s)
theorem tabsF_d {T : List (Addr × Str)} {H H' : Hp} {K : PySem.W.Frag} {h a : Addr} (s : SameD h h H H') (hat : HatB K H h a) (t : TabsF T H) : TabsF T H' := fun p hp => (t p hp).mv (fun ps e => by
  have n := atB_no hat (fun _ z => by cases z) e
  exact s _ _ n n e) (.d s hat)
theorem tabsF_x {T : List (Addr × Str)} {H H' : Hp} {L : Addr} {zs : List V} (s : SameX L H H') (hl : H L = some (.lst zs)) (t : TabsF T H) : TabsF T H' := by
  have ne : ∀ {b : Addr} {o : HO}, H b = some o → (∀ xs, o ≠ .lst xs) → b ≠ L := fun {b o} e n z => by
    subst z
    rw [hl] at e
    exact n _ (Option.some.inj e).symm
  exact fun p hp => (t p hp).mv (fun ps e => s _ _ (ne e fun _ z => by cases z) e) ⟨fun b o u e => s _ _ (ne e fun _ z => by cases z) e, fun b xs e => s _ _ (ne e fun _ z => by cases z) e⟩
theorem tabsF_0 {T : List (Addr × Str)} {H : Hp} (h : ∀ p ∈ T, H p.1 = some (.tbl #[])) : TabsF T H := fun p hp => ⟨#[], h p hp, True.intro, fun pos cv hc => by
  have z : codeAmong pos [] = some cv := hc
  simp [codeAmong] at z⟩
/-! ### the making -/
def FO (a : Addr) (o : Obj) : HO := .ext fun h => h.get? a = some o
section
variable {X : Cx} {pins : List (Addr × Obj)} {σ : L2.St} {H : Hp} {s : Shared}
theorem fo_ok {P : Program} {w : World} {h : Heap} {a : Addr} {o : Obj} (e : h.get? a = some o) : ObjOk P w H h a (.frz o (FO a o)) := ⟨e, e, ⟨_, e⟩, fun h1 h2 z st => st _ z⟩
theorem inv_frz {o : Obj} {t' : Nat} (I : Inv X pins σ H s) (hf : o.isFreed = false := by rfl) : Inv X pins σ (upd H s.heap.objs.size (.frz o (FO s.heap.objs.size o))) { s with heap := s.heap.push o, toks := t' } :=
  I.laid (a := s.heap.objs.size) (fun b u e => Heap.get?_push_of_some _ e) (Nat.le_refl _) (fo_ok (Heap.get?_push_size _ hf))
theorem frz_at {P : Program} {w : World} {h : Heap} {a : Addr} {o : Obj} (hok : HOk P w H h) (e : Frz H a o) : h.get? a = some o := by
  obtain ⟨u, e⟩ := e
  exact (hok a _ e).1
theorem lamF_make {T : List (Addr × Str)} {c P : Addr} {d : LamD} {dV : Value} {E : Value → Shared → Prop} {Q : Value → Shared → Prop} (I : Inv X pins σ H s) (TB : TabB X.base X.mg c P) (hcode : X.env.code = .ref c)
    (hm : (P, X.env.qual ++ "<lambda>") ∈ T) (hu : ∀ p ∈ T, p.1 = P → p.2 = X.env.qual ++ "<lambda>") (hT : TabsF T H) (hfree : ∀ y ∈ d.scope.names, y.2 = .free → ∃ c, X.env.cells.lookup y.1 = some c)
    (h : ∀ (f c' : Addr) (H1 : Hp) (s' : Shared), Inv X pins σ H1 s' → ExtN H H1 → TabsF T H1 → H f = none → FnF H1 f ⟨d, X.env.qual ++ "<lambda>", cloFrom X.env.cells d.scope.names [], c', dV⟩ → CodeF H1 c' (X.env.qual ++ "<lambda>") → Q (.ref f) s') :
    wpAny (model X.prog X.w) X.A (makeTail "<lambda>" (X.env.qual ++ "<lambda>") d.params (.expr d.body) d.scope X.env dV .none none d.pos d.pos.line) Q E s := by
  obtain ⟨ps, hP, ht, ha⟩ := hT _ hm
  have bP : s.heap.BuiltinsAt X.mg P := TB.bm.keeps I.bk
  have hP' : s.heap.get? P = some { cls := .none, data := .fields ps } := I.hok P _ hP
  cases hc : codeAmong d.pos ps.toList with
  | none =>
    refine PySem.W.kdv_makeTail (mg := X.mg) (closure_ok hfree) I.ok.glob (I.mod.glob.keeps I.bk) hcode (TB.code.keeps I.bk) hP' ht hc TB.gP bP fun c' ctv doc h' tk hx hge hlt hrec htb => ?_
    obtain ⟨c2, oc, vs, t, e2, hoc, hd, hv⟩ := hrec
    cases e2
    have nC : H c' = none := I.hok.fresh hge
    have nPc : P ≠ c' := ne_of_none hP nC
    have J1 := inv_table (t' := tk) (more := #[rawInt d.pos.line, rawInt d.pos.col, .ref c']) (h' := h') I hP (fun b o hb e => hx b o hb e) htb hge ⟨oc, vs, t, hoc, hd, hv⟩
    generalize hA : upd (upd H P (.tbl (ps ++ #[rawInt d.pos.line, rawInt d.pos.col, .ref c']))) c' (CodeO c' (X.env.qual ++ "<lambda>")) = HA at J1
    have aC : HA c' = some (CodeO c' (X.env.qual ++ "<lambda>")) := by rw [← hA, upd_same]
    have J2 : Inv X pins σ (upd HA c' (.frz oc (FO c' oc))) { s with heap := h', toks := tk } := J1.write (x := c') (e := c') (t' := tk) (by rw [aC]; exact True.intro) (.inl rfl) (fun b u _ e => e) ⟨oc, hoc⟩ (fo_ok hoc)
    have J3 := inv_frz (o := LF.obj ⟨d, X.env.qual ++ "<lambda>", cloFrom X.env.cells d.scope.names [], c', dV⟩ doc ((X.mg "__name__").getD .none) ctv) (t' := tk) J2
    have nF : H h'.objs.size = none := I.hok.fresh (Nat.le_trans hge (Nat.le_of_lt hlt))
    have nFc : h'.objs.size ≠ c' := Nat.ne_of_gt hlt
    have nFP : h'.objs.size ≠ P := fun z => by
      rw [z, hP] at nF
      cases nF
    generalize hB : upd (upd HA c' (.frz oc (FO c' oc))) h'.objs.size (.frz (LF.obj ⟨d, X.env.qual ++ "<lambda>", cloFrom X.env.cells d.scope.names [], c', dV⟩ doc ((X.mg "__name__").getD .none) ctv) (FO h'.objs.size (LF.obj ⟨d, X.env.qual ++ "<lambda>", cloFrom X.env.cells d.scope.names [], c', dV⟩ doc ((X.mg "__name__").getD .none) ctv))) = HB at J3
    have bF : FnF HB h'.objs.size ⟨d, X.env.qual ++ "<lambda>", cloFrom X.env.cells d.scope.names [], c', dV⟩ := ⟨doc, _, ctv, _, by rw [← hB, upd_same]⟩
    have bC : CodeF HB c' (X.env.qual ++ "<lambda>") := ⟨oc, vs, t, ⟨FO c' oc, by rw [← hB, upd_ne nFc.symm, upd_same]⟩, hd, hv⟩
    have bP2 : HB P = some (.tbl (ps ++ #[rawInt d.pos.line, rawInt d.pos.col, .ref c'])) := by
      rw [← hB, upd_ne nFP.symm, upd_ne nPc, ← hA, upd_ne nPc, upd_same]
    have bO : ∀ b o, H b = some o → b ≠ P → HB b = some o := fun b o e n => by
      rw [← hB, upd_ne (ne_of_none e nF), upd_ne (ne_of_none e nC), ← hA, upd_ne (ne_of_none e nC), upd_ne n]
      exact e
    have bE : ExtN H HB := fun b o e n => bO b o e fun z => by
      rw [z, hP] at e
      exact n _ (Option.some.inj e).symm
    refine h _ c' HB _ J3 bE (fun p hp => ?_) nF bF bC
    by_cases hb : p.1 = P
    · rw [hu p hp hb, hb]
      refine ⟨_, bP2, by rw [show (ps ++ #[rawInt d.pos.line, rawInt d.pos.col, .ref c']).toList = ps.toList ++ [rawInt d.pos.line, rawInt d.pos.col, .ref c'] by simp]; exact PySem.TriplesOk_snoc _ _ _ _ ht, fun p' cv hcv => ?_⟩
      rw [show (ps ++ #[rawInt d.pos.line, rawInt d.pos.col, .ref c']).toList = ps.toList ++ [rawInt d.pos.line, rawInt d.pos.col, .ref c'] by simp] at hcv
      rcases among_app _ ht hcv with z | z
      · obtain ⟨c0, e1, e2⟩ := ha p' cv z
        exact ⟨c0, e1, e2.st (.n bE)⟩
      · exact ⟨c', z, bC⟩
    · exact (hT p hp).mv (fun qs e => bO _ _ e hb) (.n bE)
  | some cv =>
    obtain ⟨c', e, hco⟩ := ha d.pos cv hc
    subst e
    refine PySem.W.kdv_makeTailHit (mg := X.mg) (closure_ok hfree) I.ok.glob (I.mod.glob.keeps I.bk) hcode (TB.code.keeps I.bk) hP' ht hc bP fun ctv doc h' tk hx hsz => ?_
    have J1 : Inv X pins σ H { s with heap := h', toks := tk } := I.kept hx
    have J3 := inv_frz (o := LF.obj ⟨d, X.env.qual ++ "<lambda>", cloFrom X.env.cells d.scope.names [], c', dV⟩ doc ((X.mg "__name__").getD .none) ctv) (t' := tk) J1
    have nF : H h'.objs.size = none := J1.hok.fresh (Nat.le_refl _)
    have bS := same_new (o := .frz (LF.obj ⟨d, X.env.qual ++ "<lambda>", cloFrom X.env.cells d.scope.names [], c', dV⟩ doc ((X.mg "__name__").getD .none) ctv) (FO h'.objs.size (LF.obj ⟨d, X.env.qual ++ "<lambda>", cloFrom X.env.cells d.scope.names [], c', dV⟩ doc ((X.mg "__name__").getD .none) ctv))) nF
    exact h _ c' _ _ J3 (ExtN.of bS) (tabsF_s bS hT) nF ⟨doc, _, ctv, _, upd_same⟩ (hco.st (.of bS))
end
end G57
end
section
set_option maxRecDepth 100000
set_option maxHeartbeats 4000000
/-! XLam2: lambdas: the expression, the body's promise, what a caller knows, defs told of a closure. -/
namespace G57
open PySem PySem.Spec PyProof.Rows L2 LamX NdefX
/-! ### the expression -/
/-- captured: the cells that the maker's frame has -/
def ofC (cells : List (Str × Addr)) (F : LF) : Prop := F.cl = cloFrom cells F.d.scope.names []
def tLm (T : List (Addr × Str)) (cells : List (Str × Addr)) (d : LamD) (ds : List V) : TE := fun σ H Q => TabsF T H ∧ ∀ (f : Addr) (F : LF) (H1 : Hp), ExtN H H1 → TabsF T H1 → H f = none → Lam H1 f F ds → F.d = d → ofC cells F → Q (.ref f) H1
section
variable {X : Cx}
theorem pe_lm {T : List (Addr × Str)} {c P : Addr} {d : LamD} (TB : TabB X.base X.mg c P) (hcode : X.env.code = .ref c) (hm : (P, X.env.qual ++ "<lambda>") ∈ T) (hu : ∀ p ∈ T, p.1 = P → p.2 = X.env.qual ++ "<lambda>") (L : ∀ y ∈ d.scope.names, y.2 = .free → X.env.scope.names.lookup y.1 = some .cell ∨ X.env.scope.names.lookup y.1 = some .free)
    (hd : d.params.defaults = []) (hk : d.params.kw_defaults = []) : PE X (.Lambda d.params d.body d.scope d.pos) (tLm T X.env.cells d []) := by
  refine ⟨fun pins s σ H Q I h => ?_⟩
  obtain ⟨hT, h⟩ := h
  refine PySem.W.kla_eval (by rw [defaultsOf_eq, hd, hk] <;> rfl) ?_
  rw [makeFunction_eq]
  simp only [List.zip_nil_right, List.filterMap_nil, List.isEmpty_nil, if_true, pure_bind]
  refine lamF_make I TB hcode hm hu hT (fun y hy e => (L y hy e).elim (fun z => I.ok.has _ (.inl z)) fun z => I.ok.has _ (.inr z)) fun f c' H1 s' I1 eN T1 hf hF hc => ?_
  exact ⟨.ref f, H1, I1, rfl, h f _ H1 eN T1 hf ⟨hF, hc, .inl ⟨rfl, rfl⟩⟩ rfl rfl⟩
/-- with one default -/
theorem pe_lm1 {T : List (Addr × Str)} {c P : Addr} {d : LamD} {i : Int} {e : Expr} (TB : TabB X.base X.mg c P) (hcode : X.env.code = .ref c) (hm : (P, X.env.qual ++ "<lambda>") ∈ T) (hu : ∀ p ∈ T, p.1 = P → p.2 = X.env.qual ++ "<lambda>") (L : ∀ y ∈ d.scope.names, y.2 = .free → X.env.scope.names.lookup y.1 = some .cell ∨ X.env.scope.names.lookup y.1 = some .free)
    (hd : d.params.defaults = [e]) (he : PE X e (tC (.int i))) (hk : d.params.kw_defaults = []) : PE X (.Lambda d.params d.body d.scope d.pos) (tLm T X.env.cells d [.int i]) := by
  refine ⟨fun pins s σ H Q I h => ?_⟩
  obtain ⟨hT, h⟩ := h
  refine PySem.W.kdv_lam (by rw [hd] <;> rfl) hk ?_
  rw [hd]
  refine PySem.W.kdv_all1 (thn (he.run pins s σ H (fun v H1 => v = .int i ∧ H1 = H) I ⟨rfl, rfl⟩) fun u s1 ⟨v, H1, I1, r1, q1⟩ => ?_)
  obtain ⟨rfl, rfl⟩ := q1
  refine PySem.W.kdv_all0 ?_
  obtain ⟨t0, rfl⟩ : ∃ t, u = Value.int i t := r1
  rw [makeFunction_eq]
  simp only [List.zip_nil_right, List.filterMap_nil, List.isEmpty_nil, if_true, pure_bind, List.isEmpty_cons, Bool.false_eq_true, if_false]
  refine wpAny_bind (wpAny_newTextTuple ?_)
  have nT : H1 s1.heap.objs.size = none := I1.hok.fresh (Nat.le_refl _)
  have I2 : Inv X pins σ (upd H1 s1.heap.objs.size (.tup [.int i])) { s1 with heap := s1.heap.push { cls := .type "tuple", data := .seq #[Value.int i t0] } } := I1.laid (t' := s1.toks) (fun b u e => Heap.get?_push_of_some _ e) (Nat.le_refl _) ⟨by show 1 ≤ sizeLine; decide, [.int i t0], .cons ⟨t0, rfl⟩ .nil, _, Heap.get?_push_size _ rfl, rfl, ⟨_, rfl⟩⟩
  have sS := same_new (o := .tup [V.int i]) nT
  refine lamF_make I2 TB hcode hm hu (tabsF_s sS hT) (fun y hy e => (L y hy e).elim (fun z => I.ok.has _ (.inl z)) fun z => I.ok.has _ (.inr z)) fun f c' H2 s' I3 eN T1 hf hF hc => ?_
  exact ⟨.ref f, H2, I3, rfl, h f _ H2 ((ExtN.of sS).trans eN) T1 (none_of_same sS hf) ⟨hF, hc, .inr ⟨by simp, _, rfl, (Still.n eN).2 _ _ upd_same⟩⟩ rfl rfl⟩
end
/-! ### what is known of a frame's cells -/
structure CellsK (cells : List (Str × Addr)) (N : List Str) (sc : Scope) (σ : L2.St) (s : Shared) (H : Hp) : Prop where
  all : ∀ y c, cells.lookup y = some c → H c = none ∧ ∃ v, s.heap.IsCell c v
  inj : ∀ x y c, cells.lookup x = some c → cells.lookup y = some c → x = y
  has : ∀ y, (sc.names.lookup y = some .cell ∨ sc.names.lookup y = some .free) → ∃ c, cells.lookup y = some c
  val : ∀ (j : Nat) (y : Str) (v : V), N[j]? = some y → σ[j]? = some (some v) → (sc.names.lookup y = some .cell ∨ sc.names.lookup y = some .free) → ∃ c u, cells.lookup y = some c ∧ L2.RelV v u ∧ s.heap.IsCell c (some u)
theorem inv_cellsK {X : Cx} {pins : List (Addr × Obj)} {σ : L2.St} {H : Hp} {s : Shared} (I : Inv X pins σ H s) : CellsK X.env.cells X.N X.env.scope σ s H := by
  refine ⟨fun y c e => ⟨I.freeC y c e, I.cell y c e⟩, I.ok.inj, fun y e => I.ok.has y e, fun j y v e1 e2 k => ?_⟩
  obtain ⟨m, hn, hl⟩ := I.loc
  obtain ⟨u, r, l⟩ := hl j y v e1 e2 (.inr k)
  rcases l with ⟨z, _⟩ | ⟨_, c, hc, hv⟩
  · have z' : X.env.scope.names.lookup y = some .local := z
    rcases k with k | k <;> rw [k] at z' <;> cases z'
  · exact ⟨c, u, hc, r, hv⟩
/-- the state s' is one behind s: what was not tracked stands -/
structure Kp (s : Shared) (H : Hp) (s' : Shared) (H' : Hp) : Prop where
  still : Still H H'
  cell : ∀ b v, s.heap.IsCell b v → H b = none → s'.heap.IsCell b v ∧ H' b = none
theorem Kp.refl {s : Shared} {H : Hp} : Kp s H s H := ⟨⟨fun _ _ _ e => e, fun _ _ e => e⟩, fun b v e n => ⟨e, n⟩⟩
theorem Kp.tr {s s1 s2 : Shared} {H H1 H2 : Hp} (a : Kp s H s1 H1) (b : Kp s1 H1 s2 H2) : Kp s H s2 H2 := ⟨a.still.tr b.still, fun x v e n => let ⟨e1, n1⟩ := a.cell x v e n; b.cell x v e1 n1⟩
theorem Kp.un {fs ex : List Addr} {s s' : Shared} {H H' : Hp} (u : Un fs ex H H' s.heap s'.heap) (hx : ∀ b v, s.heap.IsCell b v → H b = none → b ∉ ex) : Kp s H s' H' := ⟨⟨u.frzs, u.tups⟩, fun b v ⟨o, ho, hd⟩ n => by
  have nx := hx b v ⟨o, ho, hd⟩ n
  obtain ⟨sl, e⟩ := u.any ho n nx
  exact ⟨⟨_, e, hd⟩, u.free b o ho n nx⟩⟩
theorem CellsK.kp {cells : List (Str × Addr)} {N : List Str} {sc : Scope} {σ : L2.St} {s s' : Shared} {H H' : Hp} (k : CellsK cells N sc σ s H) (p : Kp s H s' H') : CellsK cells N sc σ s' H' :=
  ⟨fun y c e => by
    obtain ⟨n, v, z⟩ := k.all y c e
    obtain ⟨z1, n1⟩ := p.cell c v z n
    exact ⟨n1, v, z1⟩, k.inj, k.has, fun j y v e1 e2 e3 => by
    obtain ⟨c, u, hc, r, hv⟩ := k.val j y v e1 e2 e3
    exact ⟨c, u, hc, r, (p.cell c _ hv (k.all y c hc).1).1⟩⟩
theorem cellsAt_kp {cl : List (Str × Addr)} {fr : List Str} {ws : List (Option V)} {s s' : Shared} {H H' : Hp} (C : CellsAt cl fr ws s.heap H) (p : Kp s H s' H') : CellsAt cl fr ws s'.heap H' :=
  ⟨C.len, fun y c e => by
    obtain ⟨n, v, z⟩ := C.all y c e
    obtain ⟨z1, n1⟩ := p.cell c v z n
    exact ⟨n1, v, z1⟩, C.inj, fun i y e => by
    obtain ⟨c, hc, hv⟩ := C.has i y e
    refine ⟨c, hc, fun v ev => ?_⟩
    obtain ⟨u, r, z⟩ := hv v ev
    exact ⟨u, r, (p.cell c _ z (C.all y c hc).1).1⟩⟩
/-- a look at the texts: the lambda's captured names stand in the maker's frame at the places js -/
def capB (N : List Str) (sc lsc : Scope) (fr : List Str) (js : List Nat) : Bool :=
  (lsc.names.all fun y => !decide (y.2 = .free) || decide (sc.names.lookup y.1 = some .cell) || decide (sc.names.lookup y.1 = some .free)) && (fr.all fun y => decide ((y, NameKind.free) ∈ lsc.names)) && decide (js.map (fun j => N[j]?) = fr.map some)
theorem CellsK.at {cells : List (Str × Addr)} {N : List Str} {sc : Scope} {σ : L2.St} {s : Shared} {H : Hp} {F : LF} {fr : List Str} {js : List Nat} (k : CellsK cells N sc σ s H) (o : ofC cells F) (b : capB N sc F.d.scope fr js = true) : CellsAt F.cl fr (js.map (slotAt σ)) s.heap H := by
  unfold capB at b
  simp only [Bool.and_eq_true, Bool.or_eq_true, Bool.not_eq_true', decide_eq_true_eq, decide_eq_false_iff_not, List.all_eq_true] at b
  obtain ⟨⟨b1, b2⟩, b3⟩ := b
  have hf : ∀ y ∈ F.d.scope.names, y.2 = .free → ∃ c, cells.lookup y.1 = some c := fun y hy e => by
    rcases b1 y hy with (z | z) | z
    · exact absurd e z
    · exact k.has _ (.inl z)
    · exact k.has _ (.inr z)
  have ll : js.length = fr.length := by
    have q := congrArg List.length b3
    simpa using q
  have o' : F.cl = cloFrom cells F.d.scope.names [] := o
  rw [o']
  refine ⟨by rw [List.length_map]; exact ll, fun y c e => k.all y c (clo_cm hf e), fun x y c e1 e2 => k.inj x y c (clo_cm hf e1) (clo_cm hf e2), fun i y e => ?_⟩
  have hy := b2 y (List.mem_of_getElem? e)
  obtain ⟨c, hc⟩ := hf _ hy rfl
  refine ⟨c, clo_has hf hy hc, fun v ev => ?_⟩
  have lt : i < fr.length := (List.getElem?_eq_some_iff.mp e).1
  obtain ⟨j, hj⟩ : ∃ j, js[i]? = some j := ⟨_, List.getElem?_eq_getElem (by omega)⟩
  have e2 : (js.map fun j => N[j]?)[i]? = some (some y) := by
    rw [b3, List.getElem?_map, e]
    rfl
  rw [List.getElem?_map, hj] at e2
  have hN : N[j]? = some y := Option.some.inj e2
  rw [List.getElem?_map, hj] at ev
  have ev2 : σ[j]? = some (some v) := slotAt_some (Option.some.inj ev)
  have kind : sc.names.lookup y = some .cell ∨ sc.names.lookup y = some .free := by
    rcases b1 _ hy with (z | z) | z
    · exact absurd rfl z
    · exact .inl z
    · exact .inr z
  obtain ⟨c2, u, hc2, r, hv⟩ := k.val j y v hN ev2 kind
  have hc' : cells.lookup y = some c := hc
  rw [hc'] at hc2
  cases hc2
  exact ⟨u, r, hv⟩
/-! ### a lambda's promise by its body -/
/-- ps: its parameters (ds: the defaults of the last ones); fr: the captured names -/
structure LOk (P : Program) (w : World) (K : PySem.W.Frag) (mg : Str → Option Value) (base : Heap) (k : Nat) (d : LamD) (ps fr : List Str) (ds : List V) (sp : List (Option V) → Sp) : Prop where
  run : ∀ (F : LF) (f : Addr) (A : Around) (outer : List Env) (s : Shared) (H : Hp) (us : List Value) (vs : List V) (ws : List (Option V)) (Q : VK) (E : XK), F.d = d → Room k A → Env0 P w K mg base A outer s H → Lam H f F ds → CellsAt F.cl fr ws s.heap H → Vals vs us → sp ws vs H Q E →
    codeAny (model P w) A (.call (.ref f) ⟨us, []⟩) (CR (L2.CX P w) outer P w H s Q E) s
section
variable {P : Program} {w : World} {K : PySem.W.Frag} {mg : Str → Option Value} {base : Heap}
/-- how its arguments come to the parameters -/
def LBind (d : LamD) (ps : List Str) (ds : List V) : Prop := ∀ (F : LF) (doc pm ctv : Value) (s : Shared) (us dvs : List Value), F.d = d → (us ++ dvs).length = ps.length → Vals ds dvs → ((F.dV = .none ∧ dvs = []) ∨ (dvs ≠ [] ∧ ∃ t o n, F.dV = .ref t ∧ s.heap.get? t = some o ∧ o.data = .seq dvs.toArray n)) → BindsTo s (F.fd doc pm ctv) ⟨us, []⟩ (ps.zip (us ++ dvs))
theorem lok_of {d : LamD} {N ps fr : List Str} {ds : List V} {k : Nat} {sp : List (Option V) → Sp} (S : NScope N ps fr d.scope) (hb : LBind d ps ds) (len : ∀ ws vs H Q E, sp ws vs H Q E → (vs ++ ds).length = ps.length)
    (hbody : ∀ (F : LF) (f : Addr) (A : Around) (outer : List Env) (s : Shared) (H : Hp) (vs : List V) (ws : List (Option V)) (Q : VK) (E : XK), F.d = d → Room k (A.deeper (envF F.nf f s.heap.objs.size)) → ws.length = fr.length → sp ws vs H Q E →
      ∃ t, PE (ncx (L2.CX P w) P w K mg base N F.nf f A outer s H E) d.body t ∧ t (startF N (vs ++ ds) ws) H Q) : LOk P w K mg base (k + 1) d ps fr ds sp := by
  refine ⟨fun F f A outer s H us vs ws Q E hd hr e0 hF C r hsp => ?_⟩
  have hl := len _ _ _ _ _ hsp
  have lim : s.heap.NoLimit := e0.mod.nolimit.keeps fun b o e => (e0.bs b o e).1
  obtain ⟨⟨doc, pm, ctv, ff⟩, ⟨oc, cvs, ct, fc, cd, cq⟩, df⟩ := hF
  have ho := frz_at e0.hok ff
  have hcode : s.heap.CodeRec (.ref F.c) F.qual := ⟨F.c, oc, cvs, ct, rfl, frz_at e0.hok fc, cd, cq⟩
  obtain ⟨dvs, rd, hdv⟩ : ∃ dvs, Vals ds dvs ∧ ((F.dV = .none ∧ dvs = []) ∨ (dvs ≠ [] ∧ ∃ t o n, F.dV = .ref t ∧ s.heap.get? t = some o ∧ o.data = .seq dvs.toArray n)) := by
    rcases df with ⟨e1, e2⟩ | ⟨nd, t, e1, e2⟩
    · rw [e2]
      exact ⟨[], .nil, .inl ⟨e1, rfl⟩⟩
    · obtain ⟨_, its, rv, o, h1, h2, n, h3⟩ := e0.hok t _ e2
      exact ⟨its, rv, .inr ⟨fun z => nd (by subst z; cases rv; rfl), t, o, n, e1, h1, h3⟩⟩
  have r2 : Vals (vs ++ ds) (us ++ dvs) := r.append rd
  have hsc : F.d.scope = d.scope := by rw [hd]
  have S' : NScope N ps fr F.nf.scope := by
    show NScope N ps fr F.d.scope
    rw [hsc]
    exact S
  refine PySem.W.kla_callFunE (body := F.d.body) (fd := F.fd doc pm ctv) hr.depth ho rfl (by show F.d.scope.isCoroutine = false; rw [hsc]; exact S.co) (by show F.d.scope.isGenerator = false; rw [hsc]; exact S.gen) rfl hcode ?_
  refine hb F doc pm ctv s us dvs hd (by rw [← r2.length]; exact hl) rd hdv _ _ _ _ ?_
  refine wpAny_newFunctionEnv (fun y hy => S'.nocell y hy) (fun ⟨n, _⟩ hy => S'.par n (List.of_mem_zip hy).1) (fun h₁ hns hsb => ⟨lim.fresh _ hsb, ?_⟩) S'.kind
  show codeAny _ _ (.expr F.d.body (envF F.nf f s.heap.objs.size)) _ _
  have kp : ∀ b o, s.heap.get? b = some o → h₁.get? b = some o := fun b o e => hsb.extBut b o (Nat.ne_of_lt (Heap.lt_size e)) (Heap.get?_push_of_some _ e)
  obtain ⟨t, ht, hq⟩ := hbody F f A outer s H vs ws Q E hd (hr.deeper _) C.len hsp
  rw [hd]
  have I : Inv (ncx (L2.CX P w) P w K mg base N F.nf f A outer s H E) [] (startF N (vs ++ ds) ws) H { s with heap := h₁, toks := s.toks + (ps.zip (us ++ dvs)).length } := inv_startN S' hr.hd e0 hl r2 C hns kp
  refine PySem.W.kla_codeExpr (wpAny_mono (ht.run [] _ _ H Q I hq) (fun v s' hq => ?_) fun e s' hq => hq)
  obtain ⟨w', H', J', rv, q⟩ := hq
  exact ⟨w', H', J'.os, J'.bare, J'.base, J'.hok, rv, q⟩
theorem LOk.mono {d : LamD} {ps fr : List Str} {ds : List V} {j k : Nat} {sp : List (Option V) → Sp} (o : LOk P w K mg base j d ps fr ds sp) (h : j ≤ k) : LOk P w K mg base k d ps fr ds sp := ⟨fun F f A outer s H us vs ws Q E e hr => o.run F f A outer s H us vs ws Q E e (hr.mono h)⟩
theorem lbind0 {d : LamD} {ps : List Str} (h : ∀ (F : LF) (doc pm ctv : Value) (us : List Value), F.d = d → F.dV = .none → us.length = ps.length → bindArgs (F.fd doc pm ctv) ⟨us, []⟩ = pure (ps.zip us)) : LBind d ps [] := fun F doc pm ctv s us dvs hd hl rd hv => by
  cases rd
  rw [List.append_nil] at hl ⊢
  rcases hv with ⟨e, _⟩ | ⟨z, _⟩
  · exact .of_eq (h F doc pm ctv us hd e hl)
  · exact absurd rfl z
theorem lbind1 {d : LamD} {p : Str} {x : V} (h : ∀ (F : LF) (doc pm ctv : Value), F.d = d → ∃ k : Option (Array Value) → Sem (List (Str × Value)), bindArgs (F.fd doc pm ctv) ⟨[], []⟩ = seqItems? F.dV >>= k ∧ ∀ u, k (some #[u]) = pure [(p, u)]) : LBind d [p] [x] := fun F doc pm ctv s us dvs hd hl rd hv => by
  cases rd with
  | @cons _ u _ ur ru rr =>
    cases rr
    have e : us = [] := by
      cases us with
      | nil => rfl
      | cons a b =>
        simp at hl
    subst e
    rcases hv with ⟨_, z⟩ | ⟨_, t, o, n, e1, e2, e3⟩
    · cases z
    · obtain ⟨k, h1, h2⟩ := h F doc pm ctv hd
      exact BindsTo.of_defaults (n := n) e1 e2 e3 h1 (h2 u)
end
/-! ### a closure at a state -/
structure Clo (P : Program) (w : World) (K : PySem.W.Frag) (mg : Str → Option Value) (base : Heap) (k : Nat) (f : Addr) (sp : Sp) (s : Shared) (H : Hp) : Prop where
  fn : ∃ F, FnF H f F
  run : ∀ (A : Around) (outer : List Env) (s' : Shared) (H' : Hp) (us : List Value) (vs : List V) (Q : VK) (E : XK), Room k A → Env0 P w K mg base A outer s' H' → Kp s H s' H' → Vals vs us → sp vs H' Q E → codeAny (model P w) A (.call (.ref f) ⟨us, []⟩) (CR (L2.CX P w) outer P w H' s' Q E) s'
section
variable {P : Program} {w : World} {K : PySem.W.Frag} {mg : Str → Option Value} {base : Heap} {k j : Nat} {f : Addr} {sp : Sp} {s s' : Shared} {H H' : Hp}
theorem Clo.kp (c : Clo P w K mg base k f sp s H) (p : Kp s H s' H') : Clo P w K mg base k f sp s' H' := ⟨let ⟨F, z⟩ := c.fn; ⟨F, z.st p.still⟩, fun A outer s2 H2 us vs Q E hr e0 p2 => c.run A outer s2 H2 us vs Q E hr e0 (p.tr p2)⟩
theorem Clo.imp {sp' : Sp} (c : Clo P w K mg base k f sp s H) (h : ∀ vs H Q E, sp' vs H Q E → sp vs H Q E) : Clo P w K mg base k f sp' s H := ⟨c.fn, fun A outer s2 H2 us vs Q E hr e0 p2 r q => c.run A outer s2 H2 us vs Q E hr e0 p2 r (h _ _ _ _ q)⟩
theorem Clo.mono (c : Clo P w K mg base j f sp s H) (h : j ≤ k) : Clo P w K mg base k f sp s H := ⟨c.fn, fun A outer s2 H2 us vs Q E hr => c.run A outer s2 H2 us vs Q E (hr.mono h)⟩
theorem clo_of {d : LamD} {ps fr : List Str} {ds : List V} {F : LF} {ws : List (Option V)} {spl : List (Option V) → Sp} (L : LOk P w K mg base j d ps fr ds spl) (h : j ≤ k) (hd : F.d = d) (hF : Lam H f F ds) (C : CellsAt F.cl fr ws s.heap H) : Clo P w K mg base k f (spl ws) s H :=
  ⟨⟨F, hF.fn⟩, fun A outer s2 H2 us vs Q E hr e0 p2 r q => L.run F f A outer s2 H2 us vs ws Q E hd (hr.mono h) e0 (hF.st p2.still) (cellsAt_kp C p2) r q⟩
end
end G57
end
section
set_option maxRecDepth 100000
set_option maxHeartbeats 4000000
/-! XLam3: defs whose promise tells of the state; calls of closures. -/
namespace G57
open PySem PySem.Spec PyProof.Rows L2 LamX NdefX
abbrev SpS := Shared → Sp
def FnS (P : Program) (w : World) (K : PySem.W.Frag) (mg : Str → Option Value) (base : Heap) (CX : CXT) (k : Nat) (f : Addr) (spS : SpS) : Prop :=
  ∀ (A : Around) (outer : List Env) (s : Shared) (H : Hp) (us : List Value) (vs : List V) (Q : VK) (E : XK), Room k A → Env0 P w K mg base A outer s H → Vals vs us → spS s vs H Q E → codeAny (model P w) A (.call (.ref f) ⟨us, []⟩) (CR CX outer P w H s Q E) s
structure CalS (P : Program) (w : World) (K : PySem.W.Frag) (mg : Str → Option Value) (base : Heap) (CX : CXT) (k : Nat) (x : Str) (spS : SpS) : Prop where
  ex : ∃ f : Addr, FnS P w K mg base CX k f spS ∧ mg x = some (.ref f) ∧ PySem.W.keepIn K (.ref f) = true
section
variable {P : Program} {w : World} {K : PySem.W.Frag} {mg : Str → Option Value} {base : Heap} {CX : CXT}
theorem fnS_of {x qual : Str} {pa : Arguments} {bd : List Stmt} {sc : Scope} {kws : List (Str × V)} {f : Addr} {fd : FuncData} {N ps : List Str} {k : Nat} {spS : SpS} (F : FunD K x qual pa bd sc [] kws f fd) (S : FnScope N ps sc) (b : BindA x qual pa bd sc ps)
    (len : ∀ s vs H Q E, spS s vs H Q E → vs.length = ps.length)
    (hb : ∀ (cdv : Value) (A : Around) (outer : List Env) (s : Shared) (H : Hp) (vs : List V) (Q : VK) (E : XK), Room k (A.deeper (envOfC qual sc s.heap.objs.size f cdv)) → spS s vs H Q E →
      ∃ t, PSs (cxOf CX P w K mg base N qual sc f cdv A outer s H E) bd t ∧ t { nx := fun _ H' => Q .non H', rt := Q } (start N vs) H) : FnS P w K mg base CX (k + 1) f spS := by
  obtain ⟨oc, od, kV, doc, pm, an, cdv, ct, osl, rfl, lk, hcd⟩ := fun_of F
  intro A outer s H us vs Q E hr e0 r hsp
  have hl := len _ _ _ _ _ hsp
  exact run_ofS (us := us) (vs := vs) lk hcd S hr e0 (BindsTo.of_eq (b kV doc pm an cdv ct us (by rw [← r.length]; exact hl))) r hl fun hr' => hb cdv A outer s H vs Q E hr' hsp
theorem cals_of {d : DefA} {x : Str} {N ps : List Str} {k : Nat} {spS : SpS} (F : ∃ fd, d.Fn K fd) (hp : d.path = pG x) (hd : d.dfl = []) (hm : mg x = some (.ref (He.ga K x))) (S : FnScope N ps d.scope)
    (b : BindA d.name d.qual d.params d.body d.scope ps) (len : ∀ s vs H Q E, spS s vs H Q E → vs.length = ps.length)
    (hb : ∀ (cdv : Value) (A : Around) (outer : List Env) (s : Shared) (H : Hp) (vs : List V) (Q : VK) (E : XK), Room k (A.deeper (envOfC d.qual d.scope s.heap.objs.size (He.ga K x) cdv)) → spS s vs H Q E →
      ∃ t, PSs (cxOf CX P w K mg base N d.qual d.scope (He.ga K x) cdv A outer s H E) d.body t ∧ t { nx := fun _ H' => Q .non H', rt := Q } (start N vs) H) : CalS P w K mg base CX (k + 1) x spS := by
  obtain ⟨fd, F⟩ := F
  have F' : FunD K d.name d.qual d.params d.body d.scope [] (d.kws K) (He.ga K x) fd := by
    have q : FunD K d.name d.qual d.params d.body d.scope (d.dvs K) (d.kws K) (d.path K) fd := F
    unfold DefA.dvs at q
    rw [hd, hp] at q
    exact q
  exact ⟨_, fnS_of F' S b len hb, hm, F'.kp⟩
end
/-- how the state is told where a def is called -/
def tCallS (Kn : L2.St → Shared → Hp → Prop) (spS : SpS) (E : L2.St → XK) (t : TA) : TE := fun σ H Q => t σ H fun vs H1 => ∀ s, Kn σ s H1 → spS s vs H1 Q (E σ)
section
variable {X : Cx} {CX : CXT} {k j : Nat} {x : Str} {spS : SpS} {E : L2.St → XK} {Kn : L2.St → Shared → Hp → Prop} {p pos : Pos} {e : Expr} {es : List Expr} {t : TA}
theorem pe_cS (c : CalS X.prog X.w X.K X.mg X.base CX k x spS) (hr : Room j X.A) (hk : k ≤ j) (hg : Gl X x) (hKn : ∀ pins σ H s, Inv X pins σ H s → Kn σ s H) (hx : ∀ σ, PassesAt CX X σ (E σ)) (ha : PA X (e :: es) t)
    (hdb : (x == ("__debug__" : Str)) = false := by decide) (he : starEach (e :: es) X.env = (false, eval e X.env) :: starEach es X.env := by rfl) (hpl : (backTo pos (starEach es X.env)).any (·.1) = false := by rfl) :
    PE X (.Call (.Name x p) (e :: es) [] pos) (tCallS Kn spS E t) := by
  refine ⟨fun pins s σ H Q I h => ?_⟩
  obtain ⟨f, F, hm, kp⟩ := c.ex
  refine wpAny_Call_Name_kw (ld_glob I hg hm ?_ hdb)
  refine PySem.W.callWith_K (h₀ := X.base) I.ok.mod.kin kp (thn (ha.run pos pins s σ H _ I h) fun us s1 ⟨vs, H1, I1, r, q⟩ => ⟨I1.kIn, ?_⟩) he hpl
  refine wpAny_call (codeAny_mono (F X.A X.stack s1 H1 us vs Q (E σ) (hr.mono hk) I1.env0 r (q s1 (hKn _ _ _ _ I1))) fun r s' hq => ?_)
  cases r with
  | error e => exact hx σ pins H1 s1 e s' I1 hq
  | ok fl =>
    cases fl with
    | ret u => exact I1.after hq
    | next => exact False.elim hq
    | brk => exact False.elim hq
    | cont => exact False.elim hq
/-- a closure that a name holds, called without arguments -/
def tClo0 (i : Nat) (Ck : Shared → Hp → Addr → Sp → Prop) (E : L2.St → XK) : TE := fun σ H Q => ∃ f sp, σ[i]? = some (some (.ref f)) ∧ (∀ s, Ck s H f sp) ∧ sp [] H Q (E σ)
theorem clo_at {P : Program} {w : World} {H : Hp} {h : Heap} {f : Addr} {F : LF} (hok : HOk P w H h) (e : FnF H f F) : PySem.W.FnAt f h := by
  obtain ⟨doc, pm, ctv, z⟩ := e
  exact ⟨_, _, _, _, frz_at hok z⟩
/-- .. f(): what is known of closures is told by Kn -/
theorem pe_clo0 {i : Nat} (hr : Room j X.A) (hk : k ≤ j) (hx : ∀ σ, PassesAt (L2.CX X.prog X.w) X σ (E σ)) (hKn : ∀ pins σ H s, Inv X pins σ H s → Kn σ s H) (hN : X.N[i]? = some x) (hv : Vis X.env.scope x)
    (hd : (x == ("__debug__" : Str)) = false := by decide) (hcd : (x == ("__classdict__" : Str)) = false := by decide) :
    PE X (.Call (.Name x p) [] [] pos) (fun σ H Q => ∃ f sp, σ[i]? = some (some (.ref f)) ∧ (∀ s, Kn σ s H → Clo X.prog X.w X.K X.mg X.base k f sp s H) ∧ sp [] H Q (E σ)) := by
  refine ⟨fun pins s σ H Q I h => ?_⟩
  obtain ⟨f, sp, hs, hc, q⟩ := h
  refine wpAny_Call_Name_kw (thn ((pe_var (pos := p) (i := i) hN hv hd hcd).run pins s σ H (fun v H1 => v = .ref f ∧ H1 = H) I ⟨.ref f, hs, rfl, rfl⟩) fun u s1 ⟨v, H1, I1, r1, q1⟩ => ?_)
  obtain ⟨ev, eH⟩ := q1
  subst ev
  rw [eH] at I1
  obtain rfl : u = Value.ref f := r1
  have C := hc s1 (hKn _ _ _ _ I1)
  obtain ⟨F, hF⟩ := C.fn
  refine PySem.W.callWith_F0 (first := []) (clo_at I1.hok hF) ?_
  show wpAny _ _ (call (.ref f) []) _ _ _
  refine wpAny_call (codeAny_mono (C.run X.A X.stack s1 H [] [] Q (E σ) (hr.mono hk) I1.env0 .refl .nil q) fun r s' hq => ?_)
  cases r with
  | error e => exact hx σ pins H s1 e s' I1 hq
  | ok fl =>
    cases fl with
    | ret u => exact I1.after hq
    | next => exact False.elim hq
    | brk => exact False.elim hq
    | cont => exact False.elim hq
theorem pe_clo {i : Nat} (hr : Room j X.A) (hk : k ≤ j) (hx : ∀ σ, PassesAt (L2.CX X.prog X.w) X σ (E σ)) (hKn : ∀ pins σ H s, Inv X pins σ H s → Kn σ s H) (hN : X.N[i]? = some x) (hv : Vis X.env.scope x) (ha : PA X (e :: es) t)
    (hd : (x == ("__debug__" : Str)) = false := by decide) (hcd : (x == ("__classdict__" : Str)) = false := by decide)
    (he : starEach (e :: es) X.env = (false, eval e X.env) :: starEach es X.env := by rfl) (hpl : (backTo pos (starEach es X.env)).any (·.1) = false := by rfl) :
    PE X (.Call (.Name x p) (e :: es) [] pos) (fun σ H Q => ∃ f sp, σ[i]? = some (some (.ref f)) ∧ (∀ s, Kn σ s H → Clo X.prog X.w X.K X.mg X.base k f sp s H) ∧ t σ H fun vs H1 => (∃ F, FnF H1 f F) ∧ (∀ s, Kn σ s H1 → Clo X.prog X.w X.K X.mg X.base k f sp s H1) ∧ sp vs H1 Q (E σ)) := by
  refine ⟨fun pins s σ H Q I h => ?_⟩
  obtain ⟨f, sp, hs, hc, ht⟩ := h
  refine wpAny_Call_Name_kw (thn ((pe_var (pos := p) (i := i) hN hv hd hcd).run pins s σ H (fun v H1 => v = .ref f ∧ H1 = H) I ⟨.ref f, hs, rfl, rfl⟩) fun u s1 ⟨v, H1, I1, r1, q1⟩ => ?_)
  obtain ⟨ev, eH⟩ := q1
  subst ev
  rw [eH] at I1
  obtain rfl : u = Value.ref f := r1
  obtain ⟨F, hF⟩ := (hc s1 (hKn _ _ _ _ I1)).fn
  refine PySem.W.callWith_F (first := []) (clo_at I1.hok hF) (thn (ha.run pos pins s1 σ H _ I1 ht) fun us s2 ⟨vs, H2, I2, r, ⟨F2, h1⟩, h2, q⟩ => ⟨clo_at I2.hok h1, ?_⟩) he hpl
  show wpAny _ _ (call (.ref f) us) _ _ _
  refine wpAny_call (codeAny_mono ((h2 s2 (hKn _ _ _ _ I2)).run X.A X.stack s2 H2 us vs Q (E σ) (hr.mono hk) I2.env0 .refl r q) fun r s' hq => ?_)
  cases r with
  | error e => exact hx σ pins H2 s2 e s' I2 hq
  | ok fl =>
    cases fl with
    | ret u => exact I2.after hq
    | next => exact False.elim hq
    | brk => exact False.elim hq
    | cont => exact False.elim hq
/-- in the frame of a def entered at s_0: what is known there is known on -/
theorem kp_of {pins : List (Addr × Obj)} {σ : L2.St} {H : Hp} {s : Shared} (hex : X.ex = []) (I : Inv X pins σ H s) : Kp X.s_0 X.H_0 s H := Kp.un I.base fun b v _ _ => by
  rw [hex]
  simp
end
end G57
end
section
set_option maxRecDepth 100000
set_option maxHeartbeats 4000000
/-! XExc: defs and methods that may raise. -/
namespace G57
open PySem PySem.Spec PyProof.Rows L2
section
variable {P : Program} {w : World} {K : PySem.W.Frag} {mg : Str → Option Value} {base : Heap}
/-- what a body must show that may raise -/
abbrev BodyX (P : Program) (w : World) (K : PySem.W.Frag) (mg : Str → Option Value) (base : Heap) (N : List Str) (d : DefA) (f : Addr) (k : Nat) (sp : Sp) : Prop :=
  ∀ (cdv : Value) (A : Around) (outer : List Env) (s : Shared) (H : Hp) (vs : List V) (Q : VK) (E : XK), Room k (A.deeper (envOfC d.qual d.scope s.heap.objs.size f cdv)) → sp vs H Q E →
    ∃ t, PSs (cxOf (L2.CX P w) P w K mg base N d.qual d.scope f cdv A outer s H E) d.body t ∧ t { nx := fun _ H' => Q .non H', rt := Q } (start N vs) H
structure CalX (P : Program) (w : World) (K : PySem.W.Frag) (mg : Str → Option Value) (base : Heap) (k : Nat) (x : Str) (sp : Sp) : Prop where
  ex : ∃ (f : Addr) (fd : FuncData) (ps : List Str), FnOk P w K mg base (L2.CX P w) k f fd ps sp ∧ mg x = some (.ref f) ∧ PySem.W.keepIn K (.ref f) = true ∧ Binds K fd ps []
structure MetX (P : Program) (w : World) (K : PySem.W.Frag) (mg : Str → Option Value) (base : Heap) (k : Nat) (C : Addr) (m : Str) (sp : Sp) : Prop where
  ex : ∃ (f : Addr) (fd : FuncData) (ps : List Str), Cls K C ∧ Meth K C m f ∧ FnOk P w K mg base (L2.CX P w) k f fd ps sp ∧ Binds K fd ps []
structure MakX (P : Program) (w : World) (K : PySem.W.Frag) (mg : Str → Option Value) (base : Heap) (k : Nat) (x : Str) (C : Addr) (sp : Sp) : Prop where
  ex : ∃ (f : Addr) (fd : FuncData) (ps : List Str), Mk K C f ∧ FnOk P w K mg base (L2.CX P w) k f fd ps sp ∧ mg x = some (.ref C) ∧ Binds K fd ps []
theorem fnx_of {d : DefA} {f : Addr} {fd : FuncData} {N ps : List Str} {k : Nat} {sp : Sp} (F : FunD K d.name d.qual d.params d.body d.scope [] (d.kws K) f fd) (S : FnScope N ps d.scope) (len : ∀ vs H Q E, sp vs H Q E → vs.length = ps.length) (hb : BodyX P w K mg base N d f k sp) :
    FnOk P w K mg base (L2.CX P w) (k + 1) f fd ps sp := by
  obtain ⟨oc, od, kV, doc, pm, an, cdv, ct, osl, rfl, lk, hcd⟩ := fun_of F
  exact fn_of lk hcd S len fun A outer s H vs Q E hr hsp => hb cdv A outer s H vs Q E hr hsp
theorem fd_at {d : DefA} {p : PySem.W.Frag → Addr} (F : ∃ fd, d.Fn K fd) (hp : d.path = p) (hd : d.dfl = []) : ∃ fd, FunD K d.name d.qual d.params d.body d.scope [] (d.kws K) (p K) fd := by
  obtain ⟨fd, F⟩ := F
  refine ⟨fd, ?_⟩
  have q : FunD K d.name d.qual d.params d.body d.scope (d.dvs K) (d.kws K) (d.path K) fd := F
  unfold DefA.dvs at q
  rw [hd, hp] at q
  exact q
theorem binds_of {d : DefA} {f : Addr} {fd : FuncData} {ps : List Str} (F : FunD K d.name d.qual d.params d.body d.scope [] (d.kws K) f fd) (b : BindA d.name d.qual d.params d.body d.scope ps) : Binds K fd ps [] := by
  obtain ⟨oc, od, kV, doc, pm, an, cdv, ct, osl, rfl, lk, hcd⟩ := fun_of F
  exact .all (b kV doc pm an cdv ct)
theorem calX_of {d : DefA} {x : Str} {N ps : List Str} {k : Nat} {sp : Sp} (F : ∃ fd, d.Fn K fd) (hp : d.path = pG x) (hd : d.dfl = []) (hm : mg x = some (.ref (He.ga K x))) (S : FnScope N ps d.scope)
    (b : BindA d.name d.qual d.params d.body d.scope ps) (len : ∀ vs H Q E, sp vs H Q E → vs.length = ps.length) (hb : BodyX P w K mg base N d (He.ga K x) k sp) : CalX P w K mg base (k + 1) x sp := by
  obtain ⟨fd, F⟩ := fd_at F hp hd
  exact ⟨_, fd, ps, fnx_of F S len hb, hm, F.kp, binds_of F b⟩
theorem metX_of {d : DefA} {C m : Str} {N ps : List Str} {k : Nat} {sp : Sp} (F : ∃ fd, d.Fn K fd) (hp : d.path = pM C m) (hd : d.dfl = []) (hc : Cls K (He.ga K C)) (hm : Meth K (He.ga K C) m (He.ma K (He.ga K C) m)) (S : FnScope N ps d.scope)
    (b : BindA d.name d.qual d.params d.body d.scope ps) (len : ∀ vs H Q E, sp vs H Q E → vs.length = ps.length) (hb : BodyX P w K mg base N d (He.ma K (He.ga K C) m) k sp) : MetX P w K mg base (k + 1) (He.ga K C) m sp := by
  obtain ⟨fd, F⟩ := fd_at F hp hd
  exact ⟨_, fd, ps, hc, hm, fnx_of F S len hb, binds_of F b⟩
theorem makX_of {d : DefA} {C : Str} {N ps : List Str} {k : Nat} {sp : Sp} (F : ∃ fd, d.Fn K fd) (hp : d.path = pM C "__init__") (hd : d.dfl = []) (hm : mg C = some (.ref (He.ga K C))) (M : Mk K (He.ga K C) (He.ma K (He.ga K C) "__init__")) (S : FnScope N ps d.scope)
    (b : BindA d.name d.qual d.params d.body d.scope ps) (len : ∀ vs H Q E, sp vs H Q E → vs.length = ps.length) (hb : BodyX P w K mg base N d (He.ma K (He.ga K C) "__init__") k sp) : MakX P w K mg base (k + 1) C (He.ga K C) sp := by
  obtain ⟨fd, F⟩ := fd_at F hp hd
  exact ⟨_, fd, ps, M, fnx_of F S len hb, hm, binds_of F b⟩
end
section
variable {X : Cx} {k j : Nat} {C : Addr} {x m : Str} {sp : Sp} {p pos apos : Pos} {e o : Expr} {es : List Expr} {ta : TE} {t : TA} {E : XK}
theorem pe_cX (c : CalX X.prog X.w X.K X.mg X.base k x sp) (hr : Room j X.A) (hk : k ≤ j) (hg : Gl X x) (hx : Passes (L2.CX X.prog X.w) X E) (ha : PA X (e :: es) t)
    (hdb : (x == ("__debug__" : Str)) = false := by decide) (he : starEach (e :: es) X.env = (false, eval e X.env) :: starEach es X.env := by rfl) (hpl : (backTo pos (starEach es X.env)).any (·.1) = false := by rfl) :
    PE X (.Call (.Name x p) (e :: es) [] pos) (tCall sp [] E t) := by
  obtain ⟨f, fd, ps, F, hm, kp, b⟩ := c.ex
  exact pe_call F (hr.mono hk) hg hm kp b .nil hx ha hdb he hpl
theorem pe_kX (c : MakX X.prog X.w X.K X.mg X.base k x C sp) (hr : Room j X.A) (hk : k + 1 ≤ j) (hg : Gl X x) (hx : Passes (L2.CX X.prog X.w) X E) (ha : PA X (e :: es) t)
    (hdb : (x == ("__debug__" : Str)) = false := by decide) (he : starEach (e :: es) X.env = (false, eval e X.env) :: starEach es X.env := by rfl) (hpl : (backTo pos (starEach es X.env)).any (·.1) = false := by rfl) :
    PE X (.Call (.Name x p) (e :: es) [] pos) (tMake C sp [] E t) := by
  obtain ⟨f, fd, ps, M, F, hm, b⟩ := c.ex
  exact pe_make M F (hr.mono hk) hg hm b .nil hx ha hdb he hpl
theorem pe_mX {pl : Sem Bool} (c : MetX X.prog X.w X.K X.mg X.base k C m sp) (hr : Room j X.A) (hk : k ≤ j) (hx : Passes (L2.CX X.prog X.w) X E) (he : PE X o ta) (ha : PA X (e :: es) t)
    (hst : starEach (e :: es) X.env = (false, eval e X.env) :: starEach es X.env := by rfl) (hpl : (backTo pos (starEach es X.env)).any (·.1) = false := by rfl)
    (ht : eval (.Call (.Attribute o m apos) (e :: es) [] pos) X.env = (do
      let ov ← eval o X.env
      standAt apos.atName
      let (f, first) ← holding [ov] (getMethod ov m pl)
      callWith pos f first (backTo pos (starEach (e :: es) X.env)) (backToKw pos (keywordEach [] X.env))) := by rfl) :
    PE X (.Call (.Attribute o m apos) (e :: es) [] pos) (tMeth C m sp [] E ta t) := by
  obtain ⟨f, fd, ps, hc, hm, F, b⟩ := c.ex
  exact pe_meth (pl := pl) he hc hm F (hr.mono hk) b .nil hx ha hst hpl ht
/-- what a def's body lets out is the def's wish -/
theorem lets {tk : Takes X fun cls d _ H => E cls d H} : Passes (L2.CX X.prog X.w) X E := passes_call tk fun _ _ _ _ h => h
end
section
variable {K : PySem.W.Frag} {σ : L2.St} {H : Hp} {D : Ends} {c : Value} {ts : Addr → Value → Option Addr → TS} {Wout : WX} {tb : WX → TS}
end
end G57
end
section
set_option maxRecDepth 100000
set_option maxHeartbeats 4000000
/-! XLam4: a comprehension whose block is told what the def's frame knows; the head's facts with tables; the end. -/
namespace G57
open PySem PySem.Spec PyProof.Rows L2 LamX NdefX
section
variable {X : Cx} {elt tg iter : Expr} {ifs : List Expr} {scope : Scope} {own : List (Str × Nat)} {pos pos' : Pos} {wi : TI} {g : TG} {tt : TT} {te : TE}
/-- the three parts of a block, where the def's frame stands at its start -/
def BlkK (X : Cx) (scope : Scope) (tg : Expr) (ifs : List Expr) (elt : Expr) (g : TG) (tt : TT) (te : TE) (σ : L2.St) : Prop :=
  ∀ (pl : List (Addr × Obj)) (s0 : Shared) (H0 : Hp) (C : Addr) (cl : List (Str × Addr)) (fp : List Addr), Inv X pl σ H0 s0 → (∀ b ∈ fp, ∃ o, s0.heap.get? b = some o ∧ ∀ v, o.data ≠ .cell v) →
    PG (X.blk s0 H0 scope (compEnvC scope cl C X.env) fp) tg g ∧ PTs (X.blk s0 H0 scope (compEnvC scope cl C X.env) fp) ifs tt ∧ PE (X.blk s0 H0 scope (compEnvC scope cl C X.env) fp) elt te
theorem lcK {pins : List (Addr × Obj)} {s : Shared} {σ : L2.St} {H : Hp} {Q : VK} {use : Option (Value → Sem Unit)} {Qf : Value → Shared → Prop} (calm : X.calm = true) (nd : X.N.Nodup) (I : Inv X pins σ H s) (walk : PI X tg iter wi) (ok : BlkOk X.N X.env.scope scope own)
    (blk : BlkK X scope tg ifs elt g tt te σ) (fold : ∀ x, foldedSetIterable iter X.env x = pure x) (rd : tLc wi g tt te (own.map (·.2)) σ H Q)
    (out : ∀ D C s' m H', Inv X pins σ H' s' → Q (.ref D) H' → s'.heap.Ns C m → FpOk X pins H' C → compPost (model X.prog X.w) X.A X.xe use Qf (.ref D) C (.ok .next) s') :
    wpAny (model X.prog X.w) X.A (comprehension (.ListComp elt [⟨tg, iter, ifs, 0⟩] scope pos) scope X.env pos' (newList []) false (eval iter X.env) use) Qf X.xe s := by
  have caught : ∀ y ∈ scope.names, y.2 = .free → ∃ c, X.env.cells.lookup y.1 = some c := fun y hy e => (ok.free y hy e).elim (fun z => I.ok.has _ (.inl z)) fun z => I.ok.has _ (.inr z)
  refine wpAny_comprehension_free (use := use) rfl fold (closure_ok caught) ok.kind (fun y hy e => (ok.uniq y hy).trans (congrArg some e)) (thn (walk.run pins s σ H _ I rd) fun xv s1 hx => thn hx fun itv s2 hw => ?_)
  obtain ⟨it, fp, tn, J, H2, rfl, I2, T, at0, fp0, turns⟩ := hw
  refine wpAny_newObj_type (newEnv_comp ?_) (by show 0 ≤ sizeLine; decide)
  -- the list that is made
  obtain ⟨D, hD⟩ : ∃ D, D = s2.heap.objs.size := ⟨_, rfl⟩
  rw [← hD]
  have newD : H2 D = none := I2.hok.fresh (by rw [hD]; exact Nat.le_refl _)
  obtain ⟨W, ⟨m0, start⟩, turn⟩ := turns D newD
  obtain ⟨sA, hA⟩ : ∃ sA : Shared, sA = { s2 with heap := s2.heap.push { cls := .type "list", data := .seq ([] : List Value).toArray } } := ⟨_, rfl⟩
  have hpA : sA.heap = s2.heap.push { cls := .type "list", data := .seq ([] : List Value).toArray } := congrArg Shared.heap hA
  have keepA : ∀ b o, s2.heap.get? b = some o → sA.heap.get? b = some o := fun b o e => by
    rw [hpA]
    exact Heap.get?_push_of_some _ e
  obtain ⟨HA, hHA⟩ : ∃ HA : Hp, HA = upd H2 D (.lst []) := ⟨_, rfl⟩
  rw [← hHA] at start
  have IA : Inv X pins σ HA sA := by
    subst hHA hA
    exact I2.laid (t' := s2.toks) keepA (by rw [hD]; exact Nat.le_refl _) ⟨Nat.zero_le _, [], 0, .nil, by rw [hD]; exact Heap.get?_push_size _ rfl⟩
  have old : ∀ b ∈ fp, b < s2.heap.objs.size := fun b hb => let ⟨o, e, _⟩ := T.obj _ _ at0 b hb; Heap.lt_size e
  have fpA : ∀ b ∈ fp, FpOk X pins HA b ∧ b < sA.heap.objs.size := fun b hb => by
    have lt := old b hb
    have z := fp0 b hb
    refine ⟨⟨by rw [hHA, upd_ne (by rw [hD]; exact Nat.ne_of_lt lt)]; exact z.1, z.2⟩, ?_⟩
    rw [hpA, Heap.size_push]
    exact Nat.lt_succ_of_lt lt
  have atA : tn 0 sA.heap := T.keep _ _ _ at0 fun b _ o e => keepA b o e
  have IB := block_start IA ok nd fpA
  obtain ⟨pg, pt, pe⟩ := blk pins sA HA sA.heap.objs.size (cellsFrom (sA.heap.objs.size + 1) scope.names (cloFrom X.env.cells scope.names [])) fp IA (T.obj 0 _ atA)
  rw [← hA]
  show codeAny _ _ (.compStart (.ListComp elt [⟨tg, iter, ifs, 0⟩] scope pos) 0 (.ref it) (.ref D) (compEnvC scope (cellsFrom (sA.heap.objs.size + 1) scope.names (cloFrom X.env.cells scope.names [])) sA.heap.objs.size X.env)) (compPost (model X.prog X.w) X.A X.xe use Qf (.ref D) sA.heap.objs.size) { sA with heap := pushCells (sA.heap.push { cls := .type "dict", data := .dict #[] }) scope.names }
  have untr : ∀ b ∈ fp, HA b = none := fun b hb => (fpA b hb).1.1
  obtain ⟨ce, hce⟩ : ∃ ce : Env, ce = compEnvC scope (cellsFrom (sA.heap.objs.size + 1) scope.names (cloFrom X.env.cells scope.names [])) sA.heap.objs.size X.env := ⟨_, rfl⟩
  have ceL : ce.locals = sA.heap.objs.size := by rw [hce] <;> rfl
  rw [← hce] at IB pg pt pe ⊢
  obtain ⟨sB, hB⟩ : ∃ sB : Shared, sB = { sA with heap := pushCells (sA.heap.push { cls := .type "dict", data := .dict #[] }) scope.names } := ⟨_, rfl⟩
  rw [← hB] at IB ⊢
  have atB : tn 0 sB.heap := T.keep _ _ _ atA fun b _ o e => by
    rw [hB]
    exact pushCells_keeps _ _ _ _ (Heap.get?_push_of_some _ e)
  have own_fp : ∀ {σ' : L2.St} {H' : Hp} {s' : Shared}, Inv (X.blk sA HA scope ce fp) [] σ' H' s' → (∀ b ∈ fp, H' b = none) → ∀ b ∈ fp, FpOk (X.blk sA HA scope ce fp) [] H' b := fun J' n b hb =>
    ⟨n b hb, (J'.ok.exf b hb).1, J'.ok.exfs b hb, .inl hb, fun x c e => (J'.ok.exf b hb).2 x c e, fun p hp => (nomatch (show p ∈ ([] : List (Addr × Obj)) from hp))⟩
  have back : ∀ {σ' : L2.St} {H' : Hp} {s' : Shared}, Inv (X.blk sA HA scope ce fp) [] σ' H' s' → Inv X pins σ H' s' := fun J' => IA.call' (ch := fp) J'.os J'.base J'.hok J'.bare fun b hb => ⟨(fpA b hb).1.2.2.2.1, (fpA b hb).1.2.1, (fpA b hb).1.2.2.2.2.1, (fpA b hb).1.2.2.2.2.2⟩
  let G : Nat → Shared → Prop := fun n s' => ∃ i H', Inv (X.blk sA HA scope ce fp) [] (wipe σ (own.map (·.2))) H' s' ∧ tn i s'.heap ∧ (∀ b ∈ fp, H' b = none) ∧ W i n H'
  have loop : codeAny (model X.prog X.w) X.A (.compLoop (.ListComp elt [⟨tg, iter, ifs, 0⟩] scope pos) 0 (.ref it) (.ref D) ce) (compPost (model X.prog X.w) X.A X.xe use Qf (.ref D) sA.heap.objs.size) sB := by
    refine compLoop_any G (fun n sC hG => ?_) m0 ⟨0, HA, IB, atB, untr, start⟩
    obtain ⟨i, HC, IC, atC, unC, wC⟩ := hG
    rcases turn i n HC wC with ⟨stop, qq⟩ | ⟨go, Nx, nxt, step⟩
    · refine thnF (T.done (X.blk sA HA scope ce fp) rfl rfl rfl calm i [] sC _ HC (fun _ _ => False) IC (own_fp IC unC) atC stop) fun r sD ⟨hr, ID⟩ => ?_
      subst hr
      have nC : HC sA.heap.objs.size = none := ceL ▸ ID.free
      obtain ⟨m, hn, _⟩ := ID.loc
      exact out D sA.heap.objs.size sD m HC (back ID) qq (ceL ▸ hn) (IA.fpOk (Nat.le_refl _) nC)
    · refine thnF (T.item (X.blk sA HA scope ce fp) rfl rfl rfl calm i [] sC _ HC (fun _ _ => False) IC (own_fp IC unC) atC go) fun r sD ⟨u, hr, more⟩ => ?_
      subst hr
      refine thnF more fun _ sE ⟨x, HE, IE, rx, yl, atE, unE⟩ => ?_
      have IE' := IE.pinned (own_fp IE unE) (T.obj _ _ atE)
      refine thnF (pg.run _ sE _ HE x u _ IE' rx (step x HE yl)) fun _ sF ⟨σF, HF, IF, wip, qF⟩ => ?_
      refine thnF (pt.run _ sF σF HF _ IF qF) fun b sK ⟨HK, IK, qK⟩ => ?_
      have closes : ∀ {s' : Shared} {H' : Hp}, Inv (X.blk sA HA scope ce fp) ([] ++ pinsAt fp sE.heap) σF H' s' → Nx H' → ∃ m, m < n ∧ G m s' := fun {s' H'} J' nx => by
        obtain ⟨m', lt, w'⟩ := nxt H' nx
        have pinned : ∀ b ∈ fp, ∀ o, sE.heap.get? b = some o → s'.heap.get? b = some o ∧ H' b = none := fun b hb o e => by
          have z := J'.pin (b, o) (List.mem_append_right _ (List.mem_append_right _ (mem_pinsAt hb e)))
          exact ⟨z.1, z.2.1⟩
        refine ⟨m', lt, i + 1, H', (J'.unpinned (pins := [])).weak (by rw [← wip, wipe_length]) (fun j v e => ?_), T.keep _ _ _ atE fun b hb o e => (pinned b hb o e).1, fun b hb => ?_, w'⟩
        · rw [← wip] at e
          exact (wipe_some e).1
        · obtain ⟨o, e, _⟩ := T.obj _ _ atE b hb
          exact (pinned b hb o e).2
      cases b with
      | false =>
        simp only [Bool.false_eq_true, if_false] at qK ⊢
        exact closes IK qK
      | true =>
        simp only [if_true] at qK ⊢
        exact thnF (pe.run _ sK σF HK _ IK qK) fun z sL ⟨yv, HL, IL, rz, acc, aD, az, nx⟩ => app_ok (X := X.blk sA HA scope ce fp) IL aD az rz fun sM IM => closes IM nx
  exact codeAny_compStart_list loop (T.self X.A 0 _ _ _ atB loop)
/-- as a value; what the block reads may lean on the def's slots at its start -/
theorem pe_lcK {tt : L2.St → TT} {te : L2.St → TE} (calm : X.calm = true) (nd : X.N.Nodup) (walk : PI X tg iter wi) (ok : BlkOk X.N X.env.scope scope own) (blk : ∀ σ, BlkK X scope tg ifs elt g (tt σ) (te σ) σ) (fold : ∀ x, foldedSetIterable iter X.env x = pure x := by intro _; rfl) :
    PE X (.ListComp elt [⟨tg, iter, ifs, 0⟩] scope pos) (fun σ H Q => tLc wi g (tt σ) (te σ) (own.map (·.2)) σ H Q) := by
  refine ⟨fun pins s σ H Q I h => ?_⟩
  rw [eval_ListComp]
  refine lcK calm nd I walk ok (blk σ) fold h fun D C s' m H' I' q hn f => ⟨m, hn, fun h'' sb => ⟨.ref D, H', ?_, rfl, q⟩⟩
  exact I'.turned (t' := s'.toks) (fun b o hb e => (sb.2 b hb).trans e) f.1 f.2.1 f.2.2.2.1 f.2.2.2.2.1 f.2.2.2.2.2
end
/-- what was known at the block's start is known in it -/
theorem kp_blk {X : Cx} {s0 : Shared} {H0 : Hp} {scope : Scope} {ce : Env} {fp : List Addr} {pins : List (Addr × Obj)} {σ : L2.St} {H : Hp} {s : Shared} (hf : ∀ b ∈ fp, ∃ o, s0.heap.get? b = some o ∧ ∀ v, o.data ≠ .cell v) (I : Inv (X.blk s0 H0 scope ce fp) pins σ H s) : Kp s0 H0 s H :=
  Kp.un I.base fun b v ⟨o, ho, hd⟩ _ hb => by
    obtain ⟨o2, e, n⟩ := hf b hb
    rw [ho] at e
    cases e
    exact n v hd
/-! ### the place of a lambda in a text -/
def kS : Stmt → List Stmt
  | .For _ _ b o _ => b ++ o
  | .While _ b o _ => b ++ o
  | .If _ b o _ => b ++ o
  | .Try b _ o f _ => b ++ o ++ f
  | .With _ b _ => b
  | _ => []
def kE : Stmt → List Expr
  | .Return (some e) _ => [e]
  | .Assign _ e _ => [e]
  | .AugAssign _ _ e _ => [e]
  | .For _ i _ _ _ => [i]
  | .While t _ _ _ => [t]
  | .If t _ _ _ => [t]
  | .Expr e _ => [e]
  | _ => []
def eE : Expr → List Expr
  | .BoolOp _ vs _ => vs
  | .BinOp a _ b _ => [a, b]
  | .UnaryOp _ e _ => [e]
  | .Lambda _ b _ _ => [b]
  | .IfExp t a b _ => [t, a, b]
  | .Compare a _ bs _ => a :: bs
  | .Call f es _ _ => f :: es
  | .List es _ => es
  | .Tuple es _ _ => es
  | .Attribute e _ _ => [e]
  | .Subscript a b _ => [a, b]
  | _ => []
def noS : Stmt := .Pass ⟨0, 0, 0, 0⟩
def noE : Expr := .Name "?" ⟨0, 0, 0, 0⟩
def stP : List Stmt → List Nat → Stmt
  | _, [] => noS
  | l, [i] => l.getD i noS
  | l, i :: r => stP (kS (l.getD i noS)) r
def exP : Expr → List Nat → Expr
  | e, [] => e
  | e, i :: r => exP ((eE e).getD i noE) r
def lamE : Expr → LamD
  | .Lambda a b s p => ⟨a, b, s, p⟩
  | e => ⟨⟨[], [], none, [], [], none, []⟩, e, defScope noS, ⟨0, 0, 0, 0⟩⟩
/-- the lambda at the places r in the first expression of the statement at the places q -/
def lamAt (bd : List Stmt) (q r : List Nat) : LamD := lamE (exP ((kE (stP bd q)).getD 0 noE) r)
theorem lm_free {N : List Str} {sc lsc : Scope} {fr : List Str} {js : List Nat} (h : capB N sc lsc fr js = true) : ∀ y ∈ lsc.names, y.2 = .free → sc.names.lookup y.1 = some .cell ∨ sc.names.lookup y.1 = some .free := by
  unfold capB at h
  simp only [Bool.and_eq_true, Bool.or_eq_true, Bool.not_eq_true', decide_eq_true_eq, decide_eq_false_iff_not, List.all_eq_true] at h
  intro y hy e
  rcases h.1.1 y hy with (z | z) | z
  · exact absurd e z
  · exact .inl z
  · exact .inr z
theorem tl_uniq {l : List (Addr × Str)} (nd : (l.map fun z => z.1).Nodup) {p q : Addr × Str} (hp : p ∈ l) (hq : q ∈ l) (e : p.1 = q.1) : p = q := by
  induction l with
  | nil => cases hp
  | cons x l ih =>
    rw [List.map_cons] at nd
    obtain ⟨n1, n2⟩ := List.nodup_cons.mp nd
    rcases List.mem_cons.mp hp with h1 | h1
    · rcases List.mem_cons.mp hq with h2 | h2
      · rw [h1, h2]
      · subst h1
        exact absurd (by rw [e]; exact List.mem_map.mpr ⟨q, h2, rfl⟩) n1
    · rcases List.mem_cons.mp hq with h2 | h2
      · subst h2
        exact absurd (by rw [← e]; exact List.mem_map.mpr ⟨p, h1, rfl⟩) n1
      · exact ih n2 h1 h2
/-! ### a def whose code object is known -/
section
variable {P : Program} {w : World} {K : PySem.W.Frag} {mg : Str → Option Value} {base : Heap}
theorem cd_of {x : Str} {d : DefA} {fd : FuncData} (F : d.Fn K fd) (hp : d.path K = He.fAd K (x, none)) {oc : Value} {od : Option Addr} {dV kV doc pm cdv ct : Value} {an : Option Addr} {osl : Array (Option Value)} (e : fd = PySem.W.fnOf d.name d.qual d.params d.body d.scope dV kV doc pm an cdv ct)
    (lk : K.lookup (d.path K) = some ⟨oc, od, .func fd, osl⟩) (hc : PySem.W.codeIn K cdv d.qual = true) : cdv = .ref (He.codeOf K (x, none)) := by
  obtain ⟨c, hc2⟩ := He.codeIn_ref hc
  have z := He.codeOf_eq (K := K) (p := (x, none)) (fd := fd) (c := c) (by rw [← hp]; exact lk) (by rw [e]; exact hc2)
  rw [z, hc2]
/-- what a body must show that knows its code object, nothing let out -/
abbrev BodyC (P : Program) (w : World) (K : PySem.W.Frag) (mg : Str → Option Value) (base : Heap) (N : List Str) (x : Str) (d : DefA) (k : Nat) (sp : Sp) : Prop :=
  ∀ (A : Around) (outer : List Env) (s : Shared) (H : Hp) (vs : List V) (Q : VK) (E : XK), Room k (A.deeper (envOfC d.qual d.scope s.heap.objs.size (He.ga K x) (.ref (He.codeOf K (x, none))))) → sp vs H Q E →
    ∃ t, PSs (cxOf CX0 P w K mg base N d.qual d.scope (He.ga K x) (.ref (He.codeOf K (x, none))) A outer s H E).nox d.body t ∧ t { nx := fun _ H' => Q .non H', rt := Q } (start N vs) H
theorem fnC_of {d : DefA} {x : Str} {N ps : List Str} {k : Nat} {sp : Sp} {fd : FuncData} (F : FunD K d.name d.qual d.params d.body d.scope [] (d.kws K) (He.ga K x) fd) (S : FnScope N ps d.scope) (len : ∀ vs H Q E, sp vs H Q E → vs.length = ps.length) (hb : BodyC P w K mg base N x d k sp) :
    FnOk P w K mg base CX0 (k + 1) (He.ga K x) fd ps sp := by
  obtain ⟨oc, od, kV, doc, pm, an, cdv, ct, osl, e, lk, hcd⟩ := fun_of F
  obtain ⟨c, hc2⟩ := He.codeIn_ref hcd
  have z := He.codeOf_eq (K := K) (p := (x, none)) (fd := fd) (c := c) lk (by rw [e]; exact hc2)
  subst e
  have ec : cdv = .ref (He.codeOf K (x, none)) := by rw [z, hc2]
  subst ec
  refine fn_of lk hcd S len fun A outer s H vs Q E hr hsp => ?_
  obtain ⟨t, h, q⟩ := hb A outer s H vs Q E hr hsp
  exact ⟨t, h.nox, q⟩
theorem calC_of {d : DefA} {x : Str} {N ps : List Str} {k : Nat} {sp : Sp} (F : ∃ fd, d.Fn K fd) (hp : d.path = pG x) (hd : d.dfl = []) (hm : mg x = some (.ref (He.ga K x))) (S : FnScope N ps d.scope)
    (b : BindA d.name d.qual d.params d.body d.scope ps) (len : ∀ vs H Q E, sp vs H Q E → vs.length = ps.length) (hb : BodyC P w K mg base N x d k sp) : C8.Cal P w K mg base (k + 1) x sp [] := by
  obtain ⟨fd, F⟩ := F
  have F' : FunD K d.name d.qual d.params d.body d.scope [] (d.kws K) (He.ga K x) fd := by
    have q : FunD K d.name d.qual d.params d.body d.scope (d.dvs K) (d.kws K) (d.path K) fd := F
    unfold DefA.dvs at q
    rw [hd, hp] at q
    exact q
  have Fk := fnC_of (P := P) (w := w) (mg := mg) (base := base) F' S len hb
  obtain ⟨oc, od, kV, doc, pm, an, cdv, ct, osl, rfl, lk, hcd⟩ := fun_of F'
  exact ⟨_, _, ps, [], Fk, hm, F'.kp, .all (b kV doc pm an cdv ct), .nil⟩
end
/-! ### the head's facts with empty tables -/
def obsT (n : Nat) (ex : List Ex) (fn : List DefA) (tf : List He.Defn) (g : Addr → Option Obj) : AlA :=
  ((obsA ex fn (He.frT g (asA g n))).1 && He.tabsB g tf (He.frT g (asA g n)), (obsA ex fn (He.frT g (asA g n))).2)
structure SaysTb (ex : List Ex) (fn : List DefA) (tf : List He.Defn) (h : Heap) (K : PySem.W.Frag) : Prop where
  a : SaysA ex fn K
  hd : ∀ p ∈ tf, PySem.W.codeHdIn K (He.cT K p).1 (He.cT K p).2 = true
  out : ∀ p ∈ tf, K.lookup (He.cT K p).2 = none
  empty : ∀ p ∈ tf, h.get? (He.cT K p).2 = some { cls := .none, data := .fields #[] }
theorem saysTb_of {n : Nat} {ex : List Ex} {fn : List DefA} {tf : List He.Defn} {h : Heap} (e : obsT n ex fn tf h.get? = valA fn) : SaysTb ex fn tf h (He.frT h.get? (asA h.get? n)) := by
  obtain ⟨KK, hK⟩ : ∃ KK, KK = He.frT h.get? (asA h.get? n) := ⟨_, rfl⟩
  have e1 := congrArg (fun z : AlA => z.1) e
  have e2 := congrArg (fun z : AlA => z.2) e
  unfold obsT at e1 e2
  rw [← hK] at e1 e2 ⊢
  obtain ⟨a1, a2⟩ := He.ba (show ((obsA ex fn KK).1 && He.tabsB h.get? tf KK) = true from e1)
  have each : ∀ p ∈ tf, PySem.W.codeHdIn KK (He.cT KK p).1 (He.cT KK p).2 = true ∧ ∃ o, h.get? (He.cT KK p).2 = some o ∧ He.emptyTab o = true := fun p hp => by
    obtain ⟨b1, b2⟩ := He.ba (List.all_eq_true.mp a2 p hp)
    refine ⟨b1, ?_⟩
    cases q : h.get? (He.cT KK p).2 with
    | none =>
      rw [q] at b2
      cases b2
    | some o =>
      rw [q] at b2
      exact ⟨o, rfl, b2⟩
  refine ⟨Prod.ext a1 e2, fun p hp => (each p hp).1, fun p hp => ?_, fun p hp => ?_⟩
  · obtain ⟨_, o, q, z⟩ := each p hp
    have r := He.frT_none (as := asA h.get? n) q z
    rw [← hK] at r
    exact r
  · obtain ⟨_, o, q, z⟩ := each p hp
    rw [q, He.emptyTab_eq z]
def hookT (n : Nat) (ex : List Ex) (fn : List DefA) (tf : List He.Defn) : PySem.W.Hook where
  α := AlA
  obs := fun s => obsT n ex fn tf s.heap.get?
  val := fun _ => valA fn
  says := fun _ h => ∃ K : PySem.W.Frag, K.In h ∧ SaysTb ex fn tf h K
  of := fun _ _ e => ⟨_, He.frT_in, saysTb_of e⟩
  keeps := fun _ _ _ z k => let ⟨K, hK, c⟩ := z; ⟨K, PySem.W.Frag.In.keeps hK k, c.a, c.hd, c.out, fun p hp => k _ _ (c.empty p hp)⟩
theorem obsT_eq {n : Nat} {ex : List Ex} {fn : List DefA} {tf : List He.Defn} {g : Addr → Option Obj} {s : Shared} (h : ∀ a, g a = s.heap.get? a) : obsT n ex fn tf g = (hookT n ex fn tf).obs s := by
  have e : g = s.heap.get? := funext h
  rw [e]
  rfl
/-! ### the end -/
theorem walk_ofT {l : PySem.W.OpenLaw} {n k : Nat} {q : Program} {loose : List Str} {XP : (Str → Option Value) → Heap → Prop} {YP : World → Heap → Prop} {d : DefRec} {x : Str}
    (hn : l.most = some n) (hn2 : n ≤ sizeLine) (hdf : d.params.defaults = []) (hr : Room k callerA)
    (F : ∀ (w : World) (mg : Str → Option Value) (fa : Addr) (h : Heap), YP w h → h.Ns mainGlobals mg → mg d.name = some (.ref fa) →
      ∃ (K : PySem.W.Frag) (fd : FuncData) (cs : List (Addr × Addr)) (sp : Sp), K.In h ∧ (∀ p ∈ cs, h.get? p.2 = some { cls := .none, data := .fields #[] }) ∧ (∀ p ∈ cs, K.lookup p.2 = none) ∧ (∀ p ∈ cs, PySem.W.CodeHd h p.1 p.2) ∧ (∀ (s : Shared) (u : Value), BindsTo s fd ⟨[u], []⟩ [(x, u)]) ∧
        (∀ (H : Hp) (a : Addr) (ns : List Int), ns.length ≤ n → (∀ p ∈ cs, H p.2 = some (.tbl #[])) → SqL K H a (ns.map V.int) → sp [.ref a] H (fun v _ => v = .bl true) fun _ _ _ => False) ∧
        ∀ base : Heap, K.In base → base.Ns mainGlobals mg → (∀ p ∈ cs, TabB base mg p.1 p.2) → FnOk l.prog w K mg base CX0 k fa fd [x] sp) :
    PySem.W.WalkO q loose XP YP l.row.toRowW d [] (fun f vs => PySem.call f vs) := by
  refine Att.attach_call hn hdf fun w s0 s1 mg mb fa o pm cd doc a vs ns G Y ho hd hcd hmg hobj hints hlen hg => ?_
  obtain ⟨K, fd, cs, sp, KX, hT, nT, C, hb, hsp, hF⟩ := F w mg fa _ Y G.T.g hmg
  exact law_callTs KX G.T.g G.T.b G.T.builtins G.T.nolimit hg hT nT C G.T.bmain hobj hints (Nat.le_trans hlen hn2) hr hF hb (fun H hH hS => hsp H a ns hlen hH hS) fun H e s' z => z
end G57
end
section
set_option maxRecDepth 100000
set_option maxHeartbeats 4000000
/-! XLam5: reading of lambdas, of their calls; raising; what stands where only tables change. -/
namespace G57
open PySem PySem.Spec PyProof.Rows L2 LamX NdefX
/-! ### [f(x) for x in xs], f told of the state -/
theorem pe_lcS {X : Cx} {k j : Nat} {x : Str} {spS : SpS} {p pos pos' : Pos} {e tg iter : Expr} {es ifs : List Expr} {scope : Scope} {own : List (Str × Nat)} {wi : TI} {g : TG} {tt : TT} {t : TA}
    (c : CalS X.prog X.w X.K X.mg X.base CX0 k x spS) (hr : Room j X.A) (hk : k ≤ j) (calm : X.calm = true) (nd : X.N.Nodup) (walk : PI X tg iter wi) (ok : BlkOk X.N X.env.scope scope own)
    (hg : ∀ (s : Shared) (H : Hp) (C : Addr) (cl : List (Str × Addr)) (fp : List Addr), PG (X.blk s H scope (compEnvC scope cl C X.env) fp) tg g) (ht : ∀ (s : Shared) (H : Hp) (C : Addr) (cl : List (Str × Addr)) (fp : List Addr), PTs (X.blk s H scope (compEnvC scope cl C X.env) fp) ifs tt)
    (hgl : ∀ (s : Shared) (H : Hp) (C : Addr) (cl : List (Str × Addr)) (fp : List Addr), Gl (X.blk s H scope (compEnvC scope cl C X.env) fp) x) (ha : ∀ (s : Shared) (H : Hp) (C : Addr) (cl : List (Str × Addr)) (fp : List Addr), PA (X.blk s H scope (compEnvC scope cl C X.env) fp) (e :: es) t)
    (hdb : (x == ("__debug__" : Str)) = false := by decide) (he : ∀ env, starEach (e :: es) env = (false, eval e env) :: starEach es env := by intro _; rfl) (hpl : ∀ env, (backTo pos (starEach es env)).any (·.1) = false := by intro _; rfl)
    (fold : ∀ x, foldedSetIterable iter X.env x = pure x := by intro _; rfl) :
    PE X (.ListComp (.Call (.Name x p) (e :: es) [] pos) [⟨tg, iter, ifs, 0⟩] scope pos') (fun σ H Q => tLc wi g tt (tCallS (fun _ s H => CellsK X.env.cells X.N X.env.scope σ s H) spS (fun _ => E0) t) (own.map (·.2)) σ H Q) := by
  refine pe_lcK (tt := fun _ => tt) (te := fun σ => tCallS (fun _ s H => CellsK X.env.cells X.N X.env.scope σ s H) spS (fun _ => E0) t) calm nd walk ok (fun σ pl s0 H0 C cl fp I hf => ⟨hg _ _ _ _ _, ht _ _ _ _ _, ?_⟩) fold
  exact pe_cS (X := X.blk s0 H0 scope (compEnvC scope cl C X.env) fp) c hr hk (hgl _ _ _ _ _) (fun _ _ _ _ J => (inv_cellsK I).kp (kp_blk hf J)) (fun _ _ _ _ _ _ _ h => h.elim) (ha _ _ _ _ _) hdb (he _) (hpl _)
/-! ### a closure called in a try -/
def tClo (X : Cx) (k i : Nat) (W : WX) : TE := fun σ H Q => ∃ f sp, σ[i]? = some (some (.ref f)) ∧ (∀ s, Kp X.s_0 X.H_0 s H → Clo X.prog X.w X.K X.mg X.base k f sp s H) ∧ sp [] H Q (WE W σ)
theorem pe_cloT {X : Cx} {pn : List (Addr × Obj)} {xe : Value → Shared → Prop} {W : WX} {k j i : Nat} {x : Str} {p pos : Pos} (hr : Room j X.A) (hk : k ≤ j) (tk : Takes (X.tr pn xe) W) (hex : X.ex = []) (hN : X.N[i]? = some x) (hv : Vis X.env.scope x)
    (hd : (x == ("__debug__" : Str)) = false := by decide) (hcd : (x == ("__classdict__" : Str)) = false := by decide) : PE (X.tr pn xe) (.Call (.Name x p) [] [] pos) (tClo X k i W) :=
  pe_clo0 (X := X.tr pn xe) (Kn := fun _ s H => Kp X.s_0 X.H_0 s H) hr hk (passAt tk) (fun _ _ _ _ I => kp_of (X := X.tr pn xe) hex I) hN hv hd hcd
theorem r_clo {X : Cx} {k i : Nat} {W : WX} {σ : L2.St} {H : Hp} {Q : VK} {f : Addr} {sp : Sp} {s : Shared} {H0 : Hp} (hs : σ[i]? = some (some (.ref f))) (e1 : X.s_0 = s) (e2 : X.H_0 = H0) (c : Clo X.prog X.w X.K X.mg X.base k f sp s H0) (q : sp [] H Q (WE W σ)) : tClo X k i W σ H Q :=
  ⟨f, sp, hs, fun s' z => by
    rw [e1, e2] at z
    exact c.kp z, q⟩
/-! ### a closure called with arguments that raises nothing; also in a block -/
def tCloA (X : Cx) (k i : Nat) (t : TA) : TE := fun σ H Q => ∃ f sp, σ[i]? = some (some (.ref f)) ∧ (∀ s, Kp X.s_0 X.H_0 s H → Clo X.prog X.w X.K X.mg X.base k f sp s H) ∧ t σ H fun vs H1 => (∃ F, FnF H1 f F) ∧ (∀ s, Kp X.s_0 X.H_0 s H1 → Clo X.prog X.w X.K X.mg X.base k f sp s H1) ∧ sp vs H1 Q fun _ _ _ => False
section
variable {X : Cx} {k j i : Nat} {x : Str} {p pos : Pos} {e : Expr} {es : List Expr} {t : TA}
theorem pe_cloA (hr : Room j X.A) (hk : k ≤ j) (hex : X.ex = []) (hN : X.N[i]? = some x) (hv : Vis X.env.scope x) (ha : PA X (e :: es) t)
    (hd : (x == ("__debug__" : Str)) = false := by decide) (hcd : (x == ("__classdict__" : Str)) = false := by decide)
    (he : starEach (e :: es) X.env = (false, eval e X.env) :: starEach es X.env := by rfl) (hpl : (backTo pos (starEach es X.env)).any (·.1) = false := by rfl) : PE X (.Call (.Name x p) (e :: es) [] pos) (tCloA X k i t) :=
  pe_clo (Kn := fun _ s H => Kp X.s_0 X.H_0 s H) (E := fun _ _ _ _ => False) hr hk (fun σ => passAt LamX.takes0 σ) (fun _ _ _ _ I => kp_of hex I) hN hv ha hd hcd he hpl
theorem pe_cloB {pl : List (Addr × Obj)} {s0 : Shared} {H0 : Hp} {σ0 : L2.St} {scope : Scope} {ce : Env} {fp : List Addr} (I : Inv X pl σ0 H0 s0) (hf : ∀ b ∈ fp, ∃ o, s0.heap.get? b = some o ∧ ∀ v, o.data ≠ .cell v) (hr : Room j X.A) (hk : k ≤ j) (hex : X.ex = []) (hN : X.N[i]? = some x) (hv : Vis (X.blk s0 H0 scope ce fp).env.scope x) (ha : PA (X.blk s0 H0 scope ce fp) (e :: es) t)
    (hd : (x == ("__debug__" : Str)) = false := by decide) (hcd : (x == ("__classdict__" : Str)) = false := by decide)
    (he : starEach (e :: es) ce = (false, eval e ce) :: starEach es ce := by rfl) (hpl : (backTo pos (starEach es ce)).any (·.1) = false := by rfl) : PE (X.blk s0 H0 scope ce fp) (.Call (.Name x p) (e :: es) [] pos) (tCloA X k i t) :=
  pe_clo (X := X.blk s0 H0 scope ce fp) (Kn := fun _ s H => Kp X.s_0 X.H_0 s H) (E := fun _ _ _ _ => False) hr hk (fun σ => passAt LamX.takes0 σ) (fun _ _ _ _ J => (kp_of hex I).tr (kp_blk hf J)) hN hv ha hd hcd he hpl
end
/-- what a call of the closure wants of its arguments -/
def CloR (X : Cx) (k : Nat) (f : Addr) (sp : Sp) (Q : VK) (vs : List V) (H1 : Hp) : Prop := (∃ F, FnF H1 f F) ∧ (∀ s, Kp X.s_0 X.H_0 s H1 → Clo X.prog X.w X.K X.mg X.base k f sp s H1) ∧ sp vs H1 Q fun _ _ _ => False
section
variable {X : Cx} {k i : Nat} {t : TA} {σ : L2.St} {H : Hp} {Q : VK} {f : Addr} {sp : Sp} {s : Shared} {H0 : Hp}
theorem r_cloA (hs : σ[i]? = some (some (.ref f))) (c : Clo X.prog X.w X.K X.mg X.base k f sp X.s_0 X.H_0) (q : t σ H (CloR X k f sp Q)) : tCloA X k i t σ H Q := ⟨f, sp, hs, fun _ z => c.kp z, q⟩
theorem r_cloR {vs : List V} (c : Clo X.prog X.w X.K X.mg X.base k f sp X.s_0 X.H_0) (st : Still X.H_0 H) (q : sp vs H Q fun _ _ _ => False) : CloR X k f sp Q vs H := ⟨let ⟨F, h⟩ := c.fn; ⟨F, h.st st⟩, fun _ z => c.kp z, q⟩
end
/-- a comprehension whose block calls closures -/
theorem pe_lcC {X : Cx} {elt tg iter : Expr} {ifs : List Expr} {scope : Scope} {own : List (Str × Nat)} {pos : Pos} {wi : TI} {g : TG} {tt : TT} {te : TE} (calm : X.calm = true) (nd : X.N.Nodup) (walk : PI X tg iter wi) (ok : BlkOk X.N X.env.scope scope own)
    (blk : ∀ (σ : L2.St) (pl : List (Addr × Obj)) (s0 : Shared) (H0 : Hp) (C : Addr) (cl : List (Str × Addr)) (fp : List Addr), Inv X pl σ H0 s0 → (∀ b ∈ fp, ∃ o, s0.heap.get? b = some o ∧ ∀ v, o.data ≠ .cell v) →
      PG (X.blk s0 H0 scope (compEnvC scope cl C X.env) fp) tg g ∧ PTs (X.blk s0 H0 scope (compEnvC scope cl C X.env) fp) ifs tt ∧ PE (X.blk s0 H0 scope (compEnvC scope cl C X.env) fp) elt te)
    (fold : ∀ x, foldedSetIterable iter X.env x = pure x := by intro _; rfl) : PE X (.ListComp elt [⟨tg, iter, ifs, 0⟩] scope pos) (fun σ H Q => tLc wi g tt te (own.map (·.2)) σ H Q) :=
  pe_lcK (tt := fun _ => tt) (te := fun _ => te) calm nd walk ok (fun σ pl s0 H0 C cl fp I hf => blk σ pl s0 H0 C cl fp I hf) fold
/-! ### raise C("..") -/
def tRz (C : Addr) (E : XK) : TS := fun _ _ H => E (.ref C) none H
theorem ps_rz {X : Cx} {x m : Str} {j : Nat} {p p2 pos pos' : Pos} {C : Addr} {E : XK} {E1 : Value → Shared → Prop} (hc : X.calm = true) (hs : X.stack = X.env :: X.outer) (hf : X.env.frame = some X.env.locals) (hex : X.ex = [])
    (hx : X.xe = fun e s' => wpAny (model X.prog X.w) X.A (leaving X.env e) (fun _ s'' => L2.CX X.prog X.w X.outer X.H_0 X.s_0 E e s'') E1 s')
    (q : PySem.W.excIn X.K C He.veBase "ValueError.__new__" = true ∧ PySem.W.keepIn X.K (.ref C) = true ∧ PySem.W.subIn X.K (.ref C) (.type "BaseException") = some true ∧ PySem.W.typeIn X.K (.ref C) = some (.type "type"))
    (gC : X.mg x = some (.ref C)) (hg : Gl X x) (hdb : (x == ("__debug__" : Str)) = false := by decide) : PS X (.Raise (some (.Call (.Name x p) [.Constant (.str m) j p2] [] pos)) none pos') (tRz C E) :=
  ps_raise hc (takes_of hs hf hex hx) (pmk_own PySem.F.excBase_ValueError q.1 gC q.2.1 (raises_own q.2.2.1 q.2.2.2) hg hdb)
section
variable {σ : L2.St} {H H' : Hp} {Q : VK} {D : Ends} {C : Addr} {E : XK}
theorem r_rz (q : E (.ref C) none H) : tRz C E D σ H := q
/-! ### readings -/
theorem r_lm {T : List (Addr × Str)} {cells : List (Str × Addr)} {d : LamD} {ds : List V} (t : TabsF T H) (q : ∀ (f : Addr) (F : LF) (H1 : Hp), ExtN H H1 → TabsF T H1 → H f = none → Lam H1 f F ds → F.d = d → ofC cells F → Q (.ref f) H1) : tLm T cells d ds σ H Q := ⟨t, q⟩
theorem r_cS {Kn : L2.St → Shared → Hp → Prop} {spS : SpS} {ES : L2.St → XK} {t : TA} (q : t σ H fun vs H1 => ∀ s, Kn σ s H1 → spS s vs H1 Q (ES σ)) : tCallS Kn spS ES t σ H Q := q
theorem a_rep {l : Addr} {xs : List V} {k : Int} (h : H l = some (.lst xs)) (k0 : 0 ≤ k) (k1 : k ≤ 100) (few : xs.length ≤ 100) (q : ∀ p H', Same H H' → H p = none → H' p = some (.lst (List.replicate k.toNat xs).flatten) → Q (.ref p) H') : rRep (.ref l) (.int k) H Q := by
  have big : xs.length * k.toNat ≤ sizeLine := by
    have z : xs.length * k.toNat ≤ 100 * 100 := Nat.mul_le_mul few (by omega)
    exact Nat.le_trans z (by decide)
  exact ⟨l, k, xs, rfl, rfl, h, by omega, by omega, big, fun p hp => q p _ (same_new hp) hp upd_same⟩
/-! ### only tables change -/
theorem at_n {p : Addr} {o : HO} (s : ExtN H H') (n : ∀ ps, o ≠ .tbl ps) (e : H p = some o) : H' p = some o := s _ _ e n
theorem atn_tup {p : Addr} {xs : List V} (s : ExtN H H') (e : H p = some (.tup xs)) : H' p = some (.tup xs) := at_n s (fun _ z => by cases z) e
theorem atn_lst {p : Addr} {xs : List V} (s : ExtN H H') (e : H p = some (.lst xs)) : H' p = some (.lst xs) := at_n s (fun _ z => by cases z) e
theorem atn_ins {p C dx : Addr} {fs : List (Str × V)} (s : ExtN H H') (e : H p = some (.ins C dx fs)) : H' p = some (.ins C dx fs) := at_n s (fun _ z => by cases z) e
theorem sqTn {K : PySem.W.Frag} {p : Addr} {xs : List V} (s : ExtN H H') (e : SqT K H p xs) : SqT K H' p xs := by
  rcases e with (e | ⟨o, e⟩) | e
  · exact .inl (.inl (atn_tup s e))
  · exact .inl (.inr ⟨o, at_n s (fun _ z => by cases z) e⟩)
  · exact .inr e
theorem sqLn {K : PySem.W.Frag} {p : Addr} {xs : List V} (s : ExtN H H') (e : SqL K H p xs) : SqL K H' p xs := by
  rcases e with (e | ⟨o, e⟩) | e
  · exact .inl (.inl (atn_lst s e))
  · exact .inl (.inr ⟨o, at_n s (fun _ z => by cases z) e⟩)
  · exact .inr e
theorem extN_hid {h : Addr} (s : ExtN H H') : ExtN (hid h H) (hid h H') := fun b o e n => by
  unfold hid at e ⊢
  split at e
  · cases e
  · rename_i nb
    rw [if_neg nb]
    exact s b o e n
theorem hatB_n {K : PySem.W.Frag} {h a : Addr} (s : ExtN H H') (w : HatB K H h a) : HatB K H' h a := by
  obtain ⟨ns, p, m, r, e, q, z⟩ := w
  exact ⟨ns, p, m, r, atn_lst s e, sqLn (extN_hid s) q, z⟩
theorem extN_s (s : Same H H') : ExtN H H' := fun b o e _ => s b o e
theorem extN_t {H2 : Hp} (a : ExtN H H') (b : ExtN H' H2) : ExtN H H2 := fun x o e n => b x o (a x o e n) n
theorem tabs_id {T : List (Addr × Str)} (t : TabsF T H) : TabsF T H := t
/-- a closure of a frame that the caller's cells know -/
theorem clo_at_cells {P : Program} {w : World} {K : PySem.W.Frag} {mg : Str → Option Value} {base : Heap} {k j : Nat} {f : Addr} {F : LF} {d : LamD} {ps fr N : List Str} {js : List Nat} {ds : List V} {spl : List (Option V) → Sp} {cells : List (Str × Addr)} {sc : Scope} {s : Shared}
    (L : LOk P w K mg base j d ps fr ds spl) (hk : j ≤ k) (hF : Lam H f F ds) (hd : F.d = d) (o : ofC cells F) (b : capB N sc d.scope fr js = true) (kc : CellsK cells N sc σ s H) : Clo P w K mg base k f (spl (js.map (slotAt σ))) s H := by
  subst hd
  exact clo_of L hk rfl hF (kc.at o b)
end
end G57
end
section
set_option maxRecDepth 100000
set_option maxHeartbeats 4000000
/-! XKwExc: C(k = v, ..) raised, C an own exception class whose __init__ has keyword-only parameters. -/
namespace PySem
namespace KWX
open PySem.W PySem.Calls PyProof.Rows PySem.HandSPX
section
variable {M : Model} {A : Around} {E : Value → Shared → Prop} {h : Heap} {g : Array GenState} {d : Drawn} {t : Nat} {os : OsState}
variable {nm q : Str} {C N : Addr} {bs bm bmB : List Value} {hdct : Bool} {sn : List Str} {sub : List Value} {ab : Bool} {col : Option Bool} {dd : Option Addr} {k0 k1 k2 k3 k5 : Option Value} {B newId initId : String}
theorem check_new_kw (F : ExcBaseFacts B newId initId bmB) (same : ∀ X : String, bm.contains (.type X) = bmB.contains (.type X)) {kw : List (Str × Value)} {Q : Unit → Shared → Prop}
    (hC : h.get? C = some (excClassObj nm q C N bs bm hdct sn sub ab col dd k0 k1 k2 k3 k5 newId)) (fin : Q () ⟨h, g, d, t, os⟩) : wpAny M A (checkBuiltinCall newId ⟨[.ref C], kw⟩) Q E ⟨h, g, d, t, os⟩ := by
  have inB : (Value.ref C :: bm).contains (.type B) = true := by
    rw [List.contains_cons, same, F.hasB]
    exact Bool.or_true _
  have star := F.noStar
  simp only [checkBuiltinCall, F.newKind, F.newSplit, F.newRow]
  repeat (first
    | refine wpAny_loadPart_at hC ?_
    | (refine wpAny_isSubtype_exc hC ?_; rw [inB])
    | refine wpAny_staticBase_exc hC ?_
    | refine wpAny_madeBy_exc hC ?_
    | simp only [bne_self_eq_false, Bool.false_eq_true, if_false]
    | wp_step)
  exact fin
end
section
variable {prog : Program} {w : World} {A : Around} {E : Value → Shared → Prop} {R : Result → Shared → Prop} {h : Heap} {g : Array GenState} {d : Drawn} {t : Nat} {os : OsState}
variable {nm q : Str} {C N : Addr} {bs bm bmB : List Value} {hdct : Bool} {sn : List Str} {sub : List Value} {ab : Bool} {col : Option Bool} {dd : Option Addr} {k0 k1 k2 k3 k5 : Option Value} {B newId initId : String} {kw : List (Str × Value)}
theorem new_kw (F : ExcBaseFacts B newId initId bmB) (same : ∀ X : String, bm.contains (.type X) = bmB.contains (.type X)) (hC : h.get? C = some (excClassObj nm q C N bs bm hdct sn sub ab col dd k0 k1 k2 k3 k5 newId))
    (fin : R (.ok (.ret (.ref (h.objs.size + 1)))) ⟨(h.push (W.kdv_tup [])).push (excO C h.objs.size), g, d, t, os⟩) : codeAny (model prog w) A (.builtin newId ⟨[.ref C], kw⟩) R ⟨h, g, d, t, os⟩ := by
  have ends := F.ends
  have inB : (Value.ref C :: bm).contains (.type B) = true := by
    rw [List.contains_cons, same, F.hasB]
    exact Bool.or_true _
  have inA : (Value.ref C :: bm).contains (.type "AttributeError") = false := by
    rw [List.contains_cons, same, F.noAttr] <;> rfl
  have inN : (Value.ref C :: bm).contains (.type "NameError") = false := by
    rw [List.contains_cons, same, F.noName] <;> rfl
  refine codeAny_builtinAt F.entry ?_
  unfold Builtin.«BaseException.__new__»
  refine wpAt_bind ?_
  show wpAt _ _ _ (stack >>= _) _ _ _
  refine wpAt_bind (wpAt_stack fun p below => wpAt_of_wpAny ?_)
  wp_walk
  refine wpAt_of_wpAny ?_
  rw [F.owner]
  repeat (first
    | with_reducible refine wpAny_madeHere_exc F.canon hC ?_
    | with_reducible refine wpAny_loadPart_at hC ?_
    | (with_reducible refine wpAny_isSubtype_exc hC ?_; first | rw [inB] | rw [inA] | rw [inN])
    | wp_step)
  show R _ _
  rw [Heap.size_push]
  exact fin
theorem type_call_kw (F : ExcBaseFacts B newId initId bmB) (same : ∀ X : String, bm.contains (.type X) = bmB.contains (.type X)) {fI : Addr} {Q : Fin → Shared → Prop} (hC : h.get? C = some (excClassObj nm q C N bs bm hdct sn sub ab col dd k0 k1 k2 k3 k5 newId))
    (hi : W.Looks (model prog w) h (typeLookup (.ref C) "__init__") (some (.ref fI))) (hb : ∀ self, W.Looks (model prog w) h (bindSpecial (.ref fI) self) (.ref fI, [self]))
    (fin : codeAny (model prog w) A (.call (.ref fI) ⟨[.ref (h.objs.size + 1)], kw⟩) (fun r s' => match r with
      | .ok (.ret v) => v = .none ∧ Q (.done (.ret (.ref (h.objs.size + 1)))) s'
      | .ok _ => False
      | .error e => E e s') ⟨(h.push (W.kdv_tup [])).push (excO C h.objs.size), g, d, t, os⟩) : wpAny (model prog w) A (Builtin.«type.__call__» ⟨[.ref C], kw⟩) Q E ⟨h, g, d, t, os⟩ := by
  repeat (first
    | with_reducible refine wpAny_loadPart_at hC ?_
    | with_reducible refine wpAny_madeBy_exc hC ?_
    | wp_step)
  refine codeAny_call_builtin_code (Code.quiet_builtin _ F.quiet) (check_new_kw F same hC ?_)
  refine new_kw F same hC ?_
  show wpAny _ _ _ _ _ _
  have keep : ∀ b o, h.get? b = some o → ((h.push (W.kdv_tup [])).push (excO C h.objs.size)).get? b = some o := fun b o e => Heap.get?_push_of_some _ (Heap.get?_push_of_some _ e)
  have hC2 := keep _ _ hC
  have made : ((h.push (W.kdv_tup [])).push (excO C h.objs.size)).get? (h.objs.size + 1) = some (excO C h.objs.size) := by heap_get
  have inC : (Value.ref C :: bm).contains (.ref C) = true := by simp
  have i1 := hi.keeps keep
  have b1 := (hb (.ref (h.objs.size + 1))).keeps keep
  unfold isInstance
  repeat (first
    | with_reducible refine wpAny_loadPart_at made ?_
    | (with_reducible refine wpAny_isSubtype_exc hC2 ?_; rw [inC])
    | wp_step)
  show wpAny _ _ (typeLookup (.ref C) _) _ _ _
  refine i1.at ?_
  refine wpAny_holding (wpAny_bind (b1.at ?_))
  refine wpAny_bind (wpAny_call (codeAny_mono fin fun r s' z => ?_))
  rcases r with e | (v | _ | _ | _) <;> first | exact z | exact z.elim | skip
  obtain ⟨rfl, z⟩ := z
  first
    | exact wpAny_pure (wpAny_pure z)
    | (wp_walk; exact z)
theorem call_kw (F : ExcBaseFacts B newId initId bmB) (same : ∀ X : String, bm.contains (.type X) = bmB.contains (.type X)) {fI : Addr} (hC : h.get? C = some (excClassObj nm q C N bs bm hdct sn sub ab col dd k0 k1 k2 k3 k5 newId))
    (hi : W.Looks (model prog w) h (typeLookup (.ref C) "__init__") (some (.ref fI))) (hb : ∀ self, W.Looks (model prog w) h (bindSpecial (.ref fI) self) (.ref fI, [self]))
    (fin : codeAny (model prog w) (A.under (.builtin "type.__call__" ⟨[.ref C], kw⟩)) (.call (.ref fI) ⟨[.ref (h.objs.size + 1)], kw⟩) (W.InitBack (h.objs.size + 1) R) ⟨(h.push (W.kdv_tup [])).push (excO C h.objs.size), g, d, t, os⟩) :
    codeAny (model prog w) A (.call (.ref C) ⟨[], kw⟩) R ⟨h, g, d, t, os⟩ := by
  have f1 := tc_lookup
  have f2 := tc_bind (.ref C)
  have isT : (⟨h, g, d, t, os⟩ : Shared).TypeIs (.ref C) "type" := ⟨_, hC, rfl⟩
  refine codeAny_of_tree ?_
  show wpAny _ _ (callAny (.ref C) _) _ _ _
  repeat (any_goals (first
    | assumption
    | with_reducible refine wpAny_loadPart_at hC ?_
    | wp_step))
  refine ⟨rfl, ?_⟩
  refine codeAny_call_builtin_at (Code.quiet_builtin _ (by decide +kernel)) entry_typeCall (wpAny_check_type_call_sub hC (type_call_kw F same hC hi hb ?_))
  refine codeAny_mono fin fun r s' z => ?_
  rcases r with e | (v | _ | _ | _) <;> exact z
end
end KWX
end PySem
namespace G57
open PySem PySem.Spec PyProof.Rows L2
/-- C(k = v, ..), an exception with an own __init__ that keeps sp -/
def tMkK (C : Addr) (m : Nat) (sp : Sp) (gV : List V → List V → List V) (tk : TA) : L2.St → Hp → XK → Prop := fun σ H Q => tk σ H fun zs H1 => zs.length = m ∧ ∀ a, H1 a = none → sp (gV [.ref a] zs) (upd H1 a (exo a C none))
  (fun v H2 => v = .non ∧ ∃ (d : Addr) (fs : List (Str × V)), H2 a = some (exo a C (some d)) ∧ H2 d = some (exd d fs) ∧ H1 d = none ∧ Q (.ref C) (some d) (upd (L2.del H2 a) d (.xd fs))) fun _ _ _ => False
theorem pmk_kw {X : Cx} {CX : CXT} {x : Str} {C fI : Addr} {k : Nat} {fd : FuncData} {ps ks : List Str} {sp : Sp} {kws : List Keyword} {tk : TA} {g : List Value → List Value → List Value} {gV : List V → List V → List V} {p pos : Pos}
    (T : OexC X.K C) (iC : PySem.W.findIn X.K (.ref C) "__init__" = some (some (.ref fI))) (tI : PySem.W.typeIn X.K (.ref fI) = some (.type "function")) (F1 : FnOk X.prog X.w X.K X.mg X.base CX k fI fd ps sp) (hr : Room (k + 1) X.A) (hb : KBn X.K fd ps 1 ks g gV)
    (hx : Passes CX X (fun _ _ _ => False)) (hg : Gl X x) (hm : X.mg x = some (.ref C)) (hkw : PK X kws tk)
    (hall : (backToKw pos (keywordEach kws X.env)).all (·.1.isSome) = true := by rfl) (hks : (backToKw pos (keywordEach kws X.env)).filterMap (·.1) = ks := by rfl) (hdb : (x == ("__debug__" : Str)) = false := by decide)
    (hpl : ((backTo pos (starEach [] X.env)).any (·.1) || (backToKw pos (keywordEach kws X.env)).any (·.1.isNone)) = false := by rfl) : PMk X (.Call (.Name x p) [] kws pos) (tMkK C ks.length sp gV tk) := by
  intro pins s σ H Q I h
  obtain ⟨nm, q, N, bs, bm, sn, sub, ab, col, dd, k0, k1, k2, k3, k5, hC, hbm⟩ := T.cls
  refine wpAny_Call_Name_kw (ld_glob I hg hm ?_ hdb)
  refine PySem.W.callWith_KW0 (h₀ := X.base) I.ok.mod.kin T.kC hall ?_ hpl
  refine thn (hkw.run pos pins s σ H _ I h) fun ws s1 ⟨zs, H1, I1, rz, l2, q1⟩ => ⟨I1.kIn, ?_⟩
  rw [hks]
  obtain ⟨hp, gn, dr, tok, os⟩ := s1
  have le : hp.objs.size ≤ hp.objs.size + 1 := Nat.le_succ _
  have new : H1 (hp.objs.size + 1) = none := I1.hok.fresh le
  have told := q1 (hp.objs.size + 1) new
  have keep : ∀ b o, hp.get? b = some o → ((hp.push (PySem.W.kdv_tup [])).push (PySem.HandSPX.excO C hp.objs.size)).get? b = some o := fun b o e => Heap.get?_push_of_some _ (Heap.get?_push_of_some _ e)
  have made : ((hp.push (PySem.W.kdv_tup [])).push (PySem.HandSPX.excO C hp.objs.size)).get? (hp.objs.size + 1) = some (PySem.HandSPX.excO C hp.objs.size) := by heap_get
  have I2 : Inv X pins σ (upd H1 (hp.objs.size + 1) (exo (hp.objs.size + 1) C none)) ⟨(hp.push (PySem.W.kdv_tup [])).push (PySem.HandSPX.excO C hp.objs.size), gn, dr, tok, os⟩ :=
    I1.laid (t' := tok) (a := hp.objs.size + 1) (o := exo (hp.objs.size + 1) C none) (h' := (hp.push (PySem.W.kdv_tup [])).push (PySem.HandSPX.excO C hp.objs.size)) keep le (exo_ok made)
  have r1 : Vals [V.ref (hp.objs.size + 1)] [Value.ref (hp.objs.size + 1)] := .cons rfl .nil
  have r2 := hb.rel r1 rz
  refine wpAny_call (PySem.KWX.call_kw F.excBase_ValueError (fun Y => PySem.HandSPX.refsVE_contains Y bm hbm) (I1.kIn _ _ hC) (PySem.W.looks_findIn I1.kIn iC) (fun self => PySem.W.bind_fn I1.kIn self tI)
    (codeAny_mono (F1.run _ X.stack _ _ ⟨[Value.ref (hp.objs.size + 1)], ks.zip ws⟩ (g [Value.ref (hp.objs.size + 1)] ws) _ _ (fun _ _ _ => False) (hr.make C [] (ks.zip ws)) (I2.env0.make C [] (ks.zip ws)) (hb.to _ [Value.ref (hp.objs.size + 1)] ws I2.kIn rfl (rz.length.symm.trans l2)) r2 told) fun r s' hq => ?_))
  cases r with
  | error er => exact hx pins σ _ _ er s' I2 hq
  | ok fl =>
    cases fl with
    | ret u =>
      obtain ⟨v, H2, os2, bare2, un2, hok2, rv, ev, d, fs, ea, ed, hd1, q2⟩ := hq
      subst ev
      obtain ⟨h2, g2, d2, t2, os3⟩ := s'
      exact ⟨rv, mk_end (raises_own T.exC T.tyC) I1 le keep un2 hok2 os2 bare2 ea ed hd1 q2⟩
    | next => exact False.elim hq
    | brk => exact False.elim hq
    | cont => exact False.elim hq
/-- L.__init__(self, ..), L an own class over ValueError without own __init__ -/
def tVeL (K : PySem.W.Frag) (CL : Addr) (ta : TE) (t : TA) : TE := fun σ H Q => ta σ H fun x H1 => x = .ref CL ∧ t σ H1 fun vs H2 => ∃ (a C : Addr) (ws : List V), vs = .ref a :: ws ∧ ws.length ≤ 1000 ∧ OexC K C ∧ H2 a = some (exo a C none) ∧ Q .non H2
theorem pe_linit {X : Cx} {CL : Addr} {mc : Value} {o e : Expr} {es : List Expr} {pos apos : Pos} {ta : TE} {t : TA} {pl : Sem Bool} (he : PE X o ta) (r : ClX.CRead X.K CL mc) (vL : PySem.W.findCls X.K (.ref CL) mc "__init__" = some (.val (.builtin "ValueError.__init__"))) (ha : PA X (e :: es) t)
    (hst : starEach (e :: es) X.env = (false, eval e X.env) :: starEach es X.env := by rfl) (hpl : (backTo pos (starEach es X.env)).any (·.1) = false := by rfl)
    (ht : eval (.Call (.Attribute o "__init__" apos) (e :: es) [] pos) X.env = (do
      let ov ← eval o X.env
      standAt apos.atName
      let (f, first) ← holding [ov] (getMethod ov "__init__" pl)
      callWith pos f first (backTo pos (starEach (e :: es) X.env)) (backToKw pos (keywordEach [] X.env))) := by rfl) : PE X (.Call (.Attribute o "__init__" apos) (e :: es) [] pos) (tVeL X.K CL ta t) := by
  refine ⟨fun pins s σ H Q I h => ?_⟩
  refine PySem.W.methodCall_KW (pl := pl) (thn (he.run pins s σ H _ I h) fun u s1 ⟨x, H1, I1, rx, ex, q⟩ => ?_) ht
  subst ex
  obtain rfl : u = Value.ref CL := rx
  refine PySem.W.method_cls I1.kIn r.ga (PySem.W.cls_value I1.kIn r.rd vL (by decide +kernel) ?_)
  show wpAny _ _ (callWith pos (Value.builtin "ValueError.__init__") [] (backTo pos (starEach (e :: es) X.env)) []) _ _ _
  refine PyProof.Rows.callWith_method1 (thn (ha.run pos pins _ σ H1 _ (I1.tok _) q) fun us s2 ⟨vs, H2, I2, r1, a, C, ws, ev, hl, T, ea, q2⟩ => ?_) hst hpl
  subst ev
  cases r1 with
  | @cons _ u0 _ ur ra rest =>
    obtain rfl : u0 = Value.ref a := ra
    have len : ur.length ≤ sizeLine := by
      rw [← rest.length, sizeLine_eq]
      omega
    exact oinit_ok T I2 ea len fun s3 J => ⟨.non, H2, J, rfl, q2⟩
end G57
end
section
set_option maxRecDepth 100000
set_option maxHeartbeats 4000000
/-! XErr: own exception classes with a keyword-only __init__: the header's facts, raise, the suite's reading. -/
namespace G57
open PySem PySem.Spec PyProof.Rows L2
/-! ### facts -/
def clsB (K : PySem.W.Frag) (C : Addr) : Bool := match K.lookup C with
  | some ⟨.type "type", _, .cls cd, sl⟩ => (match cd.mro, sl.toList with
    | .ref C' :: bm, [_, _, _, _, some (.builtin n), _] => (C' == C && n == "ValueError.__new__") && (!cd.hasDel && (cd.hasDict && PySem.HandSPX.refsVE bm))
    | _, _ => false)
  | _ => false
theorem clsB_ok {K : PySem.W.Frag} {C : Addr} (h : clsB K C = true) : ∃ nm q N bs bm sn sub ab col dd k0 k1 k2 k3 k5, K.lookup C = some (excClassObj nm q C N bs bm true sn sub ab col dd k0 k1 k2 k3 k5 "ValueError.__new__") ∧ PySem.HandSPX.refsVE bm = true := by
  unfold clsB at h
  split at h
  · rename_i dd cd sl ho
    split at h
    · rename_i C' bm k0 k1 k2 k3 n k5 hm hs
      simp only [Bool.and_eq_true, beq_iff_eq, Bool.not_eq_true'] at h
      obtain ⟨⟨rfl, rfl⟩, hdel, hdct, hr⟩ := h
      obtain ⟨nm, bs, mro, ns, qn, hd, sn, sub, ab, col, del⟩ := cd
      dsimp only at hm hdel hdct
      subst hm hdel hdct
      have hsl : sl = #[k0, k1, k2, k3, some (.builtin "ValueError.__new__"), k5] := by
        obtain ⟨l⟩ := sl
        simp only at hs
        rw [hs]
      subst hsl
      exact ⟨nm, qn, ns, bs, bm, sn, sub, ab, col, dd, k0, k1, k2, k3, k5, ho, hr⟩
    · cases h
  · cases h
/-- a class of exceptions with an own __init__ -/
def oexB (x : Str) : Ex := fun K =>
  clsB K (He.ga K x) && (He.eqO (PySem.W.findIn K (.ref (He.ga K x)) "__setattr__") (some (some (.builtin "object.__setattr__"))) && (decide (PySem.W.subIn K (.ref (He.ga K x)) (.type "BaseException") = some true) && (decide (PySem.W.typeIn K (.ref (He.ga K x)) = some (.type "type")) && (PySem.W.keepIn K (.ref (He.ga K x)) &&
  (He.eqO (PySem.W.findIn K (.ref (He.ga K x)) "__init__") (some (some (.ref (He.ma K (He.ga K x) "__init__")))) && (decide (PySem.W.typeIn K (.ref (He.ma K (He.ga K x) "__init__")) = some (.type "function")) && xfB K (He.ga K x)))))))
structure Oex (K : PySem.W.Frag) (x : Str) : Prop where
  t : OexC K (He.ga K x)
  i : PySem.W.findIn K (.ref (He.ga K x)) "__init__" = some (some (.ref (He.ma K (He.ga K x) "__init__")))
  f : PySem.W.typeIn K (.ref (He.ma K (He.ga K x) "__init__")) = some (.type "function")
  x : XfC K (He.ga K x)
theorem oex_ok {K : PySem.W.Frag} {x : Str} (h : oexB x K = true) : Oex K x := by
  obtain ⟨h1, h⟩ := He.ba h
  obtain ⟨h2, h⟩ := He.ba h
  obtain ⟨h3, h⟩ := He.ba h
  obtain ⟨h4, h⟩ := He.ba h
  obtain ⟨h5, h⟩ := He.ba h
  obtain ⟨h6, h⟩ := He.ba h
  obtain ⟨h7, h8⟩ := He.ba h
  exact ⟨⟨clsB_ok h1, He.eqO_ok h2, of_decide_eq_true h3, of_decide_eq_true h4, h5⟩, He.eqO_ok h6, of_decide_eq_true h7, xfB_ok h8⟩
/-- a field that is no attribute of the class -/
def xnaB (x f : Str) : Ex := fun K => He.eqO (PySem.W.findIn K (.ref (He.ga K x)) f) (some none)
theorem xna_ok {K : PySem.W.Frag} {x f : Str} (h : xnaB x f K = true) : PySem.W.findIn K (.ref (He.ga K x)) f = some none := He.eqO_ok h
/-- the base class's __init__ -/
def linB (x : Str) : Ex := fun K =>
  PySem.W.readsIn K (He.ga K x) (.type "type") && (He.eqO (PySem.W.specialIn K (.ref (He.ga K x)) "__getattribute__") (some (some (.builtin "type.__getattribute__"))) &&
  (match PySem.W.findCls K (.ref (He.ga K x)) (.type "type") "__init__" with
  | some (.val (.builtin n)) => n == "ValueError.__init__"
  | _ => false))
theorem lin_ok {K : PySem.W.Frag} {x : Str} (h : linB x K = true) : ClX.CRead K (He.ga K x) (.type "type") ∧ PySem.W.findCls K (.ref (He.ga K x)) (.type "type") "__init__" = some (.val (.builtin "ValueError.__init__")) := by
  unfold linB at h
  obtain ⟨z1, h⟩ := He.ba h
  obtain ⟨z2, h⟩ := He.ba h
  refine ⟨⟨z1, He.eqO_ok z2⟩, ?_⟩
  split at h
  · rename_i n e
    obtain rfl : n = "ValueError.__init__" := by simpa using h
    exact e
  · cases h
/-- isinstance of its instances -/
def eisB (x : Str) : Ex := fun K =>
  He.eqO (PySem.W.findIn K (.ref (He.ga K x)) "__getattribute__") (some (some (.builtin "BaseException.__getattribute__"))) && (He.eqO (PySem.W.findIn K (.ref (He.ga K x)) "__getattr__") (some none) && (decide (PySem.W.subIn K (.ref (He.ga K x)) (.type "BaseException") = some true) && (PySem.W.hasDictIn K (He.ga K x) &&
  (He.eqO (PySem.W.findIn K (.ref (He.ga K x)) "__class__") (some (some (.builtin "object.__class__"))) && (He.eqO (PySem.W.specialIn K (.builtin "object.__class__") "__get__") (some (some (.builtin "getset_descriptor.__get__"))) && (decide (PySem.W.takesIn K (.builtin "object.__class__") = some true) && decide (PySem.W.mroIn K (He.ga K x) (.type "object") = some true)))))))
theorem eis_ok {K : PySem.W.Frag} {x : Str} (h : eisB x K = true) : ExcC K (He.ga K x) := by
  obtain ⟨h1, h⟩ := He.ba h
  obtain ⟨h2, h⟩ := He.ba h
  obtain ⟨h3, h⟩ := He.ba h
  obtain ⟨h4, h⟩ := He.ba h
  obtain ⟨h5, h⟩ := He.ba h
  obtain ⟨h6, h⟩ := He.ba h
  obtain ⟨h7, h8⟩ := He.ba h
  exact ⟨He.eqO_ok h1, He.eqO_ok h2, of_decide_eq_true h3, h4, He.eqO_ok h5, He.eqO_ok h6, of_decide_eq_true h7, of_decide_eq_true h8⟩
def kisB (x y : Str) (b : Bool) : Ex := fun K => decide (PySem.W.kitOne K (.ref (He.ga K x)) (.ref (He.ga K y)) = some b)
def kisTB (x : Str) (y : String) (b : Bool) : Ex := fun K => decide (PySem.W.kitOne K (.ref (He.ga K x)) (.type y) = some b)
/-! ### the binding of keyword-only parameters -/
section
variable {P : Program} {w : World} {K : PySem.W.Frag} {mg : Str → Option Value} {base : Heap}
abbrev KBindA (x qual : Str) (pa : Arguments) (bd : List Stmt) (sc : Scope) (ps ks : List Str) : Prop := ∀ (kV doc pm : Value) (an : Option Addr) (cdv ct : Value) (us ws : List Value), us.length = 1 → ws.length = ks.length → bindArgs (PySem.W.fnOf x qual pa bd sc .none kV doc pm an cdv ct) ⟨us, ks.zip ws⟩ = pure (ps.zip (us ++ ws))
theorem kbn_of {d : DefA} {f : Addr} {fd : FuncData} {ps ks : List Str} (F : FunD K d.name d.qual d.params d.body d.scope [] (d.kws K) f fd) (b : KBindA d.name d.qual d.params d.body d.scope ps ks) : KBn K fd ps 1 ks (fun us ws => us ++ ws) (fun vs zs => vs ++ zs) := by
  obtain ⟨oc, od, kV, doc, pm, an, cdv, ct, osl, rfl, lk, hcd⟩ := fun_of F
  refine ⟨fun s us ws X l1 l2 => BindsTo.of_looks fun M => ?_, fun r1 r2 => r1.append r2⟩
  rw [b kV doc pm an cdv ct us ws l1 l2]
  exact .now
/-- an own exception class, made with keywords -/
structure XMak (P : Program) (w : World) (K : PySem.W.Frag) (mg : Str → Option Value) (base : Heap) (k : Nat) (x : Str) (ks : List Str) (sp : Sp) : Prop where
  ex : ∃ (fd : FuncData) (ps : List Str), Oex K x ∧ FnOk P w K mg base (L2.CX P w) k (He.ma K (He.ga K x) "__init__") fd ps sp ∧ KBn K fd ps 1 ks (fun us ws => us ++ ws) (fun vs zs => vs ++ zs)
theorem xmak_of {d : DefA} {C : Str} {N ps ks : List Str} {k : Nat} {sp : Sp} (F : ∃ fd, d.Fn K fd) (hp : d.path = pM C "__init__") (hd : d.dfl = []) (O : Oex K C) (S : FnScope N ps d.scope)
    (b : KBindA d.name d.qual d.params d.body d.scope ps ks) (len : ∀ vs H Q E, sp vs H Q E → vs.length = ps.length) (hb : BodyX P w K mg base N d (He.ma K (He.ga K C) "__init__") k sp) : XMak P w K mg base (k + 1) C ks sp := by
  obtain ⟨fd, F⟩ := fd_at F hp hd
  exact ⟨fd, ps, O, fnx_of F S len hb, kbn_of F b⟩
/-- what such an __init__ of two, of one parameter does -/
def spX2 (K : PySem.W.Frag) (C f1 f2 : Str) : Sp := fun vs H Q _ => ∃ (a : Addr) (v1 v2 : V), vs = [.ref a, v1, v2] ∧ H a = some (exo a (He.ga K C) none) ∧ ∀ d, H d = none → d ≠ a → Q .non (upd (upd (upd H d (exd d [(f1, v1)])) a (exo a (He.ga K C) (some d))) d (exd d [(f2, v2), (f1, v1)]))
def spX1 (K : PySem.W.Frag) (C f1 : Str) : Sp := fun vs H Q _ => ∃ (a : Addr) (v1 : V), vs = [.ref a, v1] ∧ H a = some (exo a (He.ga K C) none) ∧ ∀ d, H d = none → d ≠ a → Q .non (upd (upd H d (exd d [(f1, v1)])) a (exo a (He.ga K C) (some d)))
end
/-! ### raise C(k = v, ..) -/
def tRzK (C : Addr) (m : Nat) (sp : Sp) (tk : TA) (E : XK) : TS := fun _ σ H => tMkK C m sp (fun vs zs => vs ++ zs) tk σ H E
theorem ps_rzk {X : Cx} {x : Str} {k j m : Nat} {ks : List Str} {sp : Sp} {kws : List Keyword} {tk : TA} {p pos pos' : Pos} {E : XK} {E1 : Value → Shared → Prop} (hc : X.calm = true) (hs : X.stack = X.env :: X.outer) (hf : X.env.frame = some X.env.locals) (hex : X.ex = [])
    (hx : X.xe = fun e s' => wpAny (model X.prog X.w) X.A (leaving X.env e) (fun _ s'' => L2.CX X.prog X.w X.outer X.H_0 X.s_0 E e s'') E1 s')
    (c : XMak X.prog X.w X.K X.mg X.base k x ks sp) (hr : Room j X.A) (hk : k + 1 ≤ j) (gC : X.mg x = some (.ref (He.ga X.K x))) (hg : Gl X x) (hkw : PK X kws tk)
    (hall : (backToKw pos (keywordEach kws X.env)).all (·.1.isSome) = true := by rfl) (hks : (backToKw pos (keywordEach kws X.env)).filterMap (·.1) = ks := by rfl) (hm : ks.length = m := by rfl) (hdb : (x == ("__debug__" : Str)) = false := by decide)
    (hpl : ((backTo pos (starEach [] X.env)).any (·.1) || (backToKw pos (keywordEach kws X.env)).any (·.1.isNone)) = false := by rfl) : PS X (.Raise (some (.Call (.Name x p) [] kws pos)) none pos') (tRzK (He.ga X.K x) m sp tk E) := by
  obtain ⟨fd, ps, O, F, hb⟩ := c.ex
  subst hm
  have tk' := takes_of hs hf hex hx
  exact ps_raise hc tk' (pmk_kw O.t O.i O.f F (hr.mono hk) hb (passes_call tk' fun _ _ _ _ h => h.elim) hg gC hkw hall hks hdb hpl)
theorem r_rzk {C : Addr} {m : Nat} {sp : Sp} {tk : TA} {E : XK} {D : Ends} {σ : L2.St} {H : Hp} (q : tk σ H fun zs H1 => zs.length = m ∧ ∀ a, H1 a = none → sp ([.ref a] ++ zs) (upd H1 a (exo a C none))
  (fun v H2 => v = .non ∧ ∃ (d : Addr) (fs : List (Str × V)), H2 a = some (exo a C (some d)) ∧ H2 d = some (exd d fs) ∧ H1 d = none ∧ E (.ref C) (some d) (upd (L2.del H2 a) d (.xd fs))) fun _ _ _ => False) : tRzK C m sp tk E D σ H := q
theorem a_rzk2 {K : PySem.W.Frag} {C f1 f2 : Str} {v1 v2 : V} {H : Hp} {Q : XK} (q : ∀ d, H d = none → Q (.ref (He.ga K C)) (some d) (upd H d (.xd [(f2, v2), (f1, v1)]))) :
    [v1, v2].length = 2 ∧ ∀ a, H a = none → spX2 K C f1 f2 ([V.ref a] ++ [v1, v2]) (upd H a (exo a (He.ga K C) none))
  (fun v H2 => v = .non ∧ ∃ (d : Addr) (fs : List (Str × V)), H2 a = some (exo a (He.ga K C) (some d)) ∧ H2 d = some (exd d fs) ∧ H d = none ∧ Q (.ref (He.ga K C)) (some d) (upd (L2.del H2 a) d (.xd fs))) fun _ _ _ => False := by
  refine ⟨rfl, fun a ha => ⟨a, v1, v2, rfl, upd_same, fun d hd hn => ?_⟩⟩
  have hd' : H d = none := by rw [upd_ne hn] at hd; exact hd
  refine ⟨rfl, d, _, ?_, upd_same, hd', ?_⟩
  · rw [upd_ne (Ne.symm hn), upd_same]
  · have e : upd (L2.del (upd (upd (upd (upd H a (exo a (He.ga K C) none)) d (exd d [(f1, v1)])) a (exo a (He.ga K C) (some d))) d (exd d [(f2, v2), (f1, v1)])) a) d (.xd [(f2, v2), (f1, v1)]) = upd H d (.xd [(f2, v2), (f1, v1)]) := by
      funext b
      by_cases e : b = d
      · rw [e, upd_same, upd_same]
      · rw [upd_ne e, upd_ne e]
        by_cases e2 : b = a
        · rw [e2, del_same, ha]
        · rw [del_ne e2, upd_ne e, upd_ne e2, upd_ne e, upd_ne e2]
    rw [e]
    exact q d hd'
theorem a_rzk1 {K : PySem.W.Frag} {C f1 : Str} {v1 : V} {H : Hp} {Q : XK} (q : ∀ d, H d = none → Q (.ref (He.ga K C)) (some d) (upd H d (.xd [(f1, v1)]))) :
    [v1].length = 1 ∧ ∀ a, H a = none → spX1 K C f1 ([V.ref a] ++ [v1]) (upd H a (exo a (He.ga K C) none))
  (fun v H2 => v = .non ∧ ∃ (d : Addr) (fs : List (Str × V)), H2 a = some (exo a (He.ga K C) (some d)) ∧ H2 d = some (exd d fs) ∧ H d = none ∧ Q (.ref (He.ga K C)) (some d) (upd (L2.del H2 a) d (.xd fs))) fun _ _ _ => False := by
  refine ⟨rfl, fun a ha => ⟨a, v1, rfl, upd_same, fun d hd hn => ?_⟩⟩
  have hd' : H d = none := by rw [upd_ne hn] at hd; exact hd
  refine ⟨rfl, d, _, upd_same, by rw [upd_ne hn, upd_same], hd', ?_⟩
  have e : upd (L2.del (upd (upd (upd H a (exo a (He.ga K C) none)) d (exd d [(f1, v1)])) a (exo a (He.ga K C) (some d))) a) d (.xd [(f1, v1)]) = upd H d (.xd [(f1, v1)]) := by
    funext b
    by_cases e : b = d
    · rw [e, upd_same, upd_same]
    · rw [upd_ne e, upd_ne e]
      by_cases e2 : b = a
      · rw [e2, del_same, ha]
      · rw [del_ne e2, upd_ne e2, upd_ne e, upd_ne e2]
  rw [e]
  exact q d hd'
theorem r_ost {K : PySem.W.Frag} {f : Str} {to te : TE} {D : Ends} {σ : L2.St} {H : Hp} (q : te σ H fun y H1 => to σ H1 fun x H2 => ∃ a C : Addr, x = .ref a ∧ OexC K C ∧ PySem.W.findIn K (.ref C) f = some none ∧
  ((H2 a = some (exo a C none) ∧ ∀ dx, H2 dx = none → dx ≠ a → D.nx σ (upd (upd H2 dx (exd dx [(f, y)])) a (exo a C (some dx)))) ∨
    ∃ (dx : Addr) (fs : List (Str × V)), H2 a = some (exo a C (some dx)) ∧ H2 dx = some (exd dx fs) ∧ fs.length ≤ 900 ∧ D.nx σ (upd H2 dx (exd dx ((f, y) :: fs))))) : tOst K f to te D σ H := q
/-! ### two ways at once -/
def tTwo (t1 t2 : TE) : TE := fun σ H Q => t1 σ H Q ∨ t2 σ H Q
theorem pe_two {X : Cx} {e : Expr} {t1 t2 : TE} (h1 : PE X e t1) (h2 : PE X e t2) : PE X e (tTwo t1 t2) :=
  ⟨fun pins s σ H Q I h => h.elim (h1.run pins s σ H Q I) (h2.run pins s σ H Q I)⟩
theorem r_two1 {t1 t2 : TE} {σ : L2.St} {H : Hp} {Q : VK} (q : t1 σ H Q) : tTwo t1 t2 σ H Q := .inl q
theorem r_two2 {t1 t2 : TE} {σ : L2.St} {H : Hp} {Q : VK} (q : t2 σ H Q) : tTwo t1 t2 σ H Q := .inr q
/-! ### isinstance of an error that has its dict -/
section
open PySem.W PySem.Calls
variable {prog : Program} {w : World} {A : Around} {E : Value → Shared → Prop} {s : Shared} {K : PySem.W.Frag} {x D : Addr} {ox : Obj} {od : Option Obj}
theorem find_clsD (C : ExcC K D) : PySem.W.findObj K D od "__class__" = some (.bind (.builtin "getset_descriptor.__get__") (.builtin "object.__class__")) := by
  obtain ⟨cd, hc, _⟩ := any_some C.hd
  unfold PySem.W.findObj
  rw [hc, Option.bind_some, C.ha, Option.bind_some]
  simp [C.hn, C.ht]
theorem kin_clsD {Q : Option Value → Shared → Prop} (C : ExcC K D) (X : K.In s.heap) (I : PySem.W.InstAt s.heap x ox D od) (h : Q (some (.ref D)) { s with toks := s.toks + 1 }) : wpAny (model prog w) A (getAttr? (.ref x) "__class__") Q E s := by
  obtain ⟨hp, g, d, t, os⟩ := s
  have T0 := I.type (M := model prog w); have T1 := looks_findIn (M := model prog w) X C.hg; have T2 := looks_findIn (M := model prog w) X C.hk; have T3 := looks_find (M := model prog w) X I (find_clsD C)
  have isB : Looks (model prog w) hp (isInstance (.ref x) (.type "BaseException")) true := T0.andThen (looks_subIn X C.hs)
  have q0 : (false && onTheHeap (Value.builtin "BaseException.__getattribute__")) = false := rfl
  have q1 : (onTheHeap (Value.ref D) && Value.builtin "BaseException.__getattribute__" == Value.builtin "object.__getattribute__") = false := by rw [show (Value.builtin "BaseException.__getattribute__" == Value.builtin "object.__getattribute__") = false from by decide +kernel]; exact Bool.and_false _
  unfold getAttr? getAttrBy? getAttrBy
  refine wpAny_bind (wpAny_mkText (wpAny_bind (wpAny_attempt (wpAny_holding (wpAny_bind (T0.at (wpAny_bind (T1.at ?_))))))))
  show wpAny _ _ (if (onTheHeap (Value.ref D) && Value.builtin "BaseException.__getattribute__" == Value.builtin "object.__getattribute__") = true then _ else _) _ _ _
  rw [q1, if_neg Bool.false_ne_true]; unfold getAttrByItsOwn hookBefore
  refine wpAny_bind ?_; rw [if_pos (show onTheHeap (Value.ref D) = true from rfl)]
  refine T2.at ?_; refine wpAny_bind (wpAny_attempt (wpAny_holding ?_)); unfold callGetattribute; rw [q0, if_neg Bool.false_ne_true]; unfold boundAndCalled
  rw [PySem.F.excAttr_ValueError.ga.bind (.ref x)]; refine wpAny_bind (wpAny_pure ?_)
  show wpAny _ _ (call (.builtin "BaseException.__getattribute__") [.ref x, .str "__class__" t]) _ _ _
  refine wpAny_call (codeAny_call_builtin PySem.F.excAttr_ValueError.ga.plain PySem.F.entry_bexc_ga (@check_slot (model prog w) _ _ ⟨hp, g, d, t + 1, os⟩ "BaseException.__getattribute__" "BaseException" "__getattribute__" (.ref x) [.str "__class__" t] [] _ (by decide +kernel) (by decide +kernel) isB (PySem.F.args_bexc_ga (.ref x) (.str "__class__" t)) ?_))
  unfold Builtin.«object.__getattribute__»
  refine wpAny_bind (wpAny_of_eq (a := ((Value.ref x : Value), [Value.str "__class__" t])) (by first | rfl | (simp only [slotArgs]; rfl)) (wpAny_bind (wpAny_pure (wpAny_bind (T0.at (wpAny_bind (T3.at ?_)))))))
  show wpAny _ _ (holding [Value.builtin "object.__class__"] (call (.builtin "getset_descriptor.__get__") [.builtin "object.__class__", .ref x, .ref D]) >>= ret) _ _ _
  refine wpAny_bind (wpAny_holding (wpAny_call (class_get (s := ⟨hp, g, d, t + 1, os⟩) (ox := ox) (od := od) X I C.hm (wpAny_pure ?_))))
  show wpAny _ _ (handedOut (.ref D)) _ _ _
  rw [handedOut_of (v := .ref D) rfl]
  first | exact wpAny_pure (wpAny_pure h) | exact wpAny_pure h | exact wpAny_pure (wpAny_bind (wpAny_pure (wpAny_pure h)))
theorem kitx_excD (C : ExcC K D) : KitX K (.ref x) (.ref D) (fun h => PySem.W.InstAt h x ox D od) where
  ty := fun _ _ _ J => J.type
  it := fun _ _ X _ => by
    obtain ⟨cd, hc, _⟩ := any_some C.hd; unfold PySem.W.clsIn at hc; split at hc
    · rename_i ho; intro _ _ _ _ k q; unfold isType loadHead; exact wpAny_bind (wpAny_loadPart (k _ _ (X _ _ ho)) (wpAny_pure q))
    · cases hc
  ne := (handS_kitx_exc (x := x) (ox := ox) C.hg C.hk C.hs C.hd C.ha C.hn C.ht C.hm).ne
  ca := fun X J k => kin_clsD C X J k
end
theorem bb_ValueError : bootBuiltins "ValueError" = some (.type "ValueError") := by decide +kernel
/-! ### in the suite -/
/-- err.f: the class's facts are asked in the reading -/
def tXfG (K : PySem.W.Frag) (a : Addr) (cls : Value) (d : Option Addr) (f : Str) (te : TE) : TE := fun σ H Q => te σ H fun x H1 => x = .ref a ∧ ∃ (C dd : Addr) (fs : List (Str × V)) (v : V), cls = .ref C ∧ XfC K C ∧ PySem.W.findIn K (.ref C) f = some none ∧ d = some dd ∧ H1 dd = some (.xd fs) ∧ fs.lookup f = some v ∧ Q v H1
theorem pe_xfG {X : Cx} {a : Addr} {oe : Obj} {cls : Value} {d : Option Addr} {pn : List (Addr × Obj)} {e : Expr} {te : TE} {pos : Pos} {n : Str}
    (hz : Zc cls d oe) (hf : ∃ vs, oe.data = .fields vs) (he : PE (X.suite a ((a, oe) :: pn)) e te) (hb : attributeBase e n X.env (eval e X.env) = eval e X.env := by rfl) :
    PE (X.suite a ((a, oe) :: pn)) (.Attribute e n pos) (tXfG X.K a cls d n te) := by
  refine ⟨fun pins s σ H Q I h => ?_⟩
  refine attr_of hb (thn (he.run pins s σ H _ I h) fun u s1 hh => ?_)
  obtain ⟨x, H1, I1, rx, ex, C, dd, fs, v, ec, T, hno, ed, ea, l, q⟩ := hh
  subst ex
  obtain rfl : u = Value.ref a := rx
  subst ec
  subst ed
  obtain ⟨ha, _⟩ := I1.pin (a, oe) (List.mem_append_left _ List.mem_cons_self)
  obtain ⟨vs, hd⟩ := hf
  have hx : ObjOk X.prog X.w H1 s1.heap dd (.xd fs) := I1.hok dd _ ea
  obtain ⟨mA, hns, hr⟩ := hx
  obtain ⟨od, ho, hl⟩ := lookIn_ns hns
  obtain ⟨u, hu, ru⟩ := RelO.some_of (v := v) (o := mA n) (by rw [← l]; exact hr n)
  have J : PySem.W.InstAt s1.heap a oe C (some od) := ⟨ha, hz.1, by unfold PySem.W.notCls; rw [hd] <;> rfl, by rw [hz.2]; exact ho⟩
  exact HandSPX.exc_get I1.kIn J T.ga T.gg T.exC (PySem.W.findObj_own T.hdC hno rfl (by rw [hl, hu])) (handed_of ru) ⟨v, H1, I1.tok _, ru, q⟩
theorem r_xf {K : PySem.W.Frag} {a : Addr} {cls : Value} {d : Option Addr} {f : Str} {te : TE} {σ : L2.St} {H : Hp} {Q : VK} (q : te σ H fun x H1 => x = .ref a ∧ ∃ (C dd : Addr) (fs : List (Str × V)) (v : V), cls = .ref C ∧ XfC K C ∧ PySem.W.findIn K (.ref C) f = some none ∧ d = some dd ∧ H1 dd = some (.xd fs) ∧ fs.lookup f = some v ∧ Q v H1) : tXfG K a cls d f te σ H Q := q
/-- isinstance(err, c) -/
def rIsG (K : PySem.W.Frag) (a : Addr) (cls : Value) (d : Option Addr) : List V → Hp → VK → Prop := fun xs H Q => ∃ (D : Addr) (c : V) (cv : Value) (b : Bool), xs = [.ref a, c] ∧ cls = .ref D ∧ ExcC K D ∧ (d = none ∨ ∃ dd fs, d = some dd ∧ H dd = some (.xd fs)) ∧ (∀ u, RelV c u → u = cv) ∧ PySem.W.kitOne K (.ref D) cv = some b ∧ Q (.bl b) H
section
variable {K : PySem.W.Frag} {a D c : Addr} {d : Option Addr} {b : Bool} {H : Hp} {Q : VK}
theorem r_isG (C : ExcC K D) (hd : d = none ∨ ∃ dd fs, d = some dd ∧ H dd = some (.xd fs)) (e : PySem.W.kitOne K (.ref D) (.ref c) = some b) (q : Q (.bl b) H) : rIsG K a (.ref D) d [.ref a, .ref c] H Q := ⟨D, .ref c, .ref c, b, rfl, rfl, C, hd, fun _ r => r, e, q⟩
theorem r_isGT {T : String} (C : ExcC K D) (hd : d = none ∨ ∃ dd fs, d = some dd ∧ H dd = some (.xd fs)) (e : PySem.W.kitOne K (.ref D) (.type T) = some b) (q : Q (.bl b) H) : rIsG K a (.ref D) d [.ref a, .ty T] H Q := ⟨D, .ty T, .type T, b, rfl, rfl, C, hd, fun _ r => r, e, q⟩
end
theorem call_isG {X : Cx} {a : Addr} {oe : Obj} {cls : Value} {d : Option Addr} {pn : List (Addr × Obj)} (hz : Zc cls d oe) (hf : ∃ vs, oe.data = .fields vs) : CallR (X.suite a ((a, oe) :: pn)) (.builtin "isinstance") (rIsG X.K a cls d) := by
  intro pins s σ H xs us Q I r h
  obtain ⟨D, c, cv, b, rfl, rfl, C, hd, hcv, e, q⟩ := h
  cases r with
  | cons rx rr =>
    cases rr with
    | cons rt rr =>
      cases rr
      cases rx
      have ec := hcv _ rt
      subst ec
      obtain ⟨hget, _⟩ := I.pin (a, oe) (List.mem_append.mpr (.inl List.mem_cons_self))
      obtain ⟨vs, hv⟩ := hf
      have J : ∃ o, PySem.W.InstAt s.heap a oe D o := by
        rcases hd with rfl | ⟨dd, fs, rfl, ed⟩
        · exact ⟨none, hget, hz.1, by unfold PySem.W.notCls; rw [hv] <;> rfl, by rw [hz.2]; trivial⟩
        · have hx : ObjOk X.prog X.w H s.heap dd (.xd fs) := I.hok dd _ ed
          obtain ⟨mA, hns, hr⟩ := hx
          obtain ⟨od, ho, hl⟩ := lookIn_ns hns
          exact ⟨some od, hget, hz.1, by unfold PySem.W.notCls; rw [hv] <;> rfl, by rw [hz.2]; exact ho⟩
      obtain ⟨o, J⟩ := J
      exact PySem.W.kia_one (kitx_excD C) I.kIn J e (fun z => nomatch z) fun tk => ⟨.bl b, H, I.kept (t' := tk) fun _ _ z => z, rfl, q⟩
/-! ### xs.count(y), flat items -/
section
variable {X : Cx}
def rCnt (K : PySem.W.Frag) : V → List V → Hp → VK → Prop := fun x xs H Q => ∃ (a : Addr) (ys : List V) (y : V), x = V.ref a ∧ xs = [y] ∧ SqL K H a ys ∧ flatV y = true ∧ ys.all flatV = true ∧ Q (.int ((ys.countP fun z => eqV z y : Nat) : Int)) H
theorem r_cntL {K : PySem.W.Frag} {a : Addr} {H : Hp} {Q : VK} {xs : List V} {y : V} {n : Nat} (h : SqL K H a xs) (fy : flatV y = true) (fx : xs.all flatV = true) (e : (xs.countP fun z => eqV z y) = n) (q : Q (.int (n : Nat)) H) : rCnt K (.ref a) [y] H Q := ⟨a, xs, y, rfl, rfl, h, fy, fx, by rw [e]; exact q⟩
theorem count_eqU {x : V} : ∀ {xs : List V} {us : List Value}, Vals xs us → xs.all flatV = true → us.countP (eqU x) = xs.countP fun y => eqV y x := by
  intro xs us r
  induction r with
  | nil => intro _; rfl
  | @cons v u vs us rv rr ih =>
    intro f
    obtain ⟨f1, f2⟩ := Bool.and_eq_true_iff.mp (show (flatV v && vs.all flatV) = true from f)
    rw [List.countP_cons, List.countP_cons, ih f2, eqU_of rv f1]
theorem mt_cntL : MtR X "list.count" (rCnt X.K) := by
  intro pins s σ H x xs v us Q I rx rxs h
  obtain ⟨a, ys, y, rfl, rfl, hs, fy, fys, q⟩ := h
  cases rx
  cases rxs with
  | cons ry rt =>
    rename_i uy ut
    cases rt
    obtain ⟨its, rv, ⟨⟨cls, dd, data, sl⟩, n, ho, hc, hdn, hd⟩, hlen⟩ := I.list hs
    simp only at hc hd
    subst hc hd
    refine call_meets PySem.F.slot_list_count ⟨_, ho, rfl⟩ PySem.F.entry_list_count (PySem.F.args_list_count_2 _ _)
      (SeqAt.list_countAt a its.toArray n dd sl uy (eqU y)) ⟨ho, fun u' hu' => mem_eqAt ry fy rv fys u' (by simpa using hu'), ?_⟩
    rw [← count_eqU rv fys] at q
    exact ⟨.int _, H, I.tok _, ⟨_, rfl⟩, q⟩
end
section
variable {X : Cx} {K : PySem.W.Frag} {o e : Expr} {es : List Expr} {to : TE} {t : TA} {name : Str} {apos cpos : Pos} {T id : String} {r : V → List V → Hp → VK → Prop}
theorem mtK {r : PySem.W.Frag → V → List V → Hp → VK → Prop} (h : X.K = K) (c : MtR X id (r X.K)) : MtR X id (r K) := h ▸ c
theorem pe_bmK (hK : X.K = K) (pa : PlainAttrs T) (slot : Slot T name id) (hty : typeOf (.builtin id) = pure (.type "method_descriptor")) (hm : MtR X id r) (ho : PE X o to) (ha : PA X (e :: es) t) (hbase : attributeBase o name X.env (eval o X.env) = eval o X.env := by rfl)
    (hfew : ((backTo cpos (starEach (e :: es) X.env)).all (fun x => !x.1) && (backToKw cpos (keywordEach [] X.env)).all (fun x => x.1.isSome) && decide ((e :: es).length + ([] : List Keyword).length + (if ([] : List Keyword).isEmpty then 0 else 1) < 30)) = true := by rfl)
    (hline : (apos.endLine == cpos.line) = true := by rfl) (hs : starEach (e :: es) X.env = (false, eval e X.env) :: starEach es X.env := by rfl) (hplain : (backTo cpos (starEach es X.env)).any (·.1) = false := by rfl) : PE X (.Call (.Attribute o name apos) (e :: es) [] cpos) (tBM K T r to t) := hK ▸ pe_bm pa slot hty hm ho ha hbase hfew hline hs hplain
end
end G57
end
section
set_option maxRecDepth 100000
set_option maxHeartbeats 4000000
/-! XOwnOp: own operators: a + b, a * n, a == b, a != b of instances of the module's classes. -/
namespace G57
open PySem PySem.Spec PyProof.Rows L2
/-! ### facts -/
structure OwnOps (K : PySem.W.Frag) (C : Addr) : Prop where
  sf : PySem.W.selfFirst K C = true
  ca : PySem.W.findIn K (.ref C) "__class__" = some (some (.builtin "object.__class__"))
  cn : PySem.W.specialIn K (.builtin "object.__class__") "__get__" = some (some (.builtin "getset_descriptor.__get__"))
  ct : PySem.W.takesIn K (.builtin "object.__class__") = some true
  cm : PySem.W.mroIn K C (.type "object") = some true
  tf : PySem.W.kitOne K (.type "tuple") (.ref C) = some false
  ft : PySem.W.kitOne K (.ref C) (.type "tuple") = some false
  nt : PySem.W.notFirst K C (.type "tuple") = true
  rm : PySem.W.findIn K (.ref C) "__rmul__" = some none
  im : ∃ fo, PySem.W.findIn K (.type "int") "__mul__" = some fo
  ir : ∃ ro, PySem.W.findIn K (.type "int") "__rmul__" = some ro
  is : PySem.W.subIn K (.type "int") (.ref C) = some false
def ownOpsB (x : Str) : Ex := fun K =>
  PySem.W.selfFirst K (He.ga K x) && (He.eqO (PySem.W.findIn K (.ref (He.ga K x)) "__class__") (some (some (.builtin "object.__class__"))) && (He.eqO (PySem.W.specialIn K (.builtin "object.__class__") "__get__") (some (some (.builtin "getset_descriptor.__get__"))) && (decide (PySem.W.takesIn K (.builtin "object.__class__") = some true) && (decide (PySem.W.mroIn K (He.ga K x) (.type "object") = some true) &&
  (decide (PySem.W.kitOne K (.type "tuple") (.ref (He.ga K x)) = some false) && (decide (PySem.W.kitOne K (.ref (He.ga K x)) (.type "tuple") = some false) && (PySem.W.notFirst K (He.ga K x) (.type "tuple") && (He.eqO (PySem.W.findIn K (.ref (He.ga K x)) "__rmul__") (some none) &&
  ((PySem.W.findIn K (.type "int") "__mul__").isSome && ((PySem.W.findIn K (.type "int") "__rmul__").isSome && decide (PySem.W.subIn K (.type "int") (.ref (He.ga K x)) = some false)))))))))))
theorem ownOps_ok {K : PySem.W.Frag} {x : Str} (h : ownOpsB x K = true) : OwnOps K (He.ga K x) := by
  obtain ⟨h1, h⟩ := He.ba h
  obtain ⟨h2, h⟩ := He.ba h
  obtain ⟨h3, h⟩ := He.ba h
  obtain ⟨h4, h⟩ := He.ba h
  obtain ⟨h5, h⟩ := He.ba h
  obtain ⟨h6, h⟩ := He.ba h
  obtain ⟨h7, h⟩ := He.ba h
  obtain ⟨h8, h⟩ := He.ba h
  obtain ⟨h9, h⟩ := He.ba h
  obtain ⟨h10, h⟩ := He.ba h
  obtain ⟨h11, h12⟩ := He.ba h
  exact ⟨h1, He.eqO_ok h2, He.eqO_ok h3, of_decide_eq_true h4, of_decide_eq_true h5, of_decide_eq_true h6, of_decide_eq_true h7, h8, He.eqO_ok h9, Option.isSome_iff_exists.mp h10, Option.isSome_iff_exists.mp h11, of_decide_eq_true h12⟩
/-- an own class over object with an own == and no own != -/
structure OwnEqC (K : PySem.W.Frag) (C f : Addr) : Prop where
  cls : ∃ nm q N bs hd sn sub ab col dd k0 k1 k2 k3 k5 n, K.lookup C = some (excClassObj nm q C N bs [.type "object"] hd sn sub ab col dd k0 k1 k2 k3 k5 n) ∧ PySem.W.nsOkIn K N = true ∧ PySem.W.nsIn K N "__eq__" = some (some (.ref f)) ∧ PySem.W.nsIn K N "__ne__" = some none
  fn : PySem.W.isFn K (.ref f) = true
def ownEqB (x : Str) : Ex := fun K => (match K.lookup (He.ga K x) with
  | some ⟨.type "type", _, .cls cd, sl⟩ => (match cd.mro, sl.toList with
    | [.ref C', .type o], [_, _, _, _, some (.builtin _), _] => (C' == He.ga K x && o == "object") && (!cd.hasDel && (PySem.W.nsOkIn K cd.ns && (He.eqO (PySem.W.nsIn K cd.ns "__eq__") (some (some (.ref (He.ma K (He.ga K x) "__eq__")))) && He.eqO (PySem.W.nsIn K cd.ns "__ne__") (some none))))
    | _, _ => false)
  | _ => false) && PySem.W.isFn K (.ref (He.ma K (He.ga K x) "__eq__"))
theorem ownEq_ok {K : PySem.W.Frag} {x : Str} (h : ownEqB x K = true) : OwnEqC K (He.ga K x) (He.ma K (He.ga K x) "__eq__") := by
  obtain ⟨h, hf⟩ := He.ba h
  refine ⟨?_, hf⟩
  split at h
  · rename_i dd cd sl ho
    split at h
    · rename_i C' o k0 k1 k2 k3 n k5 hm hs
      obtain ⟨h1, h⟩ := He.ba h
      obtain ⟨h2, h⟩ := He.ba h
      obtain ⟨h3, h⟩ := He.ba h
      obtain ⟨h4, h5⟩ := He.ba h
      simp only [Bool.and_eq_true, beq_iff_eq, Bool.not_eq_true'] at h1 h2
      obtain ⟨rfl, rfl⟩ := h1
      obtain ⟨nm, bs, mro, ns, qn, hd, sn, sub, ab, col, del⟩ := cd
      dsimp only at hm h2 h3 h4 h5
      subst hm h2
      have hsl : sl = #[k0, k1, k2, k3, some (.builtin n), k5] := by
        obtain ⟨l⟩ := sl
        simp only at hs
        rw [hs]
      subst hsl
      exact ⟨nm, qn, ns, bs, hd, sn, sub, ab, col, dd, k0, k1, k2, k3, k5, n, ho, h3, He.eqO_ok h4, He.eqO_ok h5⟩
    · cases h
  · cases h
/-! ### a value that a def hands back -/
theorem back_of {v : V} {u : Value} {s : Shared} {Q : Value → Shared → Prop} (r : RelV v u) (q : Q u s) : PySem.W.CmpBack Q u s := by
  cases u <;> first | exact q | skip
  cases v <;> first | (obtain ⟨_, e⟩ := r; cases e; done) | (cases r; done) | exact (nomatch r) | exact r.elim
section
variable {X : Cx} {CX : CXT} {k : Nat} {f C : Addr} {fd : FuncData} {ps : List Str} {sp : Sp} {E : XK}
/-- a + b .., both instances of the class -/
def rOwn (C : Addr) (sp : Sp) (E : XK) : R2 := fun x y H Q => ∃ (a b dx dy : Addr) (fs gs : List (Str × V)), x = .ref a ∧ y = .ref b ∧ H a = some (.ins C dx fs) ∧ H b = some (.ins C dy gs) ∧ sp [.ref a, .ref b] H Q E
theorem op_own {op : Operator} (F : FnOk X.prog X.w X.K X.mg X.base CX k f fd ps sp) (hr : Room k X.A) (hb : Binds X.K fd ps []) (hx : Passes CX X E) (O : OwnOps X.K C) (hs : PySem.W.findIn X.K (.ref C) (PySem.dunder op.info.2) = some (some (.ref f))) (hf : PySem.W.isFn X.K (.ref f) = true) :
    OpR X (binaryOp op) (rOwn C sp E) := by
  intro pins s σ H x y v u Q I rx ry h
  obtain ⟨a, b, dx, dy, fs, gs, rfl, rfl, ha, hb', hsp⟩ := h
  cases rx
  cases ry
  obtain ⟨mA, J, _⟩ := ins_get I.hok ha
  obtain ⟨mB, J', _⟩ := ins_get I.hok hb'
  obtain ⟨od, J, _⟩ := J.look
  obtain ⟨od', J', _⟩ := J'.look
  obtain ⟨m, hF⟩ := I.fr
  refine PySem.W.binop_K hF I.ok.mod.kin J J'.type O.sf hs hf (wpAny_mono (run_fn F hr hb .nil hx I (vs := [.ref a, .ref b]) (us := [.ref a, .ref b]) (.cons rfl (.cons rfl .nil)) hsp) (fun w s' hq => ?_) fun _ _ e => e)
  obtain ⟨z, H', I', rz, q⟩ := hq
  exact back_of rz ⟨z, H', I', rz, q⟩
/-- a * n -/
def rOwnI (C : Addr) (sp : Sp) (E : XK) : R2 := fun x y H Q => ∃ (a dx : Addr) (fs : List (Str × V)) (i : Int), x = .ref a ∧ y = .int i ∧ H a = some (.ins C dx fs) ∧ sp [.ref a, .int i] H Q E
theorem op_ownI (F : FnOk X.prog X.w X.K X.mg X.base CX k f fd ps sp) (hr : Room k X.A) (hb : Binds X.K fd ps []) (hx : Passes CX X E) (O : OwnOps X.K C) (hs : PySem.W.findIn X.K (.ref C) "__mul__" = some (some (.ref f))) (hf : PySem.W.isFn X.K (.ref f) = true) :
    OpR X (binaryOp .Mult) (rOwnI C sp E) := by
  intro pins s σ H x y v u Q I rx ry h
  obtain ⟨a, dx, fs, i, rfl, rfl, ha, hsp⟩ := h
  cases rx
  obtain ⟨t, rfl⟩ := (show ∃ t, u = Value.int i t from ry)
  obtain ⟨mA, J, _⟩ := ins_get I.hok ha
  obtain ⟨od, J, _⟩ := J.look
  obtain ⟨m, hF⟩ := I.fr
  obtain ⟨fo, h1⟩ := O.im
  obtain ⟨ro, h2⟩ := O.ir
  refine PySem.W.ksp_binT (T := "int") (rc := none) hF I.ok.mod.kin J rfl O.sf hs hf O.rm (.inl rfl) h1 h2 O.is (wpAny_mono (run_fn F hr hb .nil hx I (vs := [.ref a, .int i]) (us := [.ref a, .int i t]) (.cons rfl (.cons ⟨t, rfl⟩ .nil)) hsp) (fun w s' hq => ?_) fun _ _ e => e)
  obtain ⟨z, H', I', rz, q⟩ := hq
  exact back_of rz ⟨z, H', I', rz, q⟩
/-- a == b: an instance, or a tuple -/
def rOwnEq (K : PySem.W.Frag) (C : Addr) (sp : Sp) (E : XK) : R2 := fun x y H Q => ∃ (a b dx : Addr) (fs : List (Str × V)), x = .ref a ∧ y = .ref b ∧ H a = some (.ins C dx fs) ∧ ((∃ dy gs, H b = some (.ins C dy gs)) ∨ ∃ xs, SqT K H b xs) ∧ sp [.ref a, .ref b] H Q E
theorem op_ownEq (F : FnOk X.prog X.w X.K X.mg X.base CX k f fd ps sp) (hr : Room k X.A) (hb : Binds X.K fd ps []) (hx : Passes CX X E) (O : OwnOps X.K C) (hs : PySem.W.findIn X.K (.ref C) "__eq__" = some (some (.ref f))) (hf : PySem.W.isFn X.K (.ref f) = true) :
    OpR X (compareOp .Eq) (rOwnEq X.K C sp E) := by
  intro pins s σ H x y v u Q I rx ry h
  obtain ⟨a, b, dx, fs, rfl, rfl, ha, hby, hsp⟩ := h
  cases rx
  cases ry
  obtain ⟨mA, J, _⟩ := ins_get I.hok ha
  obtain ⟨od, J, _⟩ := J.look
  obtain ⟨m, hF⟩ := I.fr
  have fin : wpAny (model X.prog X.w) X.A (call (.ref f) [.ref a, .ref b]) (PySem.W.CmpBack (EP X pins σ Q)) X.xe s := wpAny_mono (run_fn F hr hb .nil hx I (vs := [.ref a, .ref b]) (us := [.ref a, .ref b]) (.cons rfl (.cons rfl .nil)) hsp) (fun w s' hq => by
    obtain ⟨z, H', I', rz, q⟩ := hq
    exact back_of rz ⟨z, H', I', rz, q⟩) fun _ _ e => e
  show wpAny _ _ (richCompare .Eq (.ref a) (.ref b)) _ _ _
  rcases hby with ⟨dy, gs, hb'⟩ | ⟨xs, ht⟩
  · obtain ⟨mB, J', _⟩ := ins_get I.hok hb'
    obtain ⟨od', J', _⟩ := J'.look
    exact PySem.W.cmp_K (op := .Eq) (tb := .ref C) hr.units0 hF I.ok.mod.kin J J'.type (by simp [PySem.W.notFirst]) hs hf fin
  · obtain ⟨its, r, ⟨o, ho, hc, _⟩, _⟩ := I.tuple ht
    exact PySem.W.cmp_K (op := .Eq) (tb := .type "tuple") hr.units0 hF I.ok.mod.kin J (fun A Q E s k q => wpAny_typeOf_ref (k _ _ ho) (by rw [hc]; exact q)) O.nt hs hf fin
/-- a != b, both instances: the own == turned round -/
def rOwnNe (C : Addr) (sp : Sp) (E : XK) : R2 := fun x y H Q => ∃ (a b dx dy : Addr) (fs gs : List (Str × V)), x = .ref a ∧ y = .ref b ∧ H a = some (.ins C dx fs) ∧ H b = some (.ins C dy gs) ∧ sp [.ref a, .ref b] H (fun v H' => ∃ c, v = .bl c ∧ Q (.bl (!c)) H') E
theorem ns_at {K : PySem.W.Frag} {h : Heap} {N : Addr} {mN : Str → Option Value} {n : Str} {v : Value} (Z : K.In h) (G : h.Ns N mN) (e : PySem.W.nsIn K N n = some (some v)) : mN n = some v := by
  obtain ⟨o, es, ep, ho, hd, _, hf⟩ := G
  unfold PySem.W.nsIn at e
  split at e
  · rename_i q
    have z := Z _ _ q; rw [ho] at z; cases z; cases hd
    split at e
    · rename_i he
      cases e
      rw [← hf]; unfold nsFind findBy; rw [← Array.find?_toList, he]; rfl
    · split at e <;> cases e
  · cases e
theorem ownEq_heap {K : PySem.W.Frag} {h : Heap} {C f x : Addr} {o : Obj} (Z : K.In h) (O : OwnEqC K C f) (hx : h.get? x = some o) (hc : o.cls = .ref C) : h.OwnEqNoNe x C f "object" [.type "object"] := by
  obtain ⟨nm, q, N, bs, hd, sn, sub, ab, col, dd, k0, k1, k2, k3, k5, n, hC, hok, he, hne⟩ := O.cls
  have hf : (K.lookup f).map (·.cls) = some (.type "function") := beq_iff_eq.mp O.fn
  cases hof : K.lookup f with
  | none => rw [hof] at hf; cases hf
  | some of =>
    rw [hof] at hf
    have hfc : of.cls = .type "function" := Option.some.inj hf
    have G : h.Ns N (h.nsMap N) := .of_isNs (PySem.W.isNs_of_in Z hok)
    exact ⟨o, of, nm, q, N, bs, hd, sn, sub, ab, col, dd, k0, k1, k2, k3, k5, n, _, _, hx, hc, Z _ _ hC, G, ns_at Z G he, Z _ _ hof, hfc, PySem.F.cmp_object.mro, PySem.F.cmp_object.eq.lookup, PySem.W.nsMap_none_of_in Z hok hne⟩
theorem op_ownNe (F : FnOk X.prog X.w X.K X.mg X.base CX k f fd ps sp) (hr : Room (k + 1) X.A) (hb : Binds X.K fd ps []) (hx : Passes CX X E) (O : OwnEqC X.K C f) : OpR X (compareOp .NotEq) (rOwnNe C sp E) := by
  intro pins s σ H x y v u Q I rx ry h
  obtain ⟨a, b, dx, dy, fs, gs, rfl, rfl, ha, hb', hsp⟩ := h
  cases rx
  cases ry
  obtain ⟨mA, J, _⟩ := ins_get I.hok ha
  obtain ⟨mB, J', _⟩ := ins_get I.hok hb'
  obtain ⟨od, J, _⟩ := J.look
  obtain ⟨od', J', _⟩ := J'.look
  have hu : X.A.units + 1 < cLine := hr.in1.units0
  have e := I.env0
  have e0 : Env0 X.prog X.w X.K X.mg X.base X.A.in1 X.stack s H := e.in1
  have hl := F.len _ _ _ _ hsp
  obtain ⟨hp, g, d, t, os⟩ := s
  refine PySem.compareOp_ne_ownEq PySem.F.cmp_object (ownEq_heap I.kIn O J.at_ J.cls) J'.at_ J'.cls hu (wpAny_call (codeAny_mono (F.run X.A.in1 X.stack _ H ⟨[.ref a, .ref b], []⟩ [.ref a, .ref b] [.ref a, .ref b] _ E hr.in1 e0 (by
    have := hb ⟨hp, g, d, t, os⟩ [.ref a, .ref b] I.kIn (by simpa using hl)
    simpa using this) (.cons rfl (.cons rfl .nil)) hsp) fun r s' hq => ?_))
  cases r with
  | error e => exact hx pins σ H _ e s' I hq
  | ok fl =>
    cases fl with
    | ret w =>
      obtain ⟨z, H', I', rz, c, ez, q⟩ := I.after hq
      subst ez
      obtain rfl : w = Value.bool c := rz
      exact ⟨c, rfl, .bl (!c), H', I', rfl, q⟩
    | next => exact False.elim hq
    | brk => exact False.elim hq
    | cont => exact False.elim hq
end
end G57
namespace G57
open PySem PySem.Spec PyProof.Rows L2
section
variable {X : Cx} {j k : Nat} {C : Addr} {sp : Sp} {E : XK}
theorem op_addX (c : MetX X.prog X.w X.K X.mg X.base k C "__add__" sp) (hr : Room j X.A) (hk : k ≤ j) (hx : Passes (L2.CX X.prog X.w) X E) (O : OwnOps X.K C) : OpR X (binaryOp .Add) (rOwn C sp E) := by
  obtain ⟨f, fd, ps, _, M, F, b⟩ := c.ex
  exact op_own F (hr.mono hk) b hx O M.at_ M.fn
theorem op_mulX (c : MetX X.prog X.w X.K X.mg X.base k C "__mul__" sp) (hr : Room j X.A) (hk : k ≤ j) (hx : Passes (L2.CX X.prog X.w) X E) (O : OwnOps X.K C) : OpR X (binaryOp .Mult) (rOwnI C sp E) := by
  obtain ⟨f, fd, ps, _, M, F, b⟩ := c.ex
  exact op_ownI F (hr.mono hk) b hx O M.at_ M.fn
theorem op_eqM (c : C8.Met X.prog X.w X.K X.mg X.base k C "__eq__" sp []) (hr : Room j X.A) (hk : k ≤ j) (O : OwnOps X.K C) : OpR X (compareOp .Eq) (rOwnEq X.K C sp C8.E0) := by
  obtain ⟨f, fd, ps, ds, _, M, F, b, d⟩ := c.ex
  cases d
  exact op_ownEq F (hr.mono hk) b C8.pass0 O M.at_ M.fn
theorem op_neM {f : Addr} (c : C8.Met X.prog X.w X.K X.mg X.base k C "__eq__" sp []) (hr : Room j X.A) (hk : k + 1 ≤ j) (O : OwnEqC X.K C f) (hf : PySem.W.findIn X.K (.ref C) "__eq__" = some (some (.ref f))) : OpR X (compareOp .NotEq) (rOwnNe C sp C8.E0) := by
  obtain ⟨f', fd, ps, ds, _, M, F, b, d⟩ := c.ex
  cases d
  have e : f' = f := by
    have z := M.at_.symm.trans hf
    cases z
    rfl
  subst e
  exact op_ownNe F (hr.mono hk) b C8.pass0 O
end
end G57
end
section
set_option maxRecDepth 100000
set_option maxHeartbeats 4000000
/-! XZip: [f(x, y) for x, y in zip(t, u)], tuples of ints; isinstance of own classes. -/
namespace G57
open PySem PySem.Spec PyProof.Rows L2
theorem lcI_zipT {K : PySem.W.Frag} {a b : Addr} {xs ys : List Int} {j1 j2 : Nat} {σ : L2.St} {H1 : Hp} {Q : VK} {te : TE} (f : Int → Int → Int) (n12 : j1 ≠ j2) (hl : SqT K H1 a (xs.map V.int)) (hk : SqT K H1 b (ys.map V.int)) (len : ys.length = xs.length) (hn : xs.length ≤ 100000)
    (hs : ∀ x y H' (Z : VK), Same H1 H' → (∀ H4, Same H' H4 → Z (.int (f x y)) H4) → SetR j1 (.int x) (fun s => SetR j2 (.int y) (fun s => te s H' Z) s) σ)
    (hd : ∀ D H', H1 D = none → Same H1 H' → H' D = some (.lst ((List.zipWith f xs ys).map V.int)) → Q (.ref D) H') :
    LcR (RZ.ItzT K a b) (gTup K 2 (gCons (gName j1) (gCons (gName j2) gNil))) tYes te [j1, j2] σ Q H1 := fun D hD => by
  have hn' : xs.length ≤ sizeLine := Nat.le_trans hn (by decide)
  have hR : ∀ i v, Stab ((fun (i : Nat) (v : V) (_ : Hp) => ∃ x y, xs[i]? = some x ∧ ys[i]? = some y ∧ v = .int (f x y)) i v) := fun _ _ => Stab.triv
  refine ⟨fun i m H => i ≤ xs.length ∧ m = xs.length - i ∧ LcP H1 D (fun (i : Nat) (v : V) (_ : Hp) => ∃ x y, xs[i]? = some x ∧ ys[i]? = some y ∧ v = .int (f x y)) i H, ⟨xs.length, Nat.zero_le _, rfl, lcP_0 hD⟩, fun i m H ⟨hi, hm, p⟩ => ?_⟩
  have s1 : Same H1 H := p.choose_spec.2.2.1
  have ha := same_sqT s1 hl
  have hb := same_sqT s1 hk
  by_cases lt : i < xs.length
  · have lt2 : i < ys.length := by omega
    have ex : (xs.map V.int)[i]? = some (.int xs[i]) := by rw [List.getElem?_map, List.getElem?_eq_getElem lt]; rfl
    have ey : (ys.map V.int)[i]? = some (.int ys[i]) := by rw [List.getElem?_map, List.getElem?_eq_getElem lt2]; rfl
    refine .inr ⟨⟨_, _, _, _, ha, hb, ex, ey⟩, fun H' => LcP H1 D (fun (i : Nat) (v : V) (_ : Hp) => ∃ x y, xs[i]? = some x ∧ ys[i]? = some y ∧ v = .int (f x y)) (i + 1) H', fun H' q => ⟨xs.length - (i + 1), by omega, by omega, rfl, q⟩, fun v H' yld => ?_⟩
    obtain ⟨t, x, y, rfl, ht, rfl, hx, hy⟩ := yld
    have e1 := hx _ ha
    have e2 := hy _ hb
    rw [ex] at e1
    rw [ey] at e2
    cases e1
    cases e2
    have s2 : Same H (upd H t (.tup [.int xs[i], .int ys[i]])) := same_new ht
    refine ⟨t, [.int xs[i], .int ys[i]], rfl, sqT_at upd_same, rfl, ⟨_, _, rfl, ⟨_, _, rfl, ⟨rfl, ?_, ?_⟩⟩⟩⟩
    · rw [wipe2 n12]
      exact wipe2' n12 _ _
    · rw [wipe2 n12]
      refine tYes_of (hs _ _ _ _ (sameT s1 s2) fun H4 s4 => ?_)
      exact lcP_step hR hn' lt hD p (sameT s2 s4) ⟨_, _, List.getElem?_eq_getElem lt, List.getElem?_eq_getElem lt2, rfl⟩
  · refine .inl ⟨⟨_, _, ha, hb, .inl (by rw [List.length_map]; omega)⟩, ?_⟩
    obtain ⟨zs, e, l, s, hr⟩ := p
    refine hd D H hD s ?_
    have ez : zs = (List.zipWith f xs ys).map V.int := by
      refine List.ext_getElem? fun j => ?_
      by_cases lj : j < zs.length
      · obtain ⟨x, y, h1, h2, h3⟩ := hr j zs[j] (List.getElem?_eq_getElem lj)
        rw [List.getElem?_eq_getElem lj, h3, List.getElem?_map, List.getElem?_zipWith, h1, h2]
        rfl
      · rw [List.getElem?_eq_none (by omega), List.getElem?_eq_none (by simp; omega)]
    rw [e, ez]
theorem r_isiC {K : PySem.W.Frag} {x : V} {C : Addr} {t : Value} {b : Bool} {H : Hp} {Q : VK} (ty : TyX K H x t) (e : PySem.W.kitOne K t (.ref C) = some b) (q : Q (.bl b) H) : rIsi K [x, .ref C] H Q := ⟨x, .ref C, t, .ref C, b, rfl, .own C, ty, e, q⟩
theorem r_isiT2 {K : PySem.W.Frag} {x : V} {T : String} {t : Value} {b : Bool} {H : Hp} {Q : VK} (ty : TyX K H x t) (e : PySem.W.kitOne K t (.type T) = some b) (q : Q (.bl b) H) : rIsi K [x, .ty T] H Q := ⟨x, .ty T, t, .type T, b, rfl, .ty T, ty, e, q⟩
end G57
end
section
/-! MEff: the plain law of effects. -/
namespace G57
structure Eff where
  shift : Int
  low : Int
  high : Int
  need : Int
  room : Int
  misses : Int
  waste : Int
def Eff.fin (e : Eff) (s : Int) : Int := min (max (s + e.shift) e.low) e.high
def Eff.mis (e : Eff) (s : Int) : Int := e.misses + max 0 (e.need - s)
def Eff.thr (e : Eff) (s : Int) : Int := e.waste + max 0 (s - e.room)
def Eff.seq (f g : Eff) : Eff :=
  if f.low = f.high then ⟨f.shift + g.shift, g.fin f.low, g.fin f.high, f.need, f.room, f.misses + g.mis f.low, f.waste + g.thr f.low⟩
  else ⟨f.shift + g.shift, g.fin f.low, g.fin f.high, min (max g.need f.low) f.high - f.shift, min (max g.room f.low) f.high - f.shift, f.misses + g.misses + max 0 (g.need - f.high), f.waste + g.waste + max 0 (f.low - g.room)⟩
def dayE (b c k : Int) : Eff := ⟨b - c, 0, k, 0 - (b - c), k - (b - c), 0, 0⟩
structure Eff.Ok (e : Eff) : Prop where
  le : e.low ≤ e.high
  nd : e.low < e.high → e.need = e.low - e.shift ∧ e.room = e.high - e.shift
theorem dayE_ok {b c k : Int} (h : 0 ≤ k) : (dayE b c k).Ok := ⟨h, fun _ => ⟨rfl, rfl⟩⟩
theorem seq_fin {f g : Eff} (hf : f.Ok) (hg : g.Ok) (s : Int) : (f.seq g).fin s = g.fin (f.fin s) := by
  have h1 := hf.le
  have h2 := hg.le
  unfold Eff.seq
  split <;> (simp only [Eff.fin]; omega)
theorem seq_mis {f g : Eff} (hf : f.Ok) (s : Int) : (f.seq g).mis s = f.mis s + g.mis (f.fin s) := by
  have h1 := hf.le
  unfold Eff.seq
  split
  · rename_i h
    simp only [Eff.mis, Eff.fin]
    omega
  · rename_i h
    obtain ⟨h3, h4⟩ := hf.nd (by omega)
    simp only [Eff.mis, Eff.fin]
    omega
theorem seq_thr {f g : Eff} (hf : f.Ok) (s : Int) : (f.seq g).thr s = f.thr s + g.thr (f.fin s) := by
  have h1 := hf.le
  unfold Eff.seq
  split
  · rename_i h
    simp only [Eff.thr, Eff.fin]
    omega
  · rename_i h
    obtain ⟨h3, h4⟩ := hf.nd (by omega)
    simp only [Eff.thr, Eff.fin]
    omega
theorem seq_ok {f g : Eff} (hf : f.Ok) (hg : g.Ok) : (f.seq g).Ok := by
  have h1 := hf.le
  have h2 := hg.le
  unfold Eff.seq
  split
  · rename_i h
    refine ⟨?_, ?_⟩
    · simp only [Eff.fin]
      omega
    · simp only [Eff.fin]
      intro z
      omega
  · rename_i h
    refine ⟨?_, ?_⟩
    · simp only [Eff.fin]
      omega
    · simp only [Eff.fin]
      intro z
      obtain ⟨h3, h4⟩ := hg.nd (by omega)
      omega
/-! ### n times -/
def itf (e : Eff) : Nat → Int → Int
  | 0, s => s
  | n + 1, s => e.fin (itf e n s)
def itm (e : Eff) : Nat → Int → Int
  | 0, _ => 0
  | n + 1, s => itm e n s + e.mis (itf e n s)
def itt (e : Eff) : Nat → Int → Int
  | 0, _ => 0
  | n + 1, s => itt e n s + e.thr (itf e n s)
theorem itf_add (e : Eff) (a : Nat) (s : Int) : ∀ b, itf e (a + b) s = itf e b (itf e a s)
  | 0 => rfl
  | b + 1 => congrArg e.fin (itf_add e a s b)
theorem itm_add (e : Eff) (a : Nat) (s : Int) : ∀ b, itm e (a + b) s = itm e a s + itm e b (itf e a s)
  | 0 => (Int.add_zero _).symm
  | b + 1 => by
    show itm e (a + b) s + e.mis (itf e (a + b) s) = itm e a s + (itm e b (itf e a s) + e.mis (itf e b (itf e a s)))
    rw [itm_add e a s b, itf_add e a s b, Int.add_assoc]
theorem itt_add (e : Eff) (a : Nat) (s : Int) : ∀ b, itt e (a + b) s = itt e a s + itt e b (itf e a s)
  | 0 => (Int.add_zero _).symm
  | b + 1 => by
    show itt e (a + b) s + e.thr (itf e (a + b) s) = itt e a s + (itt e b (itf e a s) + e.thr (itf e b (itf e a s)))
    rw [itt_add e a s b, itf_add e a s b, Int.add_assoc]
/-- g does what n times e does -/
structure IsPow (e : Eff) (n : Nat) (g : Eff) : Prop where
  ok : g.Ok
  fin : ∀ s, g.fin s = itf e n s
  mis : ∀ s, g.mis s = itm e n s
  thr : ∀ s, g.thr s = itt e n s
theorem isPow_one {e : Eff} (h : e.Ok) : IsPow e 1 e := ⟨h, fun _ => rfl, fun s => (Int.zero_add _).symm, fun s => (Int.zero_add _).symm⟩
theorem IsPow.seq {e f g : Eff} {a b : Nat} (hf : IsPow e a f) (hg : IsPow e b g) : IsPow e (a + b) (f.seq g) :=
  ⟨seq_ok hf.ok hg.ok, fun s => by rw [seq_fin hf.ok hg.ok, itf_add, hg.fin, hf.fin], fun s => by rw [seq_mis hf.ok, itm_add, hf.mis, hg.mis, hf.fin], fun s => by rw [seq_thr hf.ok, itt_add, hf.thr, hg.thr, hf.fin]⟩
theorem itf_fix {e : Eff} {s : Int} (h : e.fin s = s) : ∀ n, itf e n s = s
  | 0 => rfl
  | n + 1 => by
    show e.fin (itf e n s) = s
    rw [itf_fix h n, h]
theorem fin_mono {e : Eff} (h : e.Ok) {s t : Int} (l : s ≤ t) : e.fin s ≤ e.fin t := by
  simp only [Eff.fin]
  omega
theorem fin_in {e : Eff} (h : e.Ok) (s : Int) : e.low ≤ e.fin s ∧ e.fin s ≤ e.high := by
  have := h.le
  simp only [Eff.fin]
  omega
theorem itf_in {e : Eff} (h : e.Ok) {n : Nat} (p : 0 < n) (s : Int) : e.low ≤ itf e n s ∧ itf e n s ≤ e.high := by
  cases n with
  | zero => omega
  | succ n => exact fin_in h _
/-- the stock settles -/
theorem settles {e : Eff} (h : e.Ok) (s : Int) : ∃ n, e.fin (itf e n s) = itf e n s := by
  by_cases up : itf e 1 s ≤ itf e 2 s
  · have mono : ∀ n, itf e (n + 1) s ≤ itf e (n + 2) s := fun n => by
      induction n with
      | zero => exact up
      | succ n ih => exact fin_mono h ih
    false_or_by_contra
    rename_i no
    have grow : ∀ n : Nat, e.low + n ≤ itf e (n + 1) s := fun n => by
      induction n with
      | zero => exact Int.le_trans (by simp) (itf_in h (by omega) s).1
      | succ n ih =>
        have ne : e.fin (itf e (n + 1) s) ≠ itf e (n + 1) s := fun z => no ⟨_, z⟩
        have le := mono n
        have eq : itf e (n + 2) s = e.fin (itf e (n + 1) s) := rfl
        rw [eq] at le ⊢
        omega
    have a := grow (e.high - e.low + 1).toNat
    have b := (itf_in h (show 0 < (e.high - e.low + 1).toNat + 1 from Nat.succ_pos _) s).2
    have c := h.le
    omega
  · have mono : ∀ n, itf e (n + 2) s ≤ itf e (n + 1) s := fun n => by
      induction n with
      | zero => exact Int.le_of_lt (Int.not_le.mp up)
      | succ n ih => exact fin_mono h ih
    false_or_by_contra
    rename_i no
    have grow : ∀ n : Nat, itf e (n + 1) s ≤ e.high - n := fun n => by
      induction n with
      | zero => exact Int.le_trans (itf_in h (by omega) s).2 (by simp)
      | succ n ih =>
        have ne : e.fin (itf e (n + 1) s) ≠ itf e (n + 1) s := fun z => no ⟨_, z⟩
        have le := mono n
        have eq : itf e (n + 2) s = e.fin (itf e (n + 1) s) := rfl
        rw [eq] at le ⊢
        omega
    have a := grow (e.high - e.low + 1).toNat
    have b := (itf_in h (show 0 < (e.high - e.low + 1).toNat + 1 from Nat.succ_pos _) s).1
    have c := h.le
    omega
/-- the least number of rounds behind which the stock stays -/
theorem least_of {p : Nat → Prop} : (∃ n, p n) → ∃ n, p n ∧ ∀ m, m < n → ¬ p m := fun ⟨n, hn⟩ => by
  induction n using Nat.strongRecOn with
  | ind n ih =>
    by_cases h : ∃ m, m < n ∧ p m
    · obtain ⟨m, lt, hm⟩ := h
      exact ih m lt hm
    · exact ⟨n, hn, fun m lt hm => h ⟨m, lt, hm⟩⟩
def Settle (e : Eff) (s : Int) (r : Nat) : Prop := e.fin (itf e r s) = itf e r s ∧ ∀ m, m < r → e.fin (itf e m s) ≠ itf e m s
theorem settle_ex {e : Eff} (h : e.Ok) (s : Int) : ∃ r, Settle e s r := least_of (settles h s)
theorem Settle.iff {e : Eff} {s : Int} {r : Nat} (h : Settle e s r) (n : Nat) : e.fin (itf e n s) = itf e n s ↔ r ≤ n := by
  refine ⟨fun z => ?_, fun le => ?_⟩
  · false_or_by_contra
    exact h.2 n (by omega) z
  · obtain ⟨d, rfl⟩ : ∃ d, n = r + d := ⟨n - r, by omega⟩
    have q := itf_fix h.1 d
    rw [itf_add, q]
    exact h.1
end G57
end
section
/-! MBak: the plain law of a bakery: the stocks day by day. -/
namespace G57
structure Bak where
  bakes : List Int
  dems : List Int
  life : Int
def Bak.n (B : Bak) : Nat := B.bakes.length
def Bak.bk (B : Bak) (d : Int) : Int := if 0 ≤ d then B.bakes.getD (d % B.n).toNat 0 else 0
def Bak.wish (B : Bak) (d : Int) : Int := B.dems.getD (d % B.n).toNat 0
def Bak.kept (B : Bak) (d : Int) : Int := ((List.range (B.life - 1).toNat).map fun a => B.bk (d - (a : Nat))).sum
def Bak.eff (B : Bak) (d : Int) : Eff := dayE (B.bk d) (B.wish d) (B.kept d)
def Bak.st (B : Bak) : Nat → Int
  | 0 => 0
  | k + 1 => (B.eff (k : Nat)).fin (B.st k)
structure Bak.Ok (B : Bak) : Prop where
  n0 : 0 < B.n
  n1 : B.n ≤ 24
  m : B.dems.length = B.n
  l0 : 1 ≤ B.life
  l1 : B.life ≤ 30
  b : ∀ x ∈ B.bakes, 0 ≤ x ∧ x ≤ 1000000000
  d : ∀ x ∈ B.dems, 0 ≤ x ∧ x ≤ 1000000000
theorem Bak.Ok.ix {B : Bak} (h : B.Ok) (d : Int) : (d % B.n).toNat < B.n ∧ ((d % B.n).toNat : Int) = d % B.n := by
  have h0 := h.n0
  have h1 := Int.emod_nonneg d (show (B.n : Int) ≠ 0 by omega)
  have h2 := Int.emod_lt_of_pos d (show (0 : Int) < B.n by omega)
  omega
theorem Bak.Ok.bk_in {B : Bak} (h : B.Ok) (d : Int) : 0 ≤ B.bk d ∧ B.bk d ≤ 1000000000 := by
  unfold Bak.bk
  split
  · have z : (d % B.n).toNat < B.bakes.length := (h.ix d).1
    rw [List.getD_eq_getElem?_getD, List.getElem?_eq_getElem z]
    exact h.b _ (List.getElem_mem z)
  · omega
theorem Bak.Ok.wish_in {B : Bak} (h : B.Ok) (d : Int) : 0 ≤ B.wish d ∧ B.wish d ≤ 1000000000 := by
  unfold Bak.wish
  have z : (d % B.n).toNat < B.dems.length := Nat.lt_of_lt_of_eq (h.ix d).1 h.m.symm
  rw [List.getD_eq_getElem?_getD, List.getElem?_eq_getElem z]
  exact h.d _ (List.getElem_mem z)
theorem sum_nonneg : ∀ {l : List Int}, (∀ x ∈ l, 0 ≤ x) → 0 ≤ l.sum
  | [], _ => by simp
  | a :: l, h => by
    rw [List.sum_cons]
    have := h a (by simp)
    have := sum_nonneg (l := l) fun x hx => h x (by simp [hx])
    omega
theorem Bak.Ok.kept0 {B : Bak} (h : B.Ok) (d : Int) : 0 ≤ B.kept d := by
  refine sum_nonneg fun x hx => ?_
  obtain ⟨a, _, rfl⟩ := List.mem_map.mp hx
  exact (h.bk_in _).1
theorem Bak.Ok.effOk {B : Bak} (h : B.Ok) (d : Int) : (B.eff d).Ok := dayE_ok (h.kept0 d)
theorem Bak.Ok.bk_at {B : Bak} (h : B.Ok) {d : Int} (h0 : 0 ≤ d) : B.bakes[(d % B.n).toNat]? = some (B.bk d) := by
  have z := (h.ix d).1
  unfold Bak.bk
  rw [if_pos h0, List.getD_eq_getElem?_getD, List.getElem?_eq_getElem z]
  rfl
theorem Bak.Ok.wish_at {B : Bak} (h : B.Ok) (d : Int) : B.dems[(d % B.n).toNat]? = some (B.wish d) := by
  have z : (d % B.n).toNat < B.dems.length := Nat.lt_of_lt_of_eq (h.ix d).1 h.m.symm
  unfold Bak.wish
  rw [List.getD_eq_getElem?_getD, List.getElem?_eq_getElem z]
  rfl
theorem st_in {B : Bak} (h : B.Ok) : ∀ k, 0 ≤ B.st k
  | 0 => Int.le_refl _
  | k + 1 => (fin_in (h.effOk k) _).1
/-! ### the last of the early days -/
def Bak.last (B : Bak) : Nat := B.n * (((B.life - 1).toNat + B.n - 1) / B.n)
theorem Bak.Ok.last_ge {B : Bak} (h : B.Ok) : (B.life - 1).toNat ≤ B.last := by
  have n0 := h.n0
  unfold Bak.last
  have e := Nat.div_add_mod ((B.life - 1).toNat + B.n - 1) B.n
  have l := Nat.mod_lt ((B.life - 1).toNat + B.n - 1) n0
  omega
theorem Bak.Ok.last_lt {B : Bak} (h : B.Ok) : B.last < (B.life - 1).toNat + B.n := by
  have n0 := h.n0
  unfold Bak.last
  have e := Nat.div_add_mod ((B.life - 1).toNat + B.n - 1) B.n
  omega
theorem Bak.Ok.last_mod {B : Bak} (h : B.Ok) : B.last % B.n = 0 := Nat.mul_mod_right _ _
theorem Bak.Ok.last_min {B : Bak} (h : B.Ok) {j : Nat} (l : (B.life - 1).toNat ≤ j) (m : j % B.n = 0) : B.last ≤ j := by
  have n0 := h.n0
  have lt := h.last_lt
  have e := Nat.div_add_mod j B.n
  rw [m] at e
  unfold Bak.last at lt ⊢
  generalize ((B.life - 1).toNat + B.n - 1) / B.n = q at lt ⊢
  have z : q < j / B.n + 1 := by
    refine Nat.lt_of_mul_lt_mul_left (a := B.n) ?_
    rw [Nat.mul_add]
    omega
  have z2 : B.n * q ≤ B.n * (j / B.n) := Nat.mul_le_mul_left _ (by omega)
  omega
/-! ### from one day on -/
def Bak.rf (B : Bak) (a : Nat) : Nat → Int → Int
  | 0, s => s
  | k + 1, s => (B.eff ((a + k : Nat) : Int)).fin (B.rf a k s)
def Bak.rm (B : Bak) (a : Nat) : Nat → Int → Int
  | 0, _ => 0
  | k + 1, s => B.rm a k s + (B.eff ((a + k : Nat) : Int)).mis (B.rf a k s)
def Bak.rt (B : Bak) (a : Nat) : Nat → Int → Int
  | 0, _ => 0
  | k + 1, s => B.rt a k s + (B.eff ((a + k : Nat) : Int)).thr (B.rf a k s)
theorem st_rf (B : Bak) (a : Nat) : ∀ k, B.st (a + k) = B.rf a k (B.st a)
  | 0 => rfl
  | k + 1 => congrArg (B.eff ((a + k : Nat) : Int)).fin (st_rf B a k)
/-- what misses, what is thrown on a day -/
def Bak.ms (B : Bak) (d : Nat) : Int := (B.eff (d : Int)).mis (B.st d)
def Bak.th (B : Bak) (d : Nat) : Int := (B.eff (d : Int)).thr (B.st d)
def Bak.sm (B : Bak) (a : Nat) : Nat → Int
  | 0 => 0
  | k + 1 => B.sm a k + B.ms (a + k)
def Bak.sh (B : Bak) (a : Nat) : Nat → Int
  | 0 => 0
  | k + 1 => B.sh a k + B.th (a + k)
theorem rm_sm (B : Bak) (a : Nat) : ∀ k, B.rm a k (B.st a) = B.sm a k
  | 0 => rfl
  | k + 1 => by
    show B.rm a k (B.st a) + _ = B.sm a k + _
    rw [rm_sm B a k, ← st_rf]
    rfl
theorem rt_sh (B : Bak) (a : Nat) : ∀ k, B.rt a k (B.st a) = B.sh a k
  | 0 => rfl
  | k + 1 => by
    show B.rt a k (B.st a) + _ = B.sh a k + _
    rw [rt_sh B a k, ← st_rf]
    rfl
theorem sm_add (B : Bak) (a b : Nat) : ∀ k, B.sm a (b + k) = B.sm a b + B.sm (a + b) k
  | 0 => (Int.add_zero _).symm
  | k + 1 => by
    show B.sm a (b + k) + B.ms (a + (b + k)) = B.sm a b + (B.sm (a + b) k + B.ms (a + b + k))
    rw [sm_add B a b k, Nat.add_assoc]
    omega
theorem sh_add (B : Bak) (a b : Nat) : ∀ k, B.sh a (b + k) = B.sh a b + B.sh (a + b) k
  | 0 => (Int.add_zero _).symm
  | k + 1 => by
    show B.sh a (b + k) + B.th (a + (b + k)) = B.sh a b + (B.sh (a + b) k + B.th (a + b + k))
    rw [sh_add B a b k, Nat.add_assoc]
    omega
/-- g does what the k days from a on do -/
structure IsRun (B : Bak) (a k : Nat) (g : Eff) : Prop where
  ok : g.Ok
  fin : ∀ s, g.fin s = B.rf a k s
  mis : ∀ s, g.mis s = B.rm a k s
  thr : ∀ s, g.thr s = B.rt a k s
theorem isRun_one {B : Bak} (h : B.Ok) (a : Nat) : IsRun B a 1 (B.eff (a : Nat)) := ⟨h.effOk _, fun _ => rfl, fun _ => (Int.zero_add _).symm, fun _ => (Int.zero_add _).symm⟩
theorem IsRun.next {B : Bak} (h : B.Ok) {a k : Nat} {g : Eff} (r : IsRun B a k g) : IsRun B a (k + 1) (g.seq (B.eff ((a + k : Nat) : Int))) :=
  ⟨seq_ok r.ok (h.effOk _), fun s => by rw [seq_fin r.ok (h.effOk _), r.fin]; rfl, fun s => by rw [seq_mis r.ok, r.mis, r.fin]; rfl, fun s => by rw [seq_thr r.ok, r.thr, r.fin]; rfl⟩
/-! ### the days repeat -/
theorem bk_per {B : Bak} (d : Int) (h : 0 ≤ d) : B.bk (d + B.n) = B.bk d := by
  unfold Bak.bk
  rw [if_pos h, if_pos (by omega), Int.add_emod_right]
theorem wish_per {B : Bak} (d : Int) : B.wish (d + B.n) = B.wish d := by
  unfold Bak.wish
  rw [Int.add_emod_right]
theorem eff_per {B : Bak} {d : Nat} (h : (B.life - 1).toNat ≤ d) : B.eff ((d + B.n : Nat) : Int) = B.eff (d : Int) := by
  unfold Bak.eff
  have e1 : ((d + B.n : Nat) : Int) = (d : Int) + B.n := by omega
  rw [e1, bk_per _ (by omega), wish_per]
  have e2 : B.kept ((d : Int) + B.n) = B.kept d := by
    unfold Bak.kept
    congr 1
    refine List.map_congr_left fun a ha => ?_
    have lt := List.mem_range.mp ha
    have e3 : (d : Int) + B.n - (a : Nat) = ((d : Int) - (a : Nat)) + B.n := by omega
    rw [e3, bk_per _ (by omega)]
  rw [e2]
theorem eff_per2 {B : Bak} {d : Nat} (h : (B.life - 1).toNat ≤ d) : ∀ t : Nat, B.eff ((d + t * B.n : Nat) : Int) = B.eff (d : Int)
  | 0 => by
    rw [Nat.zero_mul]
    rfl
  | t + 1 => by
    have e : d + (t + 1) * B.n = (d + t * B.n) + B.n := by
      rw [Nat.add_mul]
      omega
    rw [e, eff_per (by omega)]
    exact eff_per2 h t
theorem IsRun.later {B : Bak} {a k : Nat} {g : Eff} (r : IsRun B a k g) (h : (B.life - 1).toNat ≤ a) (t : Nat) : IsRun B (a + t * B.n) k g := by
  have e1 : ∀ k : Nat, B.eff ((a + t * B.n + k : Nat) : Int) = B.eff ((a + k : Nat) : Int) := fun k => by
    have e : a + t * B.n + k = (a + k) + t * B.n := by omega
    rw [e]
    exact eff_per2 (by omega) t
  have e2 : ∀ (k : Nat) (s : Int), B.rf (a + t * B.n) k s = B.rf a k s := fun k s => by
    induction k with
    | zero => rfl
    | succ k ih =>
      show (B.eff ((a + t * B.n + k : Nat) : Int)).fin _ = (B.eff ((a + k : Nat) : Int)).fin _
      rw [e1, ih]
  have e3 : ∀ (k : Nat) (s : Int), B.rm (a + t * B.n) k s = B.rm a k s := fun k s => by
    induction k with
    | zero => rfl
    | succ k ih =>
      show _ + (B.eff ((a + t * B.n + k : Nat) : Int)).mis _ = _ + (B.eff ((a + k : Nat) : Int)).mis _
      rw [e1, ih, e2]
  have e4 : ∀ (k : Nat) (s : Int), B.rt (a + t * B.n) k s = B.rt a k s := fun k s => by
    induction k with
    | zero => rfl
    | succ k ih =>
      show _ + (B.eff ((a + t * B.n + k : Nat) : Int)).thr _ = _ + (B.eff ((a + k : Nat) : Int)).thr _
      rw [e1, ih, e2]
  exact ⟨r.ok, fun s => by rw [e2]; exact r.fin s, fun s => by rw [e3]; exact r.mis s, fun s => by rw [e4]; exact r.thr s⟩
/-- whole rounds -/
theorem IsRun.rounds {B : Bak} {a : Nat} {g : Eff} (r : IsRun B a B.n g) (h : (B.life - 1).toNat ≤ a) : ∀ t : Nat, itf g t (B.st a) = B.st (a + t * B.n) ∧ itm g t (B.st a) = B.sm a (t * B.n) ∧ itt g t (B.st a) = B.sh a (t * B.n)
  | 0 => by
    rw [Nat.zero_mul]
    exact ⟨rfl, rfl, rfl⟩
  | t + 1 => by
    obtain ⟨h1, h2, h3⟩ := r.rounds h t
    have q := r.later h t
    have e : (t + 1) * B.n = t * B.n + B.n := by
      rw [Nat.add_mul]
      omega
    rw [e]
    refine ⟨?_, ?_, ?_⟩
    · show g.fin (itf g t (B.st a)) = _
      rw [h1, q.fin, ← Nat.add_assoc, st_rf B (a + t * B.n)]
    · show itm g t (B.st a) + g.mis (itf g t (B.st a)) = _
      rw [h1, h2, q.mis, rm_sm, sm_add]
    · show itt g t (B.st a) + g.thr (itf g t (B.st a)) = _
      rw [h1, h3, q.thr, rt_sh, sh_add]
/-- the stocks repeat from day d on, and not from any day before -/
def Settled (B : Bak) (d : Nat) : Prop := (∀ j, d ≤ j → B.st (j + B.n) = B.st j) ∧ (0 < d → B.st (d - 1 + B.n) ≠ B.st (d - 1))
theorem settles_from {B : Bak} {a : Nat} (h : (B.life - 1).toNat ≤ a) (e : B.st (a + B.n) = B.st a) : ∀ j, a ≤ j → B.st (j + B.n) = B.st j := fun j hj => by
  obtain ⟨k, rfl⟩ : ∃ k, j = a + k := ⟨j - a, by omega⟩
  clear hj
  induction k with
  | zero => exact e
  | succ k ih =>
    have e2 : a + (k + 1) + B.n = (a + k + B.n) + 1 := by omega
    rw [e2]
    show (B.eff ((a + k + B.n : Nat) : Int)).fin (B.st (a + k + B.n)) = (B.eff ((a + k : Nat) : Int)).fin (B.st (a + k))
    rw [ih, eff_per (by omega)]
/-! ### what the customers want in all -/
def Bak.ws (B : Bak) : Nat → Int
  | 0 => 0
  | k + 1 => B.ws k + B.wish (k : Nat)
theorem wish_low {B : Bak} (h : B.Ok) {q r : Nat} (lt : r < B.n) : B.wish ((q * B.n + r : Nat) : Int) = B.dems.getD r 0 := by
  unfold Bak.wish
  have e : (((q * B.n + r : Nat) : Int) % (B.n : Nat)).toNat = r := by
    have e2 : ((q * B.n + r : Nat) : Int) % (B.n : Nat) = (((q * B.n + r) % B.n : Nat) : Int) := rfl
    rw [e2, Nat.mul_comm, Nat.mul_add_mod, Nat.mod_eq_of_lt lt]
    rfl
  rw [e]
theorem take_next : ∀ (l : List Int) (r : Nat), r < l.length → (l.take (r + 1)).sum = (l.take r).sum + l.getD r 0
  | a :: l, 0, _ => by simp
  | a :: l, r + 1, h => by
    have z := take_next l r (by simpa using h)
    simp only [List.take_succ_cons, List.sum_cons, List.getD_cons_succ] at z ⊢
    omega
theorem ws_rest {B : Bak} (h : B.Ok) (q : Nat) : ∀ r, r ≤ B.n → B.ws (q * B.n + r) = B.ws (q * B.n) + (B.dems.take r).sum
  | 0, _ => by simp
  | r + 1, le => by
    have z := ws_rest h q r (by omega)
    have m := h.m
    rw [take_next B.dems r (by omega), ← Int.add_assoc, ← z, ← wish_low h (q := q) (r := r) (by omega)]
    rfl
theorem ws_rounds {B : Bak} (h : B.Ok) : ∀ q : Nat, B.ws (q * B.n) = q * B.dems.sum
  | 0 => by
    rw [Nat.zero_mul]
    show (0 : Int) = 0 * _
    rw [Int.zero_mul]
  | q + 1 => by
    have e : (q + 1) * B.n = q * B.n + B.n := by
      rw [Nat.add_mul]
      omega
    have m := h.m
    have t : B.dems.take B.n = B.dems := List.take_of_length_le (by omega)
    rw [e, ws_rest h q B.n (Nat.le_refl _), ws_rounds h q, t, Int.natCast_add, Int.add_mul]
    omega
theorem ws_eq {B : Bak} (h : B.Ok) (k : Nat) : ((k / B.n : Nat) : Int) * B.dems.sum + (B.dems.take (k % B.n)).sum = B.ws k := by
  have z := ws_rest h (k / B.n) (k % B.n) (Nat.le_of_lt (Nat.mod_lt _ h.n0))
  have e : k / B.n * B.n + k % B.n = k := by rw [Nat.mul_comm]; exact Nat.div_add_mod _ _
  rw [e, ws_rounds h] at z
  exact z.symm
theorem sum_le : ∀ {l : List Int} {c : Int}, (∀ x ∈ l, x ≤ c) → l.sum ≤ l.length * c
  | [], _, _ => by simp
  | a :: l, c, h => by
    rw [List.sum_cons, List.length_cons]
    have h1 := h a (by simp)
    have h2 := sum_le (l := l) (c := c) fun x hx => h x (by simp [hx])
    rw [Int.natCast_add, Int.add_mul]
    omega
theorem Bak.Ok.dsum {B : Bak} (h : B.Ok) : 0 ≤ B.dems.sum ∧ B.dems.sum ≤ 24000000000 := by
  refine ⟨sum_nonneg fun x hx => (h.d x hx).1, ?_⟩
  have z := sum_le (l := B.dems) (c := 1000000000) fun x hx => (h.d x hx).2
  have m := h.m
  have n1 := h.n1
  have e : (B.dems.length : Int) ≤ 24 := by omega
  omega
theorem sum_next (f : Nat → Int) (m : Nat) : ((List.range (m + 1)).map f).sum = ((List.range m).map f).sum + f m := by
  rw [List.range_succ, List.map_append, List.sum_append]
  simp
theorem sum_ms (B : Bak) : ∀ m, ((List.range m).map B.ms).sum = B.sm 0 m
  | 0 => rfl
  | m + 1 => by
    rw [sum_next, sum_ms B m]
    show _ = B.sm 0 m + B.ms (0 + m)
    rw [Nat.zero_add]
theorem sum_th (B : Bak) : ∀ m, ((List.range m).map B.th).sum = B.sh 0 m
  | 0 => rfl
  | m + 1 => by
    rw [sum_next, sum_th B m]
    show _ = B.sh 0 m + B.th (0 + m)
    rw [Nat.zero_add]
theorem sum_sold (B : Bak) : ∀ m, ((List.range m).map fun j : Nat => B.wish j - B.ms j).sum = B.ws m - B.sm 0 m
  | 0 => rfl
  | m + 1 => by
    rw [sum_next, sum_sold B m]
    show _ = (B.ws m + B.wish (m : Nat)) - (B.sm 0 m + B.ms (0 + m))
    rw [Nat.zero_add]
    omega
/-! ### the loaves on the shelf -/
/-- behind the ages 1 to i: what is left of the stock, and what was found -/
def Bak.sg (B : Bak) (d : Nat) : Nat → Int × List (Int × Int)
  | 0 => (B.st d, [])
  | i + 1 =>
    let z := B.sg d i
    let c := min z.1 (B.bk ((d : Int) - (1 + (i : Nat))))
    (z.1 - c, if 0 < c then z.2 ++ [((d : Int) - (1 + (i : Nat)), c)] else z.2)
theorem sg_len (B : Bak) (d : Nat) : ∀ i, (B.sg d i).2.length ≤ i
  | 0 => Nat.le_refl _
  | i + 1 => by
    have z := sg_len B d i
    unfold Bak.sg
    simp only
    split
    · simp
      exact z
    · omega
/-- the shelf: the oldest first -/
def Bak.shelf (B : Bak) (d : Nat) : List (Int × Int) := (B.sg d (B.life - 1).toNat).2.reverse
end G57
end
section
set_option maxRecDepth 100000
set_option maxHeartbeats 4000000
namespace G57
open PySem PySem.Spec PyProof.Rows L2
def topS (i : Nat) : Stmt := PySem.Challenge.pw_staleloaves_k43_signs_of_prices.main.body.getD i (.Pass ⟨0, 0, 0, 0⟩)
abbrev s_InvalidPrices_init : Stmt := inClass (topS 2) 0
abbrev s_Prices_init : Stmt := inClass (topS 5) 0
abbrev s_Prices_cents : Stmt := inClass (topS 5) 1
abbrev s_Prices_call : Stmt := inClass (topS 5) 2
abbrev s_Prices_eq : Stmt := inClass (topS 5) 3
abbrev s_Prices_add : Stmt := inClass (topS 5) 4
abbrev s_Prices_mul : Stmt := inClass (topS 5) 5
abbrev s_law_start : Stmt := topS 7
abbrev s_law_drawn : Stmt := topS 8
abbrev s_law_same : Stmt := topS 9
abbrev s_law_outcome : Stmt := topS 10
abbrev s_law_fault : Stmt := topS 11
abbrev s_law_agrees : Stmt := topS 12
abbrev s_law : Stmt := topS 13
def d_InvalidPrices_init : DefA := ⟨pM "InvalidPrices" "__init__", "__init__", "InvalidPrices.__init__", defArgs s_InvalidPrices_init, defBody s_InvalidPrices_init, defScope s_InvalidPrices_init, [], []⟩
def d_Prices_init : DefA := ⟨pM "Prices" "__init__", "__init__", "Prices.__init__", defArgs s_Prices_init, defBody s_Prices_init, defScope s_Prices_init, [], []⟩
def d_Prices_cents : DefA := ⟨pP "Prices" "cents", "cents", "Prices.cents", defArgs s_Prices_cents, defBody s_Prices_cents, defScope s_Prices_cents, [], []⟩
def d_Prices_call : DefA := ⟨pM "Prices" "__call__", "__call__", "Prices.__call__", defArgs s_Prices_call, defBody s_Prices_call, defScope s_Prices_call, [], []⟩
def d_Prices_eq : DefA := ⟨pM "Prices" "__eq__", "__eq__", "Prices.__eq__", defArgs s_Prices_eq, defBody s_Prices_eq, defScope s_Prices_eq, [], []⟩
def d_Prices_add : DefA := ⟨pM "Prices" "__add__", "__add__", "Prices.__add__", defArgs s_Prices_add, defBody s_Prices_add, defScope s_Prices_add, [], []⟩
def d_Prices_mul : DefA := ⟨pM "Prices" "__mul__", "__mul__", "Prices.__mul__", defArgs s_Prices_mul, defBody s_Prices_mul, defScope s_Prices_mul, [], []⟩
def d_law_start : DefA := ⟨pG "_law_start", "_law_start", "_law_start", defArgs s_law_start, defBody s_law_start, defScope s_law_start, [], []⟩
def d_law_drawn : DefA := ⟨pG "_law_drawn", "_law_drawn", "_law_drawn", defArgs s_law_drawn, defBody s_law_drawn, defScope s_law_drawn, [], []⟩
def d_law_same : DefA := ⟨pG "_law_same", "_law_same", "_law_same", defArgs s_law_same, defBody s_law_same, defScope s_law_same, [], []⟩
def d_law_outcome : DefA := ⟨pG "_law_outcome", "_law_outcome", "_law_outcome", defArgs s_law_outcome, defBody s_law_outcome, defScope s_law_outcome, [], []⟩
def d_law_fault : DefA := ⟨pG "_law_fault", "_law_fault", "_law_fault", defArgs s_law_fault, defBody s_law_fault, defScope s_law_fault, [], []⟩
def d_law_agrees : DefA := ⟨pG "_law_agrees", "_law_agrees", "_law_agrees", defArgs s_law_agrees, defBody s_law_agrees, defScope s_law_agrees, [], []⟩
def d_law : DefA := ⟨pG "law", "law", "law", defArgs s_law, defBody s_law, defScope s_law, [], []⟩
def fnL : List DefA := [d_InvalidPrices_init, d_Prices_init, d_Prices_cents, d_Prices_call, d_Prices_eq, d_Prices_add, d_Prices_mul, d_law_start, d_law_drawn, d_law_same, d_law_outcome, d_law_fault, d_law_agrees, d_law]
def tfL : List He.Defn := [("law", none)]
def exL : List Ex := [
  fun K => (He.Fa.glo "LoafError").ok K,
  fun K => (He.Fa.glo "InvalidPrices").ok K,
  fun K => (He.Fa.glo "Prices").ok K,
  fun K => (He.Fa.glo "_law_start").ok K,
  fun K => (He.Fa.glo "_law_drawn").ok K,
  fun K => (He.Fa.glo "_law_same").ok K,
  fun K => (He.Fa.glo "_law_outcome").ok K,
  fun K => (He.Fa.glo "_law_fault").ok K,
  fun K => (He.Fa.glo "_law_agrees").ok K,
  fun K => (He.Fa.glo "law").ok K,
  fun K => (He.Fa.free "ValueError").ok K,
  fun K => (He.Fa.free "bool").ok K,
  fun K => (He.Fa.free "int").ok K,
  fun K => (He.Fa.free "isinstance").ok K,
  fun K => (He.Fa.free "len").ok K,
  fun K => (He.Fa.free "list").ok K,
  fun K => (He.Fa.free "property").ok K,
  fun K => (He.Fa.free "range").ok K,
  fun K => (He.Fa.free "tuple").ok K,
  fun K => (He.Fa.free "zip").ok K,
  fun K => (He.Fa.int "MAX_PRICE" (1000000)).ok K,
  fun K => (He.Fa.cls "Prices").ok K,
  fun K => (He.Fa.mkr "Prices").ok K,
  fun K => (He.Fa.noat "Prices" "table").ok K,
  fun K => (He.Fa.meth "Prices" "__call__").ok K,
  fun K => (He.Fa.meth "Prices" "__eq__").ok K,
  fun K => (He.Fa.meth "Prices" "__add__").ok K,
  fun K => (He.Fa.meth "Prices" "__mul__").ok K,
  ownOpsB "Prices",
  ownEqB "Prices",
  fun K => PySem.W.fnIn K (He.ma K (He.ga K "Prices") "__call__"),
  propB "Prices" "cents",
  fun K => (He.Fa.exc "LoafError").ok K,
  linB "LoafError",
  fun K => (He.Fa.exm "LoafError" "InvalidPrices" false).ok K,
  oexB "InvalidPrices",
  xnaB "InvalidPrices" "part",
  fun K => (He.Fa.exm "InvalidPrices" "InvalidPrices" true).ok K]
structure Tx (K : PySem.W.Frag) (mg : Str → Option Value) : Prop where
  c : SaysA exL fnL K
  h : ∃ h : Heap, K.In h ∧ h.Ns mainGlobals mg
section
variable {K : PySem.W.Frag} {mg : Str → Option Value} (T : Tx K mg)
include T
theorem fg_LoafError : mg "LoafError" = some (.ref (He.ga K "LoafError")) := by
  obtain ⟨h, hX, hG⟩ := T.h
  exact He.glo_ok hX hG (T.c.fact 0)
theorem fg_InvalidPrices : mg "InvalidPrices" = some (.ref (He.ga K "InvalidPrices")) := by
  obtain ⟨h, hX, hG⟩ := T.h
  exact He.glo_ok hX hG (T.c.fact 1)
theorem fg_Prices : mg "Prices" = some (.ref (He.ga K "Prices")) := by
  obtain ⟨h, hX, hG⟩ := T.h
  exact He.glo_ok hX hG (T.c.fact 2)
theorem fg_law_start : mg "_law_start" = some (.ref (He.ga K "_law_start")) := by
  obtain ⟨h, hX, hG⟩ := T.h
  exact He.glo_ok hX hG (T.c.fact 3)
theorem fg_law_drawn : mg "_law_drawn" = some (.ref (He.ga K "_law_drawn")) := by
  obtain ⟨h, hX, hG⟩ := T.h
  exact He.glo_ok hX hG (T.c.fact 4)
theorem fg_law_same : mg "_law_same" = some (.ref (He.ga K "_law_same")) := by
  obtain ⟨h, hX, hG⟩ := T.h
  exact He.glo_ok hX hG (T.c.fact 5)
theorem fg_law_outcome : mg "_law_outcome" = some (.ref (He.ga K "_law_outcome")) := by
  obtain ⟨h, hX, hG⟩ := T.h
  exact He.glo_ok hX hG (T.c.fact 6)
theorem fg_law_fault : mg "_law_fault" = some (.ref (He.ga K "_law_fault")) := by
  obtain ⟨h, hX, hG⟩ := T.h
  exact He.glo_ok hX hG (T.c.fact 7)
theorem fg_law_agrees : mg "_law_agrees" = some (.ref (He.ga K "_law_agrees")) := by
  obtain ⟨h, hX, hG⟩ := T.h
  exact He.glo_ok hX hG (T.c.fact 8)
theorem fg_law : mg "law" = some (.ref (He.ga K "law")) := by
  obtain ⟨h, hX, hG⟩ := T.h
  exact He.glo_ok hX hG (T.c.fact 9)
theorem fn_ValueError : mg "ValueError" = none := by
  obtain ⟨h, hX, hG⟩ := T.h
  exact He.free_ok hX hG (T.c.fact 10)
theorem fn_bool : mg "bool" = none := by
  obtain ⟨h, hX, hG⟩ := T.h
  exact He.free_ok hX hG (T.c.fact 11)
theorem fn_int : mg "int" = none := by
  obtain ⟨h, hX, hG⟩ := T.h
  exact He.free_ok hX hG (T.c.fact 12)
theorem fn_isinstance : mg "isinstance" = none := by
  obtain ⟨h, hX, hG⟩ := T.h
  exact He.free_ok hX hG (T.c.fact 13)
theorem fn_len : mg "len" = none := by
  obtain ⟨h, hX, hG⟩ := T.h
  exact He.free_ok hX hG (T.c.fact 14)
theorem fn_list : mg "list" = none := by
  obtain ⟨h, hX, hG⟩ := T.h
  exact He.free_ok hX hG (T.c.fact 15)
theorem fn_property : mg "property" = none := by
  obtain ⟨h, hX, hG⟩ := T.h
  exact He.free_ok hX hG (T.c.fact 16)
theorem fn_range : mg "range" = none := by
  obtain ⟨h, hX, hG⟩ := T.h
  exact He.free_ok hX hG (T.c.fact 17)
theorem fn_tuple : mg "tuple" = none := by
  obtain ⟨h, hX, hG⟩ := T.h
  exact He.free_ok hX hG (T.c.fact 18)
theorem fn_zip : mg "zip" = none := by
  obtain ⟨h, hX, hG⟩ := T.h
  exact He.free_ok hX hG (T.c.fact 19)
theorem fi_MAX_PRICE : ∃ t, mg "MAX_PRICE" = some (.int (1000000) t) := by
  obtain ⟨h, hX, hG⟩ := T.h
  exact He.int_ok hX hG (T.c.fact 20)
theorem fc_Prices : Cls K (He.ga K "Prices") := He.cls_ok (T.c.fact 21)
theorem fmk_Prices : Mk K (He.ga K "Prices") (He.ma K (He.ga K "Prices") "__init__") := He.mkr_ok (T.c.fact 22)
theorem fna_Prices_table : NoAttr K (He.ga K "Prices") "table" := He.noat_ok (T.c.fact 23)
theorem fme_Prices_call : Meth K (He.ga K "Prices") "__call__" (He.ma K (He.ga K "Prices") "__call__") := He.meth_ok (T.c.fact 24)
theorem fme_Prices_eq : Meth K (He.ga K "Prices") "__eq__" (He.ma K (He.ga K "Prices") "__eq__") := He.meth_ok (T.c.fact 25)
theorem fme_Prices_add : Meth K (He.ga K "Prices") "__add__" (He.ma K (He.ga K "Prices") "__add__") := He.meth_ok (T.c.fact 26)
theorem fme_Prices_mul : Meth K (He.ga K "Prices") "__mul__" (He.ma K (He.ga K "Prices") "__mul__") := He.meth_ok (T.c.fact 27)
theorem foo_Prices : OwnOps K (He.ga K "Prices") := ownOps_ok (T.c.fact 28)
theorem foe_Prices : OwnEqC K (He.ga K "Prices") (He.ma K (He.ga K "Prices") "__eq__") := ownEq_ok (T.c.fact 29)
theorem fca_Prices : (fun K => PySem.W.fnIn K (He.ma K (He.ga K "Prices") "__call__")) K = true := T.c.fact 30
theorem fpr_Prices_cents : (propB "Prices" "cents") K = true := T.c.fact 31
theorem fex_LoafError : PySem.W.excIn K (He.ga K "LoafError") He.veBase "ValueError.__new__" = true ∧ PySem.W.keepIn K (.ref (He.ga K "LoafError")) = true ∧ PySem.W.subIn K (.ref (He.ga K "LoafError")) (.type "BaseException") = some true ∧ PySem.W.typeIn K (.ref (He.ga K "LoafError")) = some (.type "type") := He.exc_ok (T.c.fact 32)
theorem fli_LoafError : ClX.CRead K (He.ga K "LoafError") (.type "type") ∧ PySem.W.findCls K (.ref (He.ga K "LoafError")) (.type "type") "__init__" = some (.val (.builtin "ValueError.__init__")) := lin_ok (T.c.fact 33)
theorem fxm_LoafError_InvalidPrices : PySem.W.exmOne K (.ref (He.ga K "LoafError")) (.ref (He.ga K "InvalidPrices")) = some false := He.exm_ok (T.c.fact 34)
theorem fox_InvalidPrices : Oex K "InvalidPrices" := oex_ok (T.c.fact 35)
theorem fxn_InvalidPrices_part : PySem.W.findIn K (.ref (He.ga K "InvalidPrices")) "part" = some none := xna_ok (T.c.fact 36)
theorem fxm_InvalidPrices_InvalidPrices : PySem.W.exmOne K (.ref (He.ga K "InvalidPrices")) (.ref (He.ga K "InvalidPrices")) = some true := He.exm_ok (T.c.fact 37)
theorem fn_InvalidPrices_init : ∃ fd, (d_InvalidPrices_init).Fn K fd := T.c.fn_ 0
theorem fn_Prices_init : ∃ fd, (d_Prices_init).Fn K fd := T.c.fn_ 1
theorem fn_Prices_cents : ∃ fd, (d_Prices_cents).Fn K fd := T.c.fn_ 2
theorem fn_Prices_call : ∃ fd, (d_Prices_call).Fn K fd := T.c.fn_ 3
theorem fn_Prices_eq : ∃ fd, (d_Prices_eq).Fn K fd := T.c.fn_ 4
theorem fn_Prices_add : ∃ fd, (d_Prices_add).Fn K fd := T.c.fn_ 5
theorem fn_Prices_mul : ∃ fd, (d_Prices_mul).Fn K fd := T.c.fn_ 6
theorem fn_law_start : ∃ fd, (d_law_start).Fn K fd := T.c.fn_ 7
theorem fn_law_drawn : ∃ fd, (d_law_drawn).Fn K fd := T.c.fn_ 8
theorem fn_law_same : ∃ fd, (d_law_same).Fn K fd := T.c.fn_ 9
theorem fn_law_outcome : ∃ fd, (d_law_outcome).Fn K fd := T.c.fn_ 10
theorem fn_law_fault : ∃ fd, (d_law_fault).Fn K fd := T.c.fn_ 11
theorem fn_law_agrees : ∃ fd, (d_law_agrees).Fn K fd := T.c.fn_ 12
theorem fn_law : ∃ fd, (d_law).Fn K fd := T.c.fn_ 13
end
structure TxB (K : PySem.W.Frag) (mg : Str → Option Value) (base : Heap) : Prop where
  t : Tx K mg
  tb : ∀ p ∈ tfL, LamX.TabB base mg (He.cT K p).1 (He.cT K p).2
abbrev TL (K : PySem.W.Frag) : List (Addr × Str) := [((He.cT K ("law", none)).2, (("law" : Str) ++ ".<locals>.") ++ "<lambda>")]
theorem tb_law {K : PySem.W.Frag} {mg : Str → Option Value} {base : Heap} (B : TxB K mg base) : LamX.TabB base mg (He.cT K ("law", none)).1 (He.cT K ("law", none)).2 := B.tb _ List.mem_cons_self
theorem tm_law {K : PySem.W.Frag} : ((He.cT K ("law", none)).2, (("law" : Str) ++ ".<locals>.") ++ "<lambda>") ∈ TL K := List.mem_cons_self
theorem tu_law {K : PySem.W.Frag} {mg : Str → Option Value} {base : Heap} (B : TxB K mg base) : ∀ p ∈ TL K, p.1 = (He.cT K ("law", none)).2 → p.2 = (("law" : Str) ++ ".<locals>.") ++ "<lambda>" := fun p hp _ => by rw [List.mem_singleton.mp hp]
abbrev N_law : List Str := ["_law_script", "_law_state", "_law_turn", "_law_high", "_law_k", "_law_one", "_law_other", "_law_a", "_law_b", "_law_times", "_law_baked", "_law_sold", "_law_thrown", "_law_price", "_law_wrong"]
def lm_law_0 : LamD := lamAt (defBody s_law) [1, 6] [0, 1, 1]
theorem ns_law_0 : NdefX.NScope ["_law_a", "_law_b"] ([] : List Str) (["_law_a", "_law_b"] : List Str) lm_law_0.scope := NdefX.nscope_by (by decide +kernel)
theorem cap_law_0 : capB N_law (defScope s_law) lm_law_0.scope ["_law_a", "_law_b"] [7, 8] = true := by decide +kernel
theorem lb_law_0 : LBind lm_law_0 [] [] := lbind0 fun F doc pm ctv us hd he hl => by
  obtain ⟨_, _, _, _, _⟩ := F
  cases hd
  cases he
  match us, hl with
  | [], _ => rfl
def lm_law_1 : LamD := lamAt (defBody s_law) [1, 7] [0, 1, 1]
theorem ns_law_1 : NdefX.NScope ["_law_c", "_law_a", "_law_times"] (["_law_c"] : List Str) (["_law_a", "_law_times"] : List Str) lm_law_1.scope := NdefX.nscope_by (by decide +kernel)
theorem cap_law_1 : capB N_law (defScope s_law) lm_law_1.scope ["_law_a", "_law_times"] [7, 9] = true := by decide +kernel
theorem lb_law_1 : LBind lm_law_1 ["_law_c"] [.int 0] := lbind1 fun F doc pm ctv hd => by
  obtain ⟨_, _, _, _, _⟩ := F
  cases hd
  exact ⟨_, rfl, fun _ => rfl⟩
def lm_law_2 : LamD := lamAt (defBody s_law) [1, 10] [0, 1, 1]
theorem ns_law_2 : NdefX.NScope ["_law_wrong"] ([] : List Str) (["_law_wrong"] : List Str) lm_law_2.scope := NdefX.nscope_by (by decide +kernel)
theorem cap_law_2 : capB N_law (defScope s_law) lm_law_2.scope ["_law_wrong"] [14] = true := by decide +kernel
theorem lb_law_2 : LBind lm_law_2 [] [] := lbind0 fun F doc pm ctv us hd he hl => by
  obtain ⟨_, _, _, _, _⟩ := F
  cases hd
  cases he
  match us, hl with
  | [], _ => rfl
theorem sc_InvalidPrices_init : FnScope ["self", "part"] ["self", "part"] (defScope s_InvalidPrices_init) := ⟨rfl, rfl, rfl, by decide +kernel, rfl, by decide +kernel, by decide +kernel⟩
theorem sc_Prices_init : FnScope ["self", "sale", "cost", "waste", "part", "price"] ["self", "sale", "cost", "waste"] (defScope s_Prices_init) := ⟨rfl, rfl, rfl, by decide +kernel, rfl, by decide +kernel, by decide +kernel⟩
theorem sc_Prices_cents : FnScope ["self"] ["self"] (defScope s_Prices_cents) := ⟨rfl, rfl, rfl, by decide +kernel, rfl, by decide +kernel, by decide +kernel⟩
theorem sc_Prices_call : FnScope ["self", "baked", "sold", "thrown"] ["self", "baked", "sold", "thrown"] (defScope s_Prices_call) := ⟨rfl, rfl, rfl, by decide +kernel, rfl, by decide +kernel, by decide +kernel⟩
theorem sc_Prices_eq : FnScope ["self", "other"] ["self", "other"] (defScope s_Prices_eq) := ⟨rfl, rfl, rfl, by decide +kernel, rfl, by decide +kernel, by decide +kernel⟩
theorem sc_Prices_add : FnScope ["self", "other", "one", "another", "sale", "cost", "waste"] ["self", "other"] (defScope s_Prices_add) := ⟨rfl, rfl, rfl, by decide +kernel, rfl, by decide +kernel, by decide +kernel⟩
theorem sc_Prices_mul : FnScope ["self", "times", "price", "sale", "cost", "waste"] ["self", "times"] (defScope s_Prices_mul) := ⟨rfl, rfl, rfl, by decide +kernel, rfl, by decide +kernel, by decide +kernel⟩
theorem sc_law_start : FnScope ["_law_script", "_law_mixed", "_law_cell"] ["_law_script"] (defScope s_law_start) := ⟨rfl, rfl, rfl, by decide +kernel, rfl, by decide +kernel, by decide +kernel⟩
theorem sc_law_drawn : FnScope ["_law_state", "_law_count", "_law_result", "_law_cell"] ["_law_state", "_law_count"] (defScope s_law_drawn) := ⟨rfl, rfl, rfl, by decide +kernel, rfl, by decide +kernel, by decide +kernel⟩
theorem sc_law_same : FnScope ["_law_result", "_law_expected", "_law_k"] ["_law_result", "_law_expected"] (defScope s_law_same) := ⟨rfl, rfl, rfl, by decide +kernel, rfl, by decide +kernel, by decide +kernel⟩
theorem sc_law_outcome : FnScope ["_law_work", "e"] ["_law_work"] (defScope s_law_outcome) := ⟨rfl, rfl, rfl, by decide +kernel, rfl, by decide +kernel, by decide +kernel⟩
theorem sc_law_fault : FnScope ["_law_cents", "_law_k"] ["_law_cents"] (defScope s_law_fault) := ⟨rfl, rfl, rfl, by decide +kernel, rfl, by decide +kernel, by decide +kernel⟩
theorem sc_law_agrees : FnScope ["_law_found", "_law_cents", "_law_expected"] ["_law_found", "_law_cents"] (defScope s_law_agrees) := ⟨rfl, rfl, rfl, by decide +kernel, rfl, by decide +kernel, by decide +kernel⟩
theorem sc_law : FnScope ["_law_script", "_law_state", "_law_turn", "_law_high", "_law_k", "_law_one", "_law_other", "_law_a", "_law_b", "_law_times", "_law_baked", "_law_sold", "_law_thrown", "_law_price", "_law_wrong"] ["_law_script"] (defScope s_law) := ⟨rfl, rfl, rfl, by decide +kernel, rfl, by decide +kernel, by decide +kernel⟩
end G57
end
section
set_option maxRecDepth 100000
set_option maxHeartbeats 4000000
namespace G57
open PySem PySem.Spec PyProof.Rows L2
/-! the walk's small steps: "rd" reads on as far as it can -/
local macro_rules | `(tactic| walk_at "fact") => `(tactic| fail)
local macro_rules | `(tactic| walk_at "rd1") => `(tactic| with_reducible first
  | (refine v_id ?_; first | refine r_var_0 ?_ | refine r_var_1 ?_ | refine r_var_2 ?_ | refine r_var_3 ?_ | refine r_var_4 ?_ | refine r_var_5 ?_ | refine r_var_6 ?_ | refine r_var_7 ?_ | refine r_var_8 ?_ | refine r_var_9 ?_ | refine r_var_10 ?_ | refine r_var_11 ?_ | refine r_var_12 ?_ | refine r_var_13 ?_ | refine r_var_14 ?_ | refine r_var_15 ?_ | refine r_var_16 ?_ | refine r_var_17 ?_ | refine r_var_18 ?_ | refine r_var_19 ?_ | refine r_var_20 ?_ | refine r_var_21 ?_ | refine r_var_22 ?_ | refine r_var_23 ?_ | refine r_var_24 ?_ | refine r_var_25 ?_ | refine r_var_26 ?_ | refine r_var_27 ?_ | refine r_var rfl ?_)
  | (refine s_id ?_; first | refine r_set_0 ?_ | refine r_set_1 ?_ | refine r_set_2 ?_ | refine r_set_3 ?_ | refine r_set_4 ?_ | refine r_set_5 ?_ | refine r_set_6 ?_ | refine r_set_7 ?_ | refine r_set_8 ?_ | refine r_set_9 ?_ | refine r_set_10 ?_ | refine r_set_11 ?_ | refine r_set_12 ?_ | refine r_set_13 ?_ | refine r_set_14 ?_ | refine r_set_15 ?_ | refine r_set_16 ?_ | refine r_set_17 ?_ | refine r_set_18 ?_ | refine r_set_19 ?_ | refine r_set_20 ?_ | refine r_set_21 ?_ | refine r_set_22 ?_ | refine r_set_23 ?_ | refine r_set_24 ?_ | refine r_set_25 ?_ | refine r_set_26 ?_ | refine r_set_27 ?_ | refine r_setU ?_)
  | refine r_c ?_
  | refine r_op ?_
  | refine r_I0 ?_
  | refine r_seq ?_
  | refine r_asg ?_
  | refine r_fld ?_
  | refine r_nil ?_
  | refine r_cons ?_
  | refine r_cb ?_
  | refine r_max ?_
  | refine r_min ?_
  | refine r_ret ?_
  | refine r_met ?_
  | refine r_call ?_
  | refine r_B ?_
  | refine r_test ?_
  | refine r_b' ?_
  | refine r_ifS ?_
  | refine r_if ?_
  | refine r_par ?_
  | refine r_par2 ?_
  | refine r_drop ?_
  | refine r_next ?_
  | refine r_make ?_
  | refine r_sfld ?_
  | refine r_int1 ?_
  | refine r_intb ?_
  | refine r_and ?_
  | refine r_or ?_
  | refine r_not ?_
  | refine r_chain ?_
  | refine r_isN ?_
  | refine r_notN ?_
  | refine r_un ?_
  | refine r_U ?_
  | refine r_par3 ?_
  | refine r_par33 ?_
  | refine r_tup ?_
  | refine r_lst ?_
  | refine r_prop ?_
  | refine r_bm ?_
  | refine r_bm0 ?_
  | refine r_andV ?_
  | refine r_orV ?_
  | refine r_notV ?_
  | refine r_asgG ?_
  | refine r_gname ?_
  | refine r_gcons ?_
  | refine r_gnil ?_
  | refine r_rng1 ?_
  | refine r_rng2 ?_
  | refine r_for ?_
  | refine r_lc1 ?_
  | refine r_lc2 ?_
  | refine r_lc3 ?_
  | refine r_lc ?_
  | refine r_while ?_
  | refine r_rev ?_
  | refine r_sl ?_
  | refine r_augS ?_
  | refine r_iL ?_
  | refine r_iT ?_
  | refine r_iE ?_
  | refine r_ipI ?_
  | refine r_aug rfl ?_
  | refine r_cval ?_
  | refine r_turnN ?_
  | refine iT ?_
  | refine iNT ?_
  | refine iNF ?_
  | refine iOF ?_
  | refine iF ?_
  | refine r_part ?_
  | refine r_pi ?_
  | refine r_gsub ?_
  | refine r_noPart ?_)
local macro_rules | `(tactic| walk_at "rd") => `(tactic| (repeat (first | walk_at "rd1" | walk_at "fact")))
local macro_rules | `(tactic| walk_at "plen") => `(tactic| (repeat (first | decide | refine putF_lt ?_)))
local macro_rules | `(tactic| walk_at "rs") => `(tactic| (repeat ((fail_if_success (with_reducible refine r_stop ?_)); (first | walk_at "rd1" | walk_at "fact"))))
/-! finding a fact in the present heap by the way back; each rule is applied by its conclusion before its premises are sought -/
local macro_rules | `(tactic| walk_at "atx") => `(tactic| fail)
local macro_rules | `(tactic| walk_at "c_h") => `(tactic| first
  | with_reducible assumption
  | ((with_reducible apply hat_s); (with_reducible assumption); walk_at "c_h"))
local macro_rules | `(tactic| walk_at "c_n") => `(tactic| first
  | with_reducible assumption
  | ((with_reducible apply hat_ne); (with_reducible assumption); walk_at "c_h"))
local macro_rules | `(tactic| walk_at "c_o") => `(tactic| first
  | with_reducible assumption
  | with_reducible exact upd_same
  | ((with_reducible apply at_s); (with_reducible assumption); walk_at "c_o")
  | ((with_reducible apply atd_tup); (with_reducible assumption); walk_at "c_h"; walk_at "c_o")
  | ((with_reducible apply atd_ins); (with_reducible assumption); walk_at "c_h"; walk_at "c_o")
  | ((with_reducible apply atd_lst); (with_reducible assumption); walk_at "c_n"; walk_at "c_o")
  | ((with_reducible apply atx_tup); (with_reducible assumption); walk_at "c_o"; walk_at "c_o")
  | ((with_reducible apply atx_ins); (with_reducible assumption); walk_at "c_o"; walk_at "c_o")
  | ((with_reducible apply atx_ne); (with_reducible assumption); (with_reducible assumption); walk_at "c_o"))
local macro_rules | `(tactic| walk_at "c_q") => `(tactic| first
  | with_reducible assumption
  | ((with_reducible apply sqL_s); (with_reducible assumption); walk_at "c_q"))
local macro_rules | `(tactic| walk_at "c_t") => `(tactic| first
  | with_reducible assumption
  | ((with_reducible apply sqT_s); (with_reducible assumption); walk_at "c_t")
  | ((with_reducible apply sqT_d); (with_reducible assumption); walk_at "c_h"; walk_at "c_t")
  | ((with_reducible apply sqT_x); (with_reducible assumption); walk_at "c_o"; walk_at "c_t"))
local macro_rules | `(tactic| walk_at "c_p") => `(tactic| first
  | with_reducible assumption
  | ((with_reducible apply pairs_s); (with_reducible assumption); walk_at "c_p"))
local macro_rules | `(tactic| walk_at "at") => `(tactic| first
  | with_reducible assumption
  | with_reducible exact upd_same
  | walk_at "atx"
  | ((with_reducible apply sqL_at); walk_at "c_o")
  | ((with_reducible apply sqL_s); (with_reducible assumption); walk_at "c_q")
  | ((with_reducible apply sqT_at); walk_at "c_o")
  | ((with_reducible apply sqT_id); walk_at "c_t")
  | ((with_reducible apply hat_id); walk_at "c_h")
  | ((with_reducible apply pairs_id); walk_at "c_p")
  | ((with_reducible apply ne_id); walk_at "c_n")
  | ((with_reducible apply at_id); walk_at "c_o"))
/-! a length, an inequality -/
local macro_rules | `(tactic| walk_at "le") => `(tactic| first | exact Nat.le_of_ble_eq_true rfl | omega | (simp; done) | (simp; omega))
local macro_rules | `(tactic| walk_at "ar") => `(tactic| first | omega | exact ⟨by omega, by omega⟩ | exact .inl ⟨by omega, by omega⟩ | exact .inr ⟨by omega, by omega⟩ | exact .inr (by omega) | exact .inl (by omega) | exact ⟨by omega, by omega, by omega⟩ | decide)
/-! calls of the text's own defs, with letters for what they leave -/
local macro_rules | `(tactic| walk_at "use") => `(tactic| fail)
local macro_rules | `(tactic| walk_at "go1") => `(tactic| first
  | walk_at "rd1"
  | walk_at "fact"
  | walk_at "use"
  | with_reducible refine r_p6 ?_
  | with_reducible refine r_p8 ?_
  | with_reducible refine r_p9 ?_
  | with_reducible refine r_p10 ?_
  | with_reducible refine r_p12 ?_
  | with_reducible refine r_p14 ?_
  | with_reducible refine r_p15 ?_
  | with_reducible refine r_p17 ?_
  | with_reducible refine r_p18 ?_
  | ((with_reducible apply r_I); walk_at "ar")
  | ((with_reducible apply a_neNil); walk_at "at"; intro _ _)
  | ((with_reducible apply a_eqNil); walk_at "at"; intro _ _)
  | ((with_reducible apply a_nwT); walk_at "le"; intro _ _ _ _ _)
  | ((with_reducible apply a_nwL); walk_at "le"; intro _ _ _ _ _)
  | ((with_reducible apply r_ixL (j := 0)); walk_at "at"; rfl; rfl)
  | ((with_reducible apply r_ixL (j := 1)); walk_at "at"; rfl; rfl)
  | ((with_reducible apply r_ixL (j := 2)); walk_at "at"; rfl; rfl)
  | ((with_reducible apply r_ixL (j := 3)); walk_at "at"; rfl; rfl)
  | ((with_reducible apply r_ixT (j := 0)); walk_at "at"; rfl; rfl)
  | ((with_reducible apply r_ixT (j := 1)); walk_at "at"; rfl; rfl)
  | ((with_reducible apply r_ixT (j := 2)); walk_at "at"; rfl; rfl)
  | ((with_reducible apply a_pick2); walk_at "at"; omega; omega; intro _ _)
  | ((with_reducible apply a_pick3); walk_at "at"; omega; omega; intro _ _)
  | ((with_reducible apply a_pick4); walk_at "at"; omega; omega; intro _ _)
  | ((with_reducible apply r_gtup); walk_at "at"; rfl)
  | ((with_reducible apply a_lenLI); walk_at "at")
  | ((with_reducible apply r_lenL); walk_at "at")
  | ((with_reducible apply r_lenT); walk_at "at")
  | ((with_reducible apply r_tyL); walk_at "at")
  | ((with_reducible apply a_cat); walk_at "at"; walk_at "at"; walk_at "le"; intro _ _ _ _ _)
  | ((with_reducible apply a_listL); walk_at "at"; intro _ _ _ _ _)
  | ((with_reducible apply a_tupL); walk_at "at"; intro _ _ _ _ _)
  | ((with_reducible apply a_slL); walk_at "at"; intro _ _ _ _ _)
  | ((with_reducible apply a_revL); walk_at "at"; intro _ _ _ _ _)
  | ((with_reducible apply r_sumT); walk_at "at")
  | ((with_reducible apply r_sumL); walk_at "at")
  | ((with_reducible refine ⟨_, rfl, ?_, ?_, ?_⟩); omega; omega)
  | ((with_reducible refine ⟨_, _, rfl, ⟨?_, ?_, ?_, ?_⟩, ?_⟩); omega; omega; omega; omega)
  | with_reducible refine ⟨_, rfl, ⟨_, by walk_at "at"⟩, ?_⟩)
local macro_rules | `(tactic| walk_at "go") => `(tactic| (repeat (walk_at "go1")))
local macro_rules | `(tactic| walk_at "sames") => `(tactic| first | exact sameR | assumption | ((with_reducible apply sameB); assumption; walk_at "sames"))
local macro_rules | `(tactic| walk_at "sameds") => `(tactic| first | assumption | ((with_reducible apply sameD_of); walk_at "sames"; done) | ((with_reducible apply sameDB); assumption; walk_at "sameds") | ((with_reducible apply sameDS); assumption; walk_at "sameds"))
local macro_rules | `(tactic| walk_at "gs") => `(tactic| (repeat ((fail_if_success (with_reducible refine r_stop ?_)); (walk_at "go1"))))
/-! the second family's drawing list on the way back -/
local macro_rules | `(tactic| walk_at "c_hb") => `(tactic| first
  | with_reducible assumption
  | ((with_reducible apply hatB_s); (with_reducible assumption); walk_at "c_hb"))
local macro_rules | `(tactic| walk_at "c_n") => `(tactic| first
  | with_reducible assumption
  | ((with_reducible apply hatB_ne); (with_reducible assumption); walk_at "c_hb"))
local macro_rules | `(tactic| walk_at "c_o") => `(tactic| first
  | with_reducible assumption
  | ((with_reducible apply atB_tup); (with_reducible assumption); walk_at "c_hb"; walk_at "c_o")
  | ((with_reducible apply atB_ins); (with_reducible assumption); walk_at "c_hb"; walk_at "c_o")
  | ((with_reducible apply atB_lst); (with_reducible assumption); walk_at "c_n"; walk_at "c_o"))
local macro_rules | `(tactic| walk_at "c_t") => `(tactic| first
  | with_reducible assumption
  | ((with_reducible apply sqTB); (with_reducible assumption); walk_at "c_hb"; walk_at "c_t"))
local macro_rules | `(tactic| walk_at "at") => `(tactic| ((with_reducible apply hatB_id); walk_at "c_hb"))
local macro_rules | `(tactic| walk_at "go1") => `(tactic| first
  | with_reducible refine r_co ?_
  | with_reducible refine r_lRg ?_
  | with_reducible refine r_rg2 ?_
  | with_reducible refine r_rg2R ?_
  | with_reducible refine r_coR ?_
  | ((with_reducible apply r_coI); walk_at "at"))
local macro_rules | `(tactic| walk_at "c_d") => `(tactic| first
  | with_reducible assumption
  | ((with_reducible apply bakDB); (with_reducible assumption); walk_at "c_hb"; walk_at "c_d"))
local macro_rules | `(tactic| walk_at "use") => `(tactic| first
  | ((with_reducible apply use_drw); walk_at "at"; omega; omega; intro _ _ _ _ _ _))
local macro_rules | `(tactic| walk_at "c_pri") => `(tactic| first
  | with_reducible assumption
  | ((with_reducible apply priAt_s); (with_reducible assumption); walk_at "c_pri")
  | ((with_reducible apply priAt_d); (with_reducible assumption); walk_at "c_hb"; walk_at "c_pri"))
local macro_rules | `(tactic| walk_at "at") => `(tactic| ((with_reducible apply priAt_id); walk_at "c_pri"))
local macro_rules | `(tactic| walk_at "use") => `(tactic| first
  | ((with_reducible apply use_priCall); walk_at "at")
  | ((with_reducible apply a_coP); walk_at "at"))
local macro_rules | `(tactic| walk_at "use") => `(tactic| ((with_reducible apply use_rpf); walk_at "at"; walk_at "at"))
local macro_rules | `(tactic| walk_at "gf") => `(tactic| (repeat ((fail_if_success (with_reducible refine r_stopF ?_)); (walk_at "go1"))))
def spSta2 (K : PySem.W.Frag) : Sp := fun vs H Q _ => ∃ (a : Addr) (xs : List Int), vs = [.ref a] ∧ SqL K H a (xs.map V.int) ∧ xs.length ≤ 63 ∧ ∀ h H', Same H H' → H h = none → HatB K H' h a → Q (.ref h) H'
theorem ok_law_start {P : Program} {w : World} {K : PySem.W.Frag} {mg : Str → Option Value} {base : Heap} (T : Tx K mg) : C8.Cal P w K mg base 1 "_law_start" (spSta2 K) [] := by
  refine cal_of (d := d_law_start) (x := "_law_start") (fn_law_start T) rfl rfl (fg_law_start T) sc_law_start (fun _ _ _ _ _ _ us hl => match us, hl with | [_], _ => rfl) (fun vs H Q E h => ?_) (fun cdv A outer s H vs Q E hr h => ?_)
  · obtain ⟨a, xs, rfl, hx, hl, k⟩ := h
    rfl
  obtain ⟨a, xs, rfl, hx, hl, k⟩ := h
  refine ⟨_, (pss_cons (ps_set (i := 1) sc_law_start.nd rfl (Or.inl rfl) pe_int)
      (pss_cons (ps_for PassesOwn.never rfl (pi_list (pv 0)) (pg_name (i := 2) sc_law_start.nd rfl (Or.inl rfl)) (pss_one (ps_set (i := 1) sc_law_start.nd rfl (Or.inl rfl) (pe_op op_mod (pe_op op_add (pe_op op_add (pe_op op_mul (pv 1) pe_int) (pv 2)) pe_int) pe_int))))
      (pss_one (ps_ret (pe_lst (pa_cons (pv 0) (pa_cons pe_int (pa_cons (pv 1) (pa_cons pe_int pa_nil))))))))), ?_⟩
  try dsimp only [cxOf, Cx.nox, Cx.wish]
  repeat rw [st_cons]
  repeat rw [st_none]
  try rw [st_nn]
  walk_at "rd"
  refine ⟨_, rfl, ⟨_, hx⟩, ?_⟩
  refine fR_list (xs := xs.map V.int) (fun i σ H' => ∃ (m : Int) (x : Option V), σ = [some (.ref a), some (.int m), x] ∧ 0 ≤ m ∧ m < 2147483647 ∧ H' = H) ⟨1, none, rfl, by decide, by decide, rfl⟩ (fun i σ H' _ w => let ⟨_, _, _, _, _, e⟩ := w; by rw [e]; exact hx) ?_ ?_
  · rintro i v σ H' hv ⟨m, x, rfl, m0, m1, rfl⟩
    obtain ⟨z, hz, rfl⟩ : ∃ z, xs[i]? = some z ∧ V.int z = v := by simpa using hv
    walk_at "rd"
    refine r_I (.inr (by decide)) ?_
    walk_at "rd"
    refine r_I (by decide) ?_
    exact ⟨_, some (.int z), rfl, Int.emod_nonneg _ (by decide), Int.emod_lt_of_pos _ (by decide), rfl⟩
  · rintro σ H' ⟨m, x, rfl, m0, m1, rfl⟩
    walk_at "rd"
    refine r_nwL (Nat.le_of_ble_eq_true rfl) fun p hp => ?_
    exact k p _ (same_new hp) hp ⟨xs, 0, m, 0, upd_same, same_sqL (hid_new hp) hx, hl, Int.le_refl _, m0, m1, Int.le_refl _⟩
/-- a drawn number below the limit; only the drawing list changes -/
def spDrw (K : PySem.W.Frag) : Sp := fun vs H Q _ => ∃ (h a : Addr) (n : Int), vs = [.ref h, .int n] ∧ HatB K H h a ∧ 1 ≤ n ∧ n ≤ 1000000000000000000 ∧ ∀ r H', 0 ≤ r → r < n → HatB K H' h a → SameD h h H H' → Q (.int r) H'
theorem ok_law_drawn {P : Program} {w : World} {K : PySem.W.Frag} {mg : Str → Option Value} {base : Heap} (T : Tx K mg) : C8.Cal P w K mg base 1 "_law_drawn" (spDrw K) [] := by
  refine cal_of (d := d_law_drawn) (x := "_law_drawn") (fn_law_drawn T) rfl rfl (fg_law_drawn T) sc_law_drawn (fun _ _ _ _ _ _ us hl => match us, hl with | [_, _], _ => rfl) (fun vs H Q E h => ?_) (fun cdv A outer s H vs Q E hr h => ?_)
  · obtain ⟨h, a, n, rfl, ⟨ns, p, m, r, h1, hs, hl, p0, m0, m1, r0⟩, n0, n1, k⟩ := h
    rfl
  obtain ⟨h, a, n, rfl, ⟨ns, p, m, r, h1, hs, hl, p0, m0, m1, r0⟩, n0, n1, k⟩ := h
  refine ⟨_, (pss_cons (ps_if (pt_cmpR op_gt (pe_ix ix_list (pv 0) pe_int (fun _ _ => rfl)) pe_int (nomark _)) (pss_cons (ps_set (i := 2) sc_law_drawn.nd rfl (Or.inl rfl) (pe_op op_mod (pe_ix ix_list (pv 0) pe_int (fun _ _ => rfl)) (pv 1)))
      (pss_cons (ps_asg (pe_op op_fdivW (pe_ix ix_list (pv 0) pe_int (fun _ _ => rfl)) (pv 1)) (pg_sub (pv 0) pe_int set_list))
      (pss_one (ps_ret (pv 2))))) pss_nil)
      (pss_cons (ps_asg (pe_op op_add (pe_ix ix_list (pv 0) pe_int (fun _ _ => rfl)) pe_int) (pg_sub (pv 0) pe_int set_list))
      (pss_cons (ps_if (pt_cmpR op_le (pe_ix ix_list (pv 0) pe_int (fun _ _ => rfl)) (pe_callB cq_len (by rfl) (fn_len T) bb_len (pa_cons (pe_ix ix_list (pv 0) pe_int (fun _ _ => rfl)) pa_nil)) (nomark _)) (pss_cons (ps_set (i := 3) sc_law_drawn.nd rfl (Or.inl rfl) (pe_ix ix_list (pe_ix ix_list (pv 0) pe_int (fun _ _ => rfl)) (pe_op op_sub (pe_ix ix_list (pv 0) pe_int (fun _ _ => rfl)) pe_int) (fun _ _ => rfl)))
      (pss_cons (ps_asg (pe_ifExp (pt_cmpR op_ge (pv 3) (pe_op op_pow pe_int pe_int) (nomark _)) (pe_op op_fdivW (pv 3) (pv 1)) pe_int) (pg_sub (pv 0) pe_int set_list))
      (pss_one (ps_ret (pe_op op_mod (pv 3) (pv 1)))))) pss_nil)
      (pss_cons (ps_asg (pe_op op_mod (pe_op op_add (pe_op op_mul (pe_ix ix_list (pv 0) pe_int (fun _ _ => rfl)) pe_int) pe_int) pe_int) (pg_sub (pv 0) pe_int set_list))
      (pss_one (ps_ret (pe_op op_mod (pe_op op_fdiv (pe_ix ix_list (pv 0) pe_int (fun _ _ => rfl)) pe_int) (pv 1)))))))), ?_⟩
  try dsimp only [cxOf, Cx.nox, Cx.wish]
  repeat rw [st_cons]
  repeat rw [st_none]
  try rw [st_nn]
  have log : ∀ i, CDivW i n := fun i => ⟨by omega, by
    have z : n.natAbs < 2 ^ 8999 := Nat.lt_of_le_of_lt (show n.natAbs ≤ 1000000000000000000 by omega) (by decide +kernel)
    have z2 := (Nat.log2_lt (by omega : n.natAbs ≠ 0)).mpr z
    omega⟩
  have st : ∀ {p' m' r' : Int} {H' : Hp}, H' h = some (.lst [.ref a, .int p', .int m', .int r']) → (∀ b, b ≠ h → H' b = H b) → 0 ≤ p' → 0 ≤ m' → m' < 2147483647 → 0 ≤ r' → HatB K H' h a ∧ SameD h h H H' := fun {p' m' r' H'} e o q0 q1 q2 q3 =>
    ⟨⟨ns, p', m', r', e, same_sqL (fun b u z => by
      unfold hid at z ⊢
      split at z
      · cases z
      · rename_i nb
        rw [if_neg nb, o b nb]
        exact z) hs, hl, q0, q1, q2, q3⟩, fun b u nb _ z => by rw [o b nb]; exact z⟩
  walk_at "rd"
  refine r_ixL (sqL_at h1) (j := 3) rfl rfl ?_
  walk_at "rs"
  refine i2 (fun c => ?_) (fun c => ?_)
  · walk_at "rd"
    refine r_ixL (sqL_at h1) (j := 3) rfl rfl ?_
    walk_at "rd"
    refine r_I (by omega) ?_
    walk_at "rd"
    refine r_ixL (sqL_at h1) (j := 3) rfl rfl ?_
    walk_at "rd"
    refine r_I (log _) ?_
    walk_at "rd"
    refine r_setL h1 (j := 3) rfl (by show 3 < 4; decide) ?_
    walk_at "rd"
    obtain ⟨q1, q2⟩ := st (p' := p) (m' := m) (r' := r / n) (H' := upd H h (.lst [.ref a, .int p, .int m, .int (r / n)])) upd_same (fun b nb => upd_ne nb) p0 m0 m1 (Int.ediv_nonneg r0 (by omega))
    exact k _ _ (Int.emod_nonneg _ (by omega)) (Int.emod_lt_of_pos _ (by omega)) q1 q2
  · walk_at "rd"
    refine r_ixL (sqL_at h1) (j := 1) rfl rfl ?_
    walk_at "rd"
    refine r_setL h1 (j := 1) rfl (by show 1 < 4; decide) ?_
    have e2 : upd H h (.lst ([V.ref a, V.int p, V.int m, V.int r].set 1 (.int (p + 1)))) h = some (.lst [.ref a, .int (p + 1), .int m, .int r]) := upd_same
    have hs2 : SqL K (upd H h (.lst ([V.ref a, V.int p, V.int m, V.int r].set 1 (.int (p + 1))))) a (ns.map V.int) := same_sqL (fun b u z => by
      unfold hid at z
      split at z
      · cases z
      · rename_i nb
        rw [upd_ne nb]
        exact z) hs
    walk_at "rd"
    refine r_ixL (sqL_at e2) (j := 1) rfl rfl ?_
    walk_at "rd"
    refine r_ixL (sqL_at e2) (j := 0) rfl rfl ?_
    walk_at "rd"
    refine r_lenL hs2 ?_
    walk_at "rs"
    rw [List.length_map]
    refine i2 (fun c2 => ?_) (fun c2 => ?_)
    · obtain ⟨j, ej⟩ : ∃ j : Nat, p = (j : Int) := ⟨p.toNat, by omega⟩
      obtain ⟨z, hz⟩ : ∃ z, ns[j]? = some z := ⟨_, List.getElem?_eq_getElem (by omega)⟩
      walk_at "rd"
      refine r_ixL (sqL_at e2) (j := 0) rfl rfl ?_
      walk_at "rd"
      refine r_ixL (sqL_at e2) (j := 1) rfl rfl ?_
      walk_at "rd"
      refine r_ixL hs2 (j := j) (by omega) (v := .int z) (by rw [List.getElem?_map, hz]; rfl) ?_
      walk_at "rd"
      refine r_I ⟨by decide, by decide, by decide⟩ ?_
      have p18 : (10 : Int) ^ (18 : Int).toNat = 1000000000000000000 := by decide
      walk_at "rd"
      rw [p18]
      refine i2 (fun cz => ?_) (fun cz => ?_)
      · walk_at "rd"
        refine r_I (log _) ?_
        walk_at "rd"
        refine r_setL e2 (j := 3) rfl (by show 3 < 4; decide) ?_
        rw [upd_upd]
        walk_at "rd"
        refine r_I (by omega) ?_
        obtain ⟨q1, q2⟩ := st (p' := p + 1) (m' := m) (r' := z / n) (H' := upd H h (.lst [.ref a, .int (p + 1), .int m, .int (z / n)])) upd_same (fun b nb => upd_ne nb) (by omega) m0 m1 (Int.ediv_nonneg (by omega) (by omega))
        exact k _ _ (Int.emod_nonneg _ (by omega)) (Int.emod_lt_of_pos _ (by omega)) q1 q2
      · walk_at "rd"
        refine r_setL e2 (j := 3) rfl (by show 3 < 4; decide) ?_
        rw [upd_upd]
        walk_at "rd"
        refine r_I (by omega) ?_
        obtain ⟨q1, q2⟩ := st (p' := p + 1) (m' := m) (r' := 0) (H' := upd H h (.lst [.ref a, .int (p + 1), .int m, .int 0])) upd_same (fun b nb => upd_ne nb) (by omega) m0 m1 (Int.le_refl _)
        exact k _ _ (Int.emod_nonneg _ (by omega)) (Int.emod_lt_of_pos _ (by omega)) q1 q2
    · walk_at "rd"
      refine r_ixL (sqL_at e2) (j := 2) rfl rfl ?_
      walk_at "rd"
      refine r_I (.inr (by decide)) ?_
      walk_at "rd"
      refine r_I (by decide) ?_
      walk_at "rd"
      refine r_setL e2 (j := 2) rfl (by show 2 < 4; decide) ?_
      rw [upd_upd]
      generalize hM : (m * 48271 + 11) % 2147483647 = M
      have M0 : 0 ≤ M := by
        rw [← hM]
        exact Int.emod_nonneg _ (by decide)
      have M1 : M < 2147483647 := by
        rw [← hM]
        exact Int.emod_lt_of_pos _ (by decide)
      have e3 : upd H h (.lst [V.ref a, V.int (p + 1), V.int M, V.int r]) h = some (.lst [.ref a, .int (p + 1), .int M, .int r]) := upd_same
      walk_at "rd"
      refine r_ixL (sqL_at e3) (j := 2) rfl rfl ?_
      walk_at "rd"
      refine r_I ⟨by decide, by decide⟩ ?_
      walk_at "rd"
      refine r_I (by omega) ?_
      obtain ⟨q1, q2⟩ := st (p' := p + 1) (m' := M) (r' := r) e3 (fun b nb => upd_ne nb) (by omega) M0 M1 r0
      exact k _ _ (Int.emod_nonneg _ (by omega)) (Int.emod_lt_of_pos _ (by omega)) q1 q2
theorem use_drw {K : PySem.W.Frag} {H : Hp} {Q : VK} {E : XK} {h a : Addr} {n : Int} (hat : HatB K H h a) (h1 : 1 ≤ n) (h2 : n ≤ 1000000000000000000) (q : ∀ r H', 0 ≤ r → r < n → HatB K H' h a → SameD h h H H' → Q (.int r) H') : spDrw K [.ref h, .int n] H Q E := ⟨h, a, n, rfl, hat, h1, h2, q⟩
theorem use_sta2 {K : PySem.W.Frag} {H : Hp} {Q : VK} {E : XK} {a : Addr} {xs : List Int} (hx : SqL K H a (xs.map V.int)) (hl : xs.length ≤ 63) (q : ∀ h H', Same H H' → H h = none → HatB K H' h a → Q (.ref h) H') : spSta2 K [.ref a] H Q E := ⟨a, xs, rfl, hx, hl, q⟩
def spAmB (K : PySem.W.Frag) : Sp := fun vs H Q _ => ∃ (h a : Addr) (n w : Int), vs = [.ref h, .int n, .int w] ∧ HatB K H h a ∧ 0 ≤ n ∧ n ≤ 1000 ∧ 0 ≤ w ∧ w ≤ 1000000000 ∧ ∀ p H' (xs : List Int), HatB K H' h a → SameD h h H H' → H' p = some (.tup (xs.map V.int)) → xs.length = n.toNat → (∀ x ∈ xs, 0 ≤ x ∧ x ≤ w) → Q (.ref p) H'
theorem use_amB {K : PySem.W.Frag} {H : Hp} {Q : VK} {E : XK} {h a : Addr} {n w : Int} (hat : HatB K H h a) (n0 : 0 ≤ n) (n1 : n ≤ 1000) (w0 : 0 ≤ w) (w1 : w ≤ 1000000000) (q : ∀ p H' (xs : List Int), HatB K H' h a → SameD h h H H' → H' p = some (.tup (xs.map V.int)) → xs.length = n.toNat → (∀ x ∈ xs, 0 ≤ x ∧ x ≤ w) → Q (.ref p) H') : spAmB K [.ref h, .int n, .int w] H Q E := ⟨h, a, n, w, rfl, hat, n0, n1, w0, w1, q⟩

end G57
end
section
set_option maxRecDepth 100000
set_option maxHeartbeats 4000000
namespace G57
open PySem PySem.Spec PyProof.Rows L2
/-! the walk's small steps: "rd" reads on as far as it can -/
local macro_rules | `(tactic| walk_at "fact") => `(tactic| fail)
local macro_rules | `(tactic| walk_at "rd1") => `(tactic| with_reducible first
  | (refine v_id ?_; first | refine r_var_0 ?_ | refine r_var_1 ?_ | refine r_var_2 ?_ | refine r_var_3 ?_ | refine r_var_4 ?_ | refine r_var_5 ?_ | refine r_var_6 ?_ | refine r_var_7 ?_ | refine r_var_8 ?_ | refine r_var_9 ?_ | refine r_var_10 ?_ | refine r_var_11 ?_ | refine r_var_12 ?_ | refine r_var_13 ?_ | refine r_var_14 ?_ | refine r_var_15 ?_ | refine r_var_16 ?_ | refine r_var_17 ?_ | refine r_var_18 ?_ | refine r_var_19 ?_ | refine r_var_20 ?_ | refine r_var_21 ?_ | refine r_var_22 ?_ | refine r_var_23 ?_ | refine r_var_24 ?_ | refine r_var_25 ?_ | refine r_var_26 ?_ | refine r_var_27 ?_ | refine r_var rfl ?_)
  | (refine s_id ?_; first | refine r_set_0 ?_ | refine r_set_1 ?_ | refine r_set_2 ?_ | refine r_set_3 ?_ | refine r_set_4 ?_ | refine r_set_5 ?_ | refine r_set_6 ?_ | refine r_set_7 ?_ | refine r_set_8 ?_ | refine r_set_9 ?_ | refine r_set_10 ?_ | refine r_set_11 ?_ | refine r_set_12 ?_ | refine r_set_13 ?_ | refine r_set_14 ?_ | refine r_set_15 ?_ | refine r_set_16 ?_ | refine r_set_17 ?_ | refine r_set_18 ?_ | refine r_set_19 ?_ | refine r_set_20 ?_ | refine r_set_21 ?_ | refine r_set_22 ?_ | refine r_set_23 ?_ | refine r_set_24 ?_ | refine r_set_25 ?_ | refine r_set_26 ?_ | refine r_set_27 ?_ | refine r_setU ?_)
  | refine r_c ?_
  | refine r_op ?_
  | refine r_I0 ?_
  | refine r_seq ?_
  | refine r_asg ?_
  | refine r_fld ?_
  | refine r_nil ?_
  | refine r_cons ?_
  | refine r_cb ?_
  | refine r_max ?_
  | refine r_min ?_
  | refine r_ret ?_
  | refine r_met ?_
  | refine r_call ?_
  | refine r_B ?_
  | refine r_test ?_
  | refine r_b' ?_
  | refine r_ifS ?_
  | refine r_if ?_
  | refine r_par ?_
  | refine r_par2 ?_
  | refine r_drop ?_
  | refine r_next ?_
  | refine r_make ?_
  | refine r_sfld ?_
  | refine r_int1 ?_
  | refine r_intb ?_
  | refine r_and ?_
  | refine r_or ?_
  | refine r_not ?_
  | refine r_chain ?_
  | refine r_isN ?_
  | refine r_notN ?_
  | refine r_un ?_
  | refine r_U ?_
  | refine r_par3 ?_
  | refine r_par33 ?_
  | refine r_tup ?_
  | refine r_lst ?_
  | refine r_prop ?_
  | refine r_bm ?_
  | refine r_bm0 ?_
  | refine r_andV ?_
  | refine r_orV ?_
  | refine r_notV ?_
  | refine r_asgG ?_
  | refine r_gname ?_
  | refine r_gcons ?_
  | refine r_gnil ?_
  | refine r_rng1 ?_
  | refine r_rng2 ?_
  | refine r_for ?_
  | refine r_lc1 ?_
  | refine r_lc2 ?_
  | refine r_lc3 ?_
  | refine r_lc ?_
  | refine r_while ?_
  | refine r_rev ?_
  | refine r_sl ?_
  | refine r_augS ?_
  | refine r_iL ?_
  | refine r_iT ?_
  | refine r_iE ?_
  | refine r_ipI ?_
  | refine r_aug rfl ?_
  | refine r_cval ?_
  | refine r_turnN ?_
  | refine iT ?_
  | refine iNT ?_
  | refine iNF ?_
  | refine iOF ?_
  | refine iF ?_
  | refine r_part ?_
  | refine r_pi ?_
  | refine r_gsub ?_
  | refine r_noPart ?_)
local macro_rules | `(tactic| walk_at "rd") => `(tactic| (repeat (first | walk_at "rd1" | walk_at "fact")))
local macro_rules | `(tactic| walk_at "plen") => `(tactic| (repeat (first | decide | refine putF_lt ?_)))
local macro_rules | `(tactic| walk_at "rs") => `(tactic| (repeat ((fail_if_success (with_reducible refine r_stop ?_)); (first | walk_at "rd1" | walk_at "fact"))))
/-! finding a fact in the present heap by the way back; each rule is applied by its conclusion before its premises are sought -/
local macro_rules | `(tactic| walk_at "atx") => `(tactic| fail)
local macro_rules | `(tactic| walk_at "c_h") => `(tactic| first
  | with_reducible assumption
  | ((with_reducible apply hat_s); (with_reducible assumption); walk_at "c_h"))
local macro_rules | `(tactic| walk_at "c_n") => `(tactic| first
  | with_reducible assumption
  | ((with_reducible apply hat_ne); (with_reducible assumption); walk_at "c_h"))
local macro_rules | `(tactic| walk_at "c_o") => `(tactic| first
  | with_reducible assumption
  | with_reducible exact upd_same
  | ((with_reducible apply at_s); (with_reducible assumption); walk_at "c_o")
  | ((with_reducible apply atd_tup); (with_reducible assumption); walk_at "c_h"; walk_at "c_o")
  | ((with_reducible apply atd_ins); (with_reducible assumption); walk_at "c_h"; walk_at "c_o")
  | ((with_reducible apply atd_lst); (with_reducible assumption); walk_at "c_n"; walk_at "c_o")
  | ((with_reducible apply atx_tup); (with_reducible assumption); walk_at "c_o"; walk_at "c_o")
  | ((with_reducible apply atx_ins); (with_reducible assumption); walk_at "c_o"; walk_at "c_o")
  | ((with_reducible apply atx_ne); (with_reducible assumption); (with_reducible assumption); walk_at "c_o"))
local macro_rules | `(tactic| walk_at "c_q") => `(tactic| first
  | with_reducible assumption
  | ((with_reducible apply sqL_s); (with_reducible assumption); walk_at "c_q"))
local macro_rules | `(tactic| walk_at "c_t") => `(tactic| first
  | with_reducible assumption
  | ((with_reducible apply sqT_s); (with_reducible assumption); walk_at "c_t")
  | ((with_reducible apply sqT_d); (with_reducible assumption); walk_at "c_h"; walk_at "c_t")
  | ((with_reducible apply sqT_x); (with_reducible assumption); walk_at "c_o"; walk_at "c_t"))
local macro_rules | `(tactic| walk_at "c_p") => `(tactic| first
  | with_reducible assumption
  | ((with_reducible apply pairs_s); (with_reducible assumption); walk_at "c_p"))
local macro_rules | `(tactic| walk_at "at") => `(tactic| first
  | with_reducible assumption
  | with_reducible exact upd_same
  | walk_at "atx"
  | ((with_reducible apply sqL_at); walk_at "c_o")
  | ((with_reducible apply sqL_s); (with_reducible assumption); walk_at "c_q")
  | ((with_reducible apply sqT_at); walk_at "c_o")
  | ((with_reducible apply sqT_id); walk_at "c_t")
  | ((with_reducible apply hat_id); walk_at "c_h")
  | ((with_reducible apply pairs_id); walk_at "c_p")
  | ((with_reducible apply ne_id); walk_at "c_n")
  | ((with_reducible apply at_id); walk_at "c_o"))
/-! a length, an inequality -/
local macro_rules | `(tactic| walk_at "le") => `(tactic| first | exact Nat.le_of_ble_eq_true rfl | omega | (simp; done) | (simp; omega))
local macro_rules | `(tactic| walk_at "ar") => `(tactic| first | omega | exact ⟨by omega, by omega⟩ | exact .inl ⟨by omega, by omega⟩ | exact .inr ⟨by omega, by omega⟩ | exact .inr (by omega) | exact .inl (by omega) | exact ⟨by omega, by omega, by omega⟩ | decide)
/-! calls of the text's own defs, with letters for what they leave -/
local macro_rules | `(tactic| walk_at "use") => `(tactic| fail)
local macro_rules | `(tactic| walk_at "go1") => `(tactic| first
  | walk_at "rd1"
  | walk_at "fact"
  | walk_at "use"
  | with_reducible refine r_p6 ?_
  | with_reducible refine r_p8 ?_
  | with_reducible refine r_p9 ?_
  | with_reducible refine r_p10 ?_
  | with_reducible refine r_p12 ?_
  | with_reducible refine r_p14 ?_
  | with_reducible refine r_p15 ?_
  | with_reducible refine r_p17 ?_
  | with_reducible refine r_p18 ?_
  | ((with_reducible apply r_I); walk_at "ar")
  | ((with_reducible apply a_neNil); walk_at "at"; intro _ _)
  | ((with_reducible apply a_eqNil); walk_at "at"; intro _ _)
  | ((with_reducible apply a_nwT); walk_at "le"; intro _ _ _ _ _)
  | ((with_reducible apply a_nwL); walk_at "le"; intro _ _ _ _ _)
  | ((with_reducible apply r_ixL (j := 0)); walk_at "at"; rfl; rfl)
  | ((with_reducible apply r_ixL (j := 1)); walk_at "at"; rfl; rfl)
  | ((with_reducible apply r_ixL (j := 2)); walk_at "at"; rfl; rfl)
  | ((with_reducible apply r_ixL (j := 3)); walk_at "at"; rfl; rfl)
  | ((with_reducible apply r_ixT (j := 0)); walk_at "at"; rfl; rfl)
  | ((with_reducible apply r_ixT (j := 1)); walk_at "at"; rfl; rfl)
  | ((with_reducible apply r_ixT (j := 2)); walk_at "at"; rfl; rfl)
  | ((with_reducible apply a_pick2); walk_at "at"; omega; omega; intro _ _)
  | ((with_reducible apply a_pick3); walk_at "at"; omega; omega; intro _ _)
  | ((with_reducible apply a_pick4); walk_at "at"; omega; omega; intro _ _)
  | ((with_reducible apply r_gtup); walk_at "at"; rfl)
  | ((with_reducible apply a_lenLI); walk_at "at")
  | ((with_reducible apply r_lenL); walk_at "at")
  | ((with_reducible apply r_lenT); walk_at "at")
  | ((with_reducible apply r_tyL); walk_at "at")
  | ((with_reducible apply a_cat); walk_at "at"; walk_at "at"; walk_at "le"; intro _ _ _ _ _)
  | ((with_reducible apply a_listL); walk_at "at"; intro _ _ _ _ _)
  | ((with_reducible apply a_tupL); walk_at "at"; intro _ _ _ _ _)
  | ((with_reducible apply a_slL); walk_at "at"; intro _ _ _ _ _)
  | ((with_reducible apply a_revL); walk_at "at"; intro _ _ _ _ _)
  | ((with_reducible apply r_sumT); walk_at "at")
  | ((with_reducible apply r_sumL); walk_at "at")
  | ((with_reducible refine ⟨_, rfl, ?_, ?_, ?_⟩); omega; omega)
  | ((with_reducible refine ⟨_, _, rfl, ⟨?_, ?_, ?_, ?_⟩, ?_⟩); omega; omega; omega; omega)
  | with_reducible refine ⟨_, rfl, ⟨_, by walk_at "at"⟩, ?_⟩)
local macro_rules | `(tactic| walk_at "go") => `(tactic| (repeat (walk_at "go1")))
local macro_rules | `(tactic| walk_at "sames") => `(tactic| first | exact sameR | assumption | ((with_reducible apply sameB); assumption; walk_at "sames"))
local macro_rules | `(tactic| walk_at "sameds") => `(tactic| first | assumption | ((with_reducible apply sameD_of); walk_at "sames"; done) | ((with_reducible apply sameDB); assumption; walk_at "sameds") | ((with_reducible apply sameDS); assumption; walk_at "sameds"))
local macro_rules | `(tactic| walk_at "gs") => `(tactic| (repeat ((fail_if_success (with_reducible refine r_stop ?_)); (walk_at "go1"))))
/-! the second family's drawing list on the way back -/
local macro_rules | `(tactic| walk_at "c_hb") => `(tactic| first
  | with_reducible assumption
  | ((with_reducible apply hatB_s); (with_reducible assumption); walk_at "c_hb"))
local macro_rules | `(tactic| walk_at "c_n") => `(tactic| first
  | with_reducible assumption
  | ((with_reducible apply hatB_ne); (with_reducible assumption); walk_at "c_hb"))
local macro_rules | `(tactic| walk_at "c_o") => `(tactic| first
  | with_reducible assumption
  | ((with_reducible apply atB_tup); (with_reducible assumption); walk_at "c_hb"; walk_at "c_o")
  | ((with_reducible apply atB_ins); (with_reducible assumption); walk_at "c_hb"; walk_at "c_o")
  | ((with_reducible apply atB_lst); (with_reducible assumption); walk_at "c_n"; walk_at "c_o"))
local macro_rules | `(tactic| walk_at "c_t") => `(tactic| first
  | with_reducible assumption
  | ((with_reducible apply sqTB); (with_reducible assumption); walk_at "c_hb"; walk_at "c_t"))
local macro_rules | `(tactic| walk_at "at") => `(tactic| ((with_reducible apply hatB_id); walk_at "c_hb"))
local macro_rules | `(tactic| walk_at "go1") => `(tactic| first
  | with_reducible refine r_co ?_
  | with_reducible refine r_lRg ?_
  | with_reducible refine r_rg2 ?_
  | with_reducible refine r_rg2R ?_
  | with_reducible refine r_coR ?_
  | ((with_reducible apply r_coI); walk_at "at"))
local macro_rules | `(tactic| walk_at "c_d") => `(tactic| first
  | with_reducible assumption
  | ((with_reducible apply bakDB); (with_reducible assumption); walk_at "c_hb"; walk_at "c_d"))
local macro_rules | `(tactic| walk_at "use") => `(tactic| first
  | ((with_reducible apply use_drw); walk_at "at"; omega; omega; intro _ _ _ _ _ _))
local macro_rules | `(tactic| walk_at "c_pri") => `(tactic| first
  | with_reducible assumption
  | ((with_reducible apply priAt_s); (with_reducible assumption); walk_at "c_pri")
  | ((with_reducible apply priAt_d); (with_reducible assumption); walk_at "c_hb"; walk_at "c_pri"))
local macro_rules | `(tactic| walk_at "at") => `(tactic| ((with_reducible apply priAt_id); walk_at "c_pri"))
local macro_rules | `(tactic| walk_at "use") => `(tactic| first
  | ((with_reducible apply use_priCall); walk_at "at")
  | ((with_reducible apply a_coP); walk_at "at"))
local macro_rules | `(tactic| walk_at "use") => `(tactic| ((with_reducible apply use_rpf); walk_at "at"; walk_at "at"))
local macro_rules | `(tactic| walk_at "gf") => `(tactic| (repeat ((fail_if_success (with_reducible refine r_stopF ?_)); (walk_at "go1"))))
/-- prices in the heap -/
def PriAt (K : PySem.W.Frag) (H : Hp) (a : Addr) (p q r : Int) : Prop := ∃ dx t, H a = some (.ins (He.ga K "Prices") dx [("table", .ref t)]) ∧ H t = some (.tup [.int p, .int q, .int r]) ∧ 0 ≤ p ∧ p ≤ 1000000 ∧ 0 ≤ q ∧ q ≤ 1000000 ∧ 0 ≤ r ∧ r ≤ 1000000
section
variable {K : PySem.W.Frag} {H H' : Hp} {a h s : Addr} {p q r : Int}
theorem priAt_s (e : Same H H') (z : PriAt K H a p q r) : PriAt K H' a p q r := let ⟨dx, t, h1, h2, w⟩ := z; ⟨dx, t, e _ _ h1, e _ _ h2, w⟩
theorem priAt_d (e : SameD h h H H') (hat : HatB K H h s) (z : PriAt K H a p q r) : PriAt K H' a p q r := let ⟨dx, t, h1, h2, w⟩ := z; ⟨dx, t, atB_ins e hat h1, atB_tup e hat h2, w⟩
theorem priAt_id (z : PriAt K H a p q r) : PriAt K H a p q r := z
end
def spPriInit (K : PySem.W.Frag) : Sp := fun vs H Q _ => ∃ (a dx : Addr) (p q r : Int), vs = [.ref a, .int p, .int q, .int r] ∧ H a = some (.ins (He.ga K "Prices") dx []) ∧ 0 ≤ p ∧ p ≤ 1000000 ∧ 0 ≤ q ∧ q ≤ 1000000 ∧ 0 ≤ r ∧ r ≤ 1000000 ∧ ∀ H', SameX a H H' → PriAt K H' a p q r → Q .non H'
theorem ok_Prices_init {P : Program} {w : World} {K : PySem.W.Frag} {mg : Str → Option Value} {base : Heap} (T : Tx K mg) : C8.Mak P w K mg base 1 "Prices" (He.ga K "Prices") (spPriInit K) [] := by
  refine mak_of (d := d_Prices_init) (C := "Prices") (fn_Prices_init T) rfl rfl (fg_Prices T) (fmk_Prices T) sc_Prices_init (fun _ _ _ _ _ _ us hl => match us, hl with | [_, _, _, _], _ => rfl) (fun vs H Q E h => ?_) (fun cdv A outer s H vs Q E hr h => ?_)
  · obtain ⟨a, dx, p, q, r, rfl, ha, p0, p1, q0, q1, r0, r1, k⟩ := h
    rfl
  obtain ⟨a, dx, p, q, r, rfl, ha, p0, p1, q0, q1, r0, r1, k⟩ := h
  refine ⟨_, (pss_cons (ps_for PassesOwn.never rfl (pi_tup (pe_tup (pa_cons (pe_tup (pa_cons pe_str (pa_cons (pv 1) pa_nil))) (pa_cons (pe_tup (pa_cons pe_str (pa_cons (pv 2) pa_nil))) (pa_cons (pe_tup (pa_cons pe_str (pa_cons (pv 3) pa_nil))) pa_nil))))) (pg_tup (n := 2) (by rfl) (pgs_cons (pg_name (i := 4) sc_Prices_init.nd rfl (Or.inl rfl)) (pgs_cons (pg_name (i := 5) sc_Prices_init.nd rfl (Or.inl rfl)) pgs_nil))) (pss_one (ps_if (pt_not (pt_chain op_le op_le pe_int (pv 5) (C8.pe_gc rfl (gc_int (fi_MAX_PRICE T))))) (pss_one ps_never) pss_nil)))
      (pss_one (ps_fld (pv 0) (pe_tup (pa_cons (pv 1) (pa_cons (pv 2) (pa_cons (pv 3) pa_nil)))) rfl))), ?_⟩
  try dsimp only [cxOf, Cx.nox, Cx.wish]
  repeat rw [st_cons]
  repeat rw [st_none]
  try rw [st_nn]
  walk_at "rd"
  refine a_nwT (Nat.le_of_ble_eq_true rfl) fun t1 H1 s1 n1 e1 => ?_
  walk_at "rd"
  refine a_nwT (Nat.le_of_ble_eq_true rfl) fun t2 H2 s2 n2 e2 => ?_
  walk_at "rd"
  refine a_nwT (Nat.le_of_ble_eq_true rfl) fun t3 H3 s3 n3 e3 => ?_
  walk_at "rd"
  refine a_nwT (Nat.le_of_ble_eq_true rfl) fun t4 H4 s4 n4 e4 => ?_
  walk_at "rd"
  refine ⟨_, rfl, ⟨_, sqT_at e4⟩, ?_⟩
  refine fR_tup (xs := [.ref t1, .ref t2, .ref t3]) (fun i σ H' => ∃ x y, σ = [some (.ref a), some (.int p), some (.int q), some (.int r), x, y] ∧ Same H4 H') ⟨none, none, rfl, sameR⟩ (fun i σ H' _ z => same_sqT z.choose_spec.choose_spec.2 (sqT_at e4)) ?_ ?_
  · rintro i x σ H' hi ⟨y, z, rfl, sm⟩
    have it : ∃ (t : Addr) (w : Str) (n : Int), x = .ref t ∧ H' t = some (.tup [.str w, .int n]) ∧ 0 ≤ n ∧ n ≤ 1000000 := by
      match i, hi with
      | 0, hi =>
        cases hi
        exact ⟨t1, _, _, rfl, sm _ _ (s4 _ _ (s3 _ _ (s2 _ _ e1))), p0, p1⟩
      | 1, hi =>
        cases hi
        exact ⟨t2, _, _, rfl, sm _ _ (s4 _ _ (s3 _ _ e2)), q0, q1⟩
      | 2, hi =>
        cases hi
        exact ⟨t3, _, _, rfl, sm _ _ (s4 _ _ e3), r0, r1⟩
      | n + 3, hi => cases hi
    obtain ⟨t, w, n, rfl, ht, c0, c1⟩ := it
    refine r_turnG ?_
    refine r_gtup (sqT_at ht) rfl ?_
    walk_at "rd"
    refine iY c0 ?_
    walk_at "rd"
    refine iN' c1 ?_
    walk_at "rd"
    exact ⟨_, _, rfl, sm⟩
  · rintro σ H' ⟨y, z, rfl, sm⟩
    walk_at "rd"
    refine a_nwT (Nat.le_of_ble_eq_true rfl) fun t5 H5 s5 n5 e5 => ?_
    have s05 := sameT s1 (sameT s2 (sameT s3 (sameT s4 (sameT sm s5))))
    have ha5 := s05 _ _ ha
    have ne : t5 ≠ a := fun z => by
      rw [z, ha5] at e5
      cases e5
    walk_at "rd"
    refine r_sfldR ha5 (fc_Prices T) (fna_Prices_table T) (by decide) ?_
    walk_at "rd"
    exact k _ (SameX.at (SameX.of s05)) ⟨dx, t5, upd_same, by rw [upd_ne ne]; exact e5, p0, p1, q0, q1, r0, r1⟩
theorem use_Pri {K : PySem.W.Frag} {H : Hp} {Q : VK} {E : XK} {p q r : Int} (p0 : 0 ≤ p) (p1 : p ≤ 1000000) (q0 : 0 ≤ q) (q1 : q ≤ 1000000) (r0 : 0 ≤ r) (r1 : r ≤ 1000000) (k : ∀ a H', Same H H' → PriAt K H' a p q r → Q (.ref a) H') : MakR (He.ga K "Prices") (spPriInit K) E Q [.int p, .int q, .int r] H := by
  intro x dx hx hdx ne
  refine ⟨x, dx, p, q, r, rfl, upd_same, p0, p1, q0, q1, r0, r1, fun H' s pa => ⟨rfl, k x H' (fun b u e => ?_) pa⟩⟩
  have nb : b ≠ x := ne_of_none e hx
  refine s b u nb ?_
  rw [upd_ne nb, upd_ne (ne_of_none e hdx)]
  exact e
def spPriCall (K : PySem.W.Frag) : Sp := fun vs H Q _ => ∃ (a : Addr) (p q r b s t : Int), vs = [.ref a, .int b, .int s, .int t] ∧ PriAt K H a p q r ∧ Q (.int (p * s - q * b - r * t)) H
theorem ok_Prices_call {P : Program} {w : World} {K : PySem.W.Frag} {mg : Str → Option Value} {base : Heap} (T : Tx K mg) : Cop P w K mg base 1 (He.ga K "Prices") (spPriCall K) := by
  refine cop_of (d := d_Prices_call) (C := "Prices") (fn_Prices_call T) rfl rfl (fme_Prices_call T) (fca_Prices T) sc_Prices_call (fun _ _ _ _ _ _ us hl => match us, hl with | [_, _, _, _], _ => rfl) (fun vs H Q E h => ?_) (fun cdv A outer s H vs Q E hr h => ?_)
  · obtain ⟨a, p, q, r, b, s, t, rfl, ⟨dx, ta, ha, ht, p0, p1, q0, q1, r0, r1⟩, k⟩ := h
    rfl
  obtain ⟨a, p, q, r, b, s, t, rfl, ⟨dx, ta, ha, ht, p0, p1, q0, q1, r0, r1⟩, k⟩ := h
  refine ⟨_, (pss_one (ps_ret (pe_op op_sub (pe_op op_sub (pe_op op_mul (pe_ix ix_tup (pe_fld (pv 0) rfl) pe_int (fun _ _ => rfl)) (pv 2)) (pe_op op_mul (pe_ix ix_tup (pe_fld (pv 0) rfl) pe_int (fun _ _ => rfl)) (pv 1))) (pe_op op_mul (pe_ix ix_tup (pe_fld (pv 0) rfl) pe_int (fun _ _ => rfl)) (pv 3))))), ?_⟩
  try dsimp only [cxOf, Cx.nox, Cx.wish]
  repeat rw [st_cons]
  repeat rw [st_none]
  try rw [st_nn]
  walk_at "rd"
  refine r_fldR ha (fc_Prices T) (fna_Prices_table T) rfl ?_
  walk_at "rd"
  refine r_ixT (sqT_at ht) (j := 0) rfl rfl ?_
  walk_at "rd"
  refine r_I (.inl (by omega)) ?_
  walk_at "rd"
  refine r_fldR ha (fc_Prices T) (fna_Prices_table T) rfl ?_
  walk_at "rd"
  refine r_ixT (sqT_at ht) (j := 1) rfl rfl ?_
  walk_at "rd"
  refine r_I (.inl (by omega)) ?_
  walk_at "rd"
  refine r_fldR ha (fc_Prices T) (fna_Prices_table T) rfl ?_
  walk_at "rd"
  refine r_ixT (sqT_at ht) (j := 2) rfl rfl ?_
  walk_at "rd"
  refine r_I (.inl (by omega)) ?_
  walk_at "rd"
  exact k
theorem use_priCall {K : PySem.W.Frag} {H : Hp} {Q : VK} {E : XK} {a : Addr} {p q r b s t : Int} (pa : PriAt K H a p q r) (k : Q (.int (p * s - q * b - r * t)) H) : spPriCall K [.ref a, .int b, .int s, .int t] H Q E := ⟨a, p, q, r, b, s, t, rfl, pa, k⟩
theorem a_coP {H : Hp} {a : Addr} {p q r : Int} {A : Prop} {K : PySem.W.Frag} (pa : PriAt K H a p q r) (q : A) : InsD H a (He.ga K "Prices") ∧ A := let ⟨dx, _, h, _⟩ := pa; ⟨.inr ⟨dx, _, h⟩, q⟩

end G57
end
section
set_option maxRecDepth 100000
set_option maxHeartbeats 4000000
namespace G57
open PySem PySem.Spec PyProof.Rows L2
/-! the walk's small steps: "rd" reads on as far as it can -/
local macro_rules | `(tactic| walk_at "fact") => `(tactic| fail)
local macro_rules | `(tactic| walk_at "rd1") => `(tactic| with_reducible first
  | (refine v_id ?_; first | refine r_var_0 ?_ | refine r_var_1 ?_ | refine r_var_2 ?_ | refine r_var_3 ?_ | refine r_var_4 ?_ | refine r_var_5 ?_ | refine r_var_6 ?_ | refine r_var_7 ?_ | refine r_var_8 ?_ | refine r_var_9 ?_ | refine r_var_10 ?_ | refine r_var_11 ?_ | refine r_var_12 ?_ | refine r_var_13 ?_ | refine r_var_14 ?_ | refine r_var_15 ?_ | refine r_var_16 ?_ | refine r_var_17 ?_ | refine r_var_18 ?_ | refine r_var_19 ?_ | refine r_var_20 ?_ | refine r_var_21 ?_ | refine r_var_22 ?_ | refine r_var_23 ?_ | refine r_var_24 ?_ | refine r_var_25 ?_ | refine r_var_26 ?_ | refine r_var_27 ?_ | refine r_var rfl ?_)
  | (refine s_id ?_; first | refine r_set_0 ?_ | refine r_set_1 ?_ | refine r_set_2 ?_ | refine r_set_3 ?_ | refine r_set_4 ?_ | refine r_set_5 ?_ | refine r_set_6 ?_ | refine r_set_7 ?_ | refine r_set_8 ?_ | refine r_set_9 ?_ | refine r_set_10 ?_ | refine r_set_11 ?_ | refine r_set_12 ?_ | refine r_set_13 ?_ | refine r_set_14 ?_ | refine r_set_15 ?_ | refine r_set_16 ?_ | refine r_set_17 ?_ | refine r_set_18 ?_ | refine r_set_19 ?_ | refine r_set_20 ?_ | refine r_set_21 ?_ | refine r_set_22 ?_ | refine r_set_23 ?_ | refine r_set_24 ?_ | refine r_set_25 ?_ | refine r_set_26 ?_ | refine r_set_27 ?_ | refine r_setU ?_)
  | refine r_c ?_
  | refine r_op ?_
  | refine r_I0 ?_
  | refine r_seq ?_
  | refine r_asg ?_
  | refine r_fld ?_
  | refine r_nil ?_
  | refine r_cons ?_
  | refine r_cb ?_
  | refine r_max ?_
  | refine r_min ?_
  | refine r_ret ?_
  | refine r_met ?_
  | refine r_call ?_
  | refine r_B ?_
  | refine r_test ?_
  | refine r_b' ?_
  | refine r_ifS ?_
  | refine r_if ?_
  | refine r_par ?_
  | refine r_par2 ?_
  | refine r_drop ?_
  | refine r_next ?_
  | refine r_make ?_
  | refine r_sfld ?_
  | refine r_int1 ?_
  | refine r_intb ?_
  | refine r_and ?_
  | refine r_or ?_
  | refine r_not ?_
  | refine r_chain ?_
  | refine r_isN ?_
  | refine r_notN ?_
  | refine r_un ?_
  | refine r_U ?_
  | refine r_par3 ?_
  | refine r_par33 ?_
  | refine r_tup ?_
  | refine r_lst ?_
  | refine r_prop ?_
  | refine r_bm ?_
  | refine r_bm0 ?_
  | refine r_andV ?_
  | refine r_orV ?_
  | refine r_notV ?_
  | refine r_asgG ?_
  | refine r_gname ?_
  | refine r_gcons ?_
  | refine r_gnil ?_
  | refine r_rng1 ?_
  | refine r_rng2 ?_
  | refine r_for ?_
  | refine r_lc1 ?_
  | refine r_lc2 ?_
  | refine r_lc3 ?_
  | refine r_lc ?_
  | refine r_while ?_
  | refine r_rev ?_
  | refine r_sl ?_
  | refine r_augS ?_
  | refine r_iL ?_
  | refine r_iT ?_
  | refine r_iE ?_
  | refine r_ipI ?_
  | refine r_aug rfl ?_
  | refine r_cval ?_
  | refine r_turnN ?_
  | refine iT ?_
  | refine iNT ?_
  | refine iNF ?_
  | refine iOF ?_
  | refine iF ?_
  | refine r_part ?_
  | refine r_pi ?_
  | refine r_gsub ?_
  | refine r_noPart ?_)
local macro_rules | `(tactic| walk_at "rd") => `(tactic| (repeat (first | walk_at "rd1" | walk_at "fact")))
local macro_rules | `(tactic| walk_at "plen") => `(tactic| (repeat (first | decide | refine putF_lt ?_)))
local macro_rules | `(tactic| walk_at "rs") => `(tactic| (repeat ((fail_if_success (with_reducible refine r_stop ?_)); (first | walk_at "rd1" | walk_at "fact"))))
/-! finding a fact in the present heap by the way back; each rule is applied by its conclusion before its premises are sought -/
local macro_rules | `(tactic| walk_at "atx") => `(tactic| fail)
local macro_rules | `(tactic| walk_at "c_h") => `(tactic| first
  | with_reducible assumption
  | ((with_reducible apply hat_s); (with_reducible assumption); walk_at "c_h"))
local macro_rules | `(tactic| walk_at "c_n") => `(tactic| first
  | with_reducible assumption
  | ((with_reducible apply hat_ne); (with_reducible assumption); walk_at "c_h"))
local macro_rules | `(tactic| walk_at "c_o") => `(tactic| first
  | with_reducible assumption
  | with_reducible exact upd_same
  | ((with_reducible apply at_s); (with_reducible assumption); walk_at "c_o")
  | ((with_reducible apply atd_tup); (with_reducible assumption); walk_at "c_h"; walk_at "c_o")
  | ((with_reducible apply atd_ins); (with_reducible assumption); walk_at "c_h"; walk_at "c_o")
  | ((with_reducible apply atd_lst); (with_reducible assumption); walk_at "c_n"; walk_at "c_o")
  | ((with_reducible apply atx_tup); (with_reducible assumption); walk_at "c_o"; walk_at "c_o")
  | ((with_reducible apply atx_ins); (with_reducible assumption); walk_at "c_o"; walk_at "c_o")
  | ((with_reducible apply atx_ne); (with_reducible assumption); (with_reducible assumption); walk_at "c_o"))
local macro_rules | `(tactic| walk_at "c_q") => `(tactic| first
  | with_reducible assumption
  | ((with_reducible apply sqL_s); (with_reducible assumption); walk_at "c_q"))
local macro_rules | `(tactic| walk_at "c_t") => `(tactic| first
  | with_reducible assumption
  | ((with_reducible apply sqT_s); (with_reducible assumption); walk_at "c_t")
  | ((with_reducible apply sqT_d); (with_reducible assumption); walk_at "c_h"; walk_at "c_t")
  | ((with_reducible apply sqT_x); (with_reducible assumption); walk_at "c_o"; walk_at "c_t"))
local macro_rules | `(tactic| walk_at "c_p") => `(tactic| first
  | with_reducible assumption
  | ((with_reducible apply pairs_s); (with_reducible assumption); walk_at "c_p"))
local macro_rules | `(tactic| walk_at "at") => `(tactic| first
  | with_reducible assumption
  | with_reducible exact upd_same
  | walk_at "atx"
  | ((with_reducible apply sqL_at); walk_at "c_o")
  | ((with_reducible apply sqL_s); (with_reducible assumption); walk_at "c_q")
  | ((with_reducible apply sqT_at); walk_at "c_o")
  | ((with_reducible apply sqT_id); walk_at "c_t")
  | ((with_reducible apply hat_id); walk_at "c_h")
  | ((with_reducible apply pairs_id); walk_at "c_p")
  | ((with_reducible apply ne_id); walk_at "c_n")
  | ((with_reducible apply at_id); walk_at "c_o"))
/-! a length, an inequality -/
local macro_rules | `(tactic| walk_at "le") => `(tactic| first | exact Nat.le_of_ble_eq_true rfl | omega | (simp; done) | (simp; omega))
local macro_rules | `(tactic| walk_at "ar") => `(tactic| first | omega | exact ⟨by omega, by omega⟩ | exact .inl ⟨by omega, by omega⟩ | exact .inr ⟨by omega, by omega⟩ | exact .inr (by omega) | exact .inl (by omega) | exact ⟨by omega, by omega, by omega⟩ | decide)
/-! calls of the text's own defs, with letters for what they leave -/
local macro_rules | `(tactic| walk_at "use") => `(tactic| fail)
local macro_rules | `(tactic| walk_at "go1") => `(tactic| first
  | walk_at "rd1"
  | walk_at "fact"
  | walk_at "use"
  | with_reducible refine r_p6 ?_
  | with_reducible refine r_p8 ?_
  | with_reducible refine r_p9 ?_
  | with_reducible refine r_p10 ?_
  | with_reducible refine r_p12 ?_
  | with_reducible refine r_p14 ?_
  | with_reducible refine r_p15 ?_
  | with_reducible refine r_p17 ?_
  | with_reducible refine r_p18 ?_
  | ((with_reducible apply r_I); walk_at "ar")
  | ((with_reducible apply a_neNil); walk_at "at"; intro _ _)
  | ((with_reducible apply a_eqNil); walk_at "at"; intro _ _)
  | ((with_reducible apply a_nwT); walk_at "le"; intro _ _ _ _ _)
  | ((with_reducible apply a_nwL); walk_at "le"; intro _ _ _ _ _)
  | ((with_reducible apply r_ixL (j := 0)); walk_at "at"; rfl; rfl)
  | ((with_reducible apply r_ixL (j := 1)); walk_at "at"; rfl; rfl)
  | ((with_reducible apply r_ixL (j := 2)); walk_at "at"; rfl; rfl)
  | ((with_reducible apply r_ixL (j := 3)); walk_at "at"; rfl; rfl)
  | ((with_reducible apply r_ixT (j := 0)); walk_at "at"; rfl; rfl)
  | ((with_reducible apply r_ixT (j := 1)); walk_at "at"; rfl; rfl)
  | ((with_reducible apply r_ixT (j := 2)); walk_at "at"; rfl; rfl)
  | ((with_reducible apply a_pick2); walk_at "at"; omega; omega; intro _ _)
  | ((with_reducible apply a_pick3); walk_at "at"; omega; omega; intro _ _)
  | ((with_reducible apply a_pick4); walk_at "at"; omega; omega; intro _ _)
  | ((with_reducible apply r_gtup); walk_at "at"; rfl)
  | ((with_reducible apply a_lenLI); walk_at "at")
  | ((with_reducible apply r_lenL); walk_at "at")
  | ((with_reducible apply r_lenT); walk_at "at")
  | ((with_reducible apply r_tyL); walk_at "at")
  | ((with_reducible apply a_cat); walk_at "at"; walk_at "at"; walk_at "le"; intro _ _ _ _ _)
  | ((with_reducible apply a_listL); walk_at "at"; intro _ _ _ _ _)
  | ((with_reducible apply a_tupL); walk_at "at"; intro _ _ _ _ _)
  | ((with_reducible apply a_slL); walk_at "at"; intro _ _ _ _ _)
  | ((with_reducible apply a_revL); walk_at "at"; intro _ _ _ _ _)
  | ((with_reducible apply r_sumT); walk_at "at")
  | ((with_reducible apply r_sumL); walk_at "at")
  | ((with_reducible refine ⟨_, rfl, ?_, ?_, ?_⟩); omega; omega)
  | ((with_reducible refine ⟨_, _, rfl, ⟨?_, ?_, ?_, ?_⟩, ?_⟩); omega; omega; omega; omega)
  | with_reducible refine ⟨_, rfl, ⟨_, by walk_at "at"⟩, ?_⟩)
local macro_rules | `(tactic| walk_at "go") => `(tactic| (repeat (walk_at "go1")))
local macro_rules | `(tactic| walk_at "sames") => `(tactic| first | exact sameR | assumption | ((with_reducible apply sameB); assumption; walk_at "sames"))
local macro_rules | `(tactic| walk_at "sameds") => `(tactic| first | assumption | ((with_reducible apply sameD_of); walk_at "sames"; done) | ((with_reducible apply sameDB); assumption; walk_at "sameds") | ((with_reducible apply sameDS); assumption; walk_at "sameds"))
local macro_rules | `(tactic| walk_at "gs") => `(tactic| (repeat ((fail_if_success (with_reducible refine r_stop ?_)); (walk_at "go1"))))
/-! the second family's drawing list on the way back -/
local macro_rules | `(tactic| walk_at "c_hb") => `(tactic| first
  | with_reducible assumption
  | ((with_reducible apply hatB_s); (with_reducible assumption); walk_at "c_hb"))
local macro_rules | `(tactic| walk_at "c_n") => `(tactic| first
  | with_reducible assumption
  | ((with_reducible apply hatB_ne); (with_reducible assumption); walk_at "c_hb"))
local macro_rules | `(tactic| walk_at "c_o") => `(tactic| first
  | with_reducible assumption
  | ((with_reducible apply atB_tup); (with_reducible assumption); walk_at "c_hb"; walk_at "c_o")
  | ((with_reducible apply atB_ins); (with_reducible assumption); walk_at "c_hb"; walk_at "c_o")
  | ((with_reducible apply atB_lst); (with_reducible assumption); walk_at "c_n"; walk_at "c_o"))
local macro_rules | `(tactic| walk_at "c_t") => `(tactic| first
  | with_reducible assumption
  | ((with_reducible apply sqTB); (with_reducible assumption); walk_at "c_hb"; walk_at "c_t"))
local macro_rules | `(tactic| walk_at "at") => `(tactic| ((with_reducible apply hatB_id); walk_at "c_hb"))
local macro_rules | `(tactic| walk_at "go1") => `(tactic| first
  | with_reducible refine r_co ?_
  | with_reducible refine r_lRg ?_
  | with_reducible refine r_rg2 ?_
  | with_reducible refine r_rg2R ?_
  | with_reducible refine r_coR ?_
  | ((with_reducible apply r_coI); walk_at "at"))
local macro_rules | `(tactic| walk_at "c_d") => `(tactic| first
  | with_reducible assumption
  | ((with_reducible apply bakDB); (with_reducible assumption); walk_at "c_hb"; walk_at "c_d"))
local macro_rules | `(tactic| walk_at "use") => `(tactic| first
  | ((with_reducible apply use_drw); walk_at "at"; omega; omega; intro _ _ _ _ _ _))
local macro_rules | `(tactic| walk_at "c_pri") => `(tactic| first
  | with_reducible assumption
  | ((with_reducible apply priAt_s); (with_reducible assumption); walk_at "c_pri")
  | ((with_reducible apply priAt_d); (with_reducible assumption); walk_at "c_hb"; walk_at "c_pri"))
local macro_rules | `(tactic| walk_at "at") => `(tactic| ((with_reducible apply priAt_id); walk_at "c_pri"))
local macro_rules | `(tactic| walk_at "use") => `(tactic| first
  | ((with_reducible apply use_priCall); walk_at "at")
  | ((with_reducible apply a_coP); walk_at "at"))
local macro_rules | `(tactic| walk_at "use") => `(tactic| ((with_reducible apply use_rpf); walk_at "at"; walk_at "at"))
local macro_rules | `(tactic| walk_at "gf") => `(tactic| (repeat ((fail_if_success (with_reducible refine r_stopF ?_)); (walk_at "go1"))))
theorem ok_InvalidPrices_init {P : Program} {w : World} {K : PySem.W.Frag} {mg : Str → Option Value} {base : Heap} (T : Tx K mg) : XMak P w K mg base 1 "InvalidPrices" ["part"] (spX1 K "InvalidPrices" "part") := by
  refine xmak_of (d := d_InvalidPrices_init) (C := "InvalidPrices") (fn_InvalidPrices_init T) rfl rfl (fox_InvalidPrices T) sc_InvalidPrices_init (fun _ _ _ _ _ _ us ws h1 h2 => match us, ws, h1, h2 with | [_], [_], _, _ => rfl) (fun vs H Q E h => ?_) (fun cdv A outer s H vs Q E hr h => ?_)
  · obtain ⟨x, v1, rfl, ex, k⟩ := h
    rfl
  obtain ⟨x, v1, rfl, ex, k⟩ := h
  refine ⟨_, (pss_cons (ps_expr (pe_linit (pe_glob (v := .ref (He.ga K "LoafError")) rfl (fg_LoafError T) rfl) (fli_LoafError T).1 (fli_LoafError T).2 (pa_cons (pv 0) (pa_cons pe_str pa_nil))))
      (pss_one (ps_ost (pv 0) (pv 1) rfl))), ?_⟩
  try dsimp only [cxOf, Cx.nox, Cx.wish, NdefX.ncx]
  repeat rw [st_cons]
  repeat rw [st_none]
  try rw [st_nn]
  walk_at "rd"
  refine ⟨rfl, ?_⟩
  walk_at "rd"
  refine ⟨_, _, _, rfl, by decide, (fox_InvalidPrices T).t, ex, ?_⟩
  walk_at "rd"
  try dsimp only
  refine r_ost ?_
  walk_at "rd"
  refine ⟨_, _, rfl, (fox_InvalidPrices T).t, fxn_InvalidPrices_part T, .inl ⟨ex, fun d hd hn => ?_⟩⟩
  try dsimp only
  exact k d hd hn
def okP (x : Int) : Bool := decide (0 ≤ x) && decide (x ≤ 1000000)
def priErr (p q r : Int) : Option Nat := if okP p = false then some 0 else if okP q = false then some 1 else if okP r = false then some 2 else none
def partP : Nat → Str
  | 0 => "sale"
  | 1 => "cost"
  | _ => "waste"
theorem okP_of {x : Int} (h : okP x = true) : 0 ≤ x ∧ x ≤ 1000000 := by
  unfold okP at h
  simpa using h
theorem priErr_at {p q r : Int} {i : Nat} (h3 : i < 3) (good : ∀ j, j < i → okP ([p, q, r].getD j 0) = true) (bad : okP ([p, q, r].getD i 0) = false) : priErr p q r = some i := by
  unfold priErr
  match i, h3 with
  | 0, _ =>
    have b : okP p = false := bad
    rw [if_pos b]
  | 1, _ =>
    have g0 : okP p = true := good 0 (by decide)
    have b : okP q = false := bad
    rw [if_neg (by rw [g0]; decide), if_pos b]
  | 2, _ =>
    have g0 : okP p = true := good 0 (by decide)
    have g1 : okP q = true := good 1 (by decide)
    have b : okP r = false := bad
    rw [if_neg (by rw [g0]; decide), if_neg (by rw [g1]; decide), if_pos b]
theorem priErr_no {p q r : Int} (good : ∀ j, j < 3 → okP ([p, q, r].getD j 0) = true) : priErr p q r = none := by
  have g0 : okP p = true := good 0 (by decide)
  have g1 : okP q = true := good 1 (by decide)
  have g2 : okP r = true := good 2 (by decide)
  unfold priErr
  rw [if_neg (by rw [g0]; decide), if_neg (by rw [g1]; decide), if_neg (by rw [g2]; decide)]
def PriE (K : PySem.W.Frag) (E : XK) (H : Hp) (s : Str) : Prop := ∀ (d : Addr) (H' : Hp), Same H H' → H' d = none → E (.ref (He.ga K "InvalidPrices")) (some d) (upd H' d (.xd [("part", .str s)]))
theorem PriE.s {K : PySem.W.Frag} {E : XK} {H H1 : Hp} {s : Str} (h : PriE K E H s) (s1 : Same H H1) : PriE K E H1 s := fun d H' s2 n => h d H' (sameT s1 s2) n
def spPriX (K : PySem.W.Frag) : Sp := fun vs H Q E => ∃ (a dx : Addr) (p q r : Int), vs = [.ref a, .int p, .int q, .int r] ∧ H a = some (.ins (He.ga K "Prices") dx []) ∧ (priErr p q r = none → ∀ H', SameX a H H' → PriAt K H' a p q r → Q .non H') ∧ ∀ i, priErr p q r = some i → PriE K E H (partP i)
theorem ok_Prices_init_x {P : Program} {w : World} {K : PySem.W.Frag} {mg : Str → Option Value} {base : Heap} (T : Tx K mg) : MakX P w K mg base 3 "Prices" (He.ga K "Prices") (spPriX K) := by
  have G_InvalidPrices := ok_InvalidPrices_init (P := P) (w := w) (base := base) T
  refine makX_of (d := d_Prices_init) (C := "Prices") (fn_Prices_init T) rfl rfl (fg_Prices T) (fmk_Prices T) sc_Prices_init (fun _ _ _ _ _ _ us hl => match us, hl with | [_, _, _, _], _ => rfl) (fun vs H Q E h => ?_) (fun cdv A outer s H vs Q E hr h => ?_)
  · obtain ⟨a, dx, p, q, r, rfl, ha, k1, k2⟩ := h
    rfl
  obtain ⟨a, dx, p, q, r, rfl, ha, k1, k2⟩ := h
  refine ⟨_, (pss_cons (ps_for (passes_of rfl) rfl (pi_tup (pe_tup (pa_cons (pe_tup (pa_cons pe_str (pa_cons (pv 1) pa_nil))) (pa_cons (pe_tup (pa_cons pe_str (pa_cons (pv 2) pa_nil))) (pa_cons (pe_tup (pa_cons pe_str (pa_cons (pv 3) pa_nil))) pa_nil))))) (pg_tup (n := 2) (by rfl) (pgs_cons (pg_name (i := 4) sc_Prices_init.nd rfl (Or.inl rfl)) (pgs_cons (pg_name (i := 5) sc_Prices_init.nd rfl (Or.inl rfl)) pgs_nil))) (pss_one (ps_if (pt_not (pt_chain op_le op_le pe_int (pv 5) (C8.pe_gc rfl (gc_int (fi_MAX_PRICE T))))) (pss_one (ps_rzk rfl rfl rfl rfl rfl G_InvalidPrices hr (by decide) (fg_InvalidPrices T) (by rfl) (pk_cons (pv 4) pk_nil))) pss_nil)))
      (pss_one (ps_fld (pv 0) (pe_tup (pa_cons (pv 1) (pa_cons (pv 2) (pa_cons (pv 3) pa_nil)))) rfl))), ?_⟩
  try dsimp only [cxOf, Cx.nox, Cx.wish, NdefX.ncx]
  repeat rw [st_cons]
  repeat rw [st_none]
  try rw [st_nn]
  walk_at "rd"
  refine a_nwT (Nat.le_of_ble_eq_true rfl) fun t1 H1 s1 n1 e1 => ?_
  walk_at "rd"
  refine a_nwT (Nat.le_of_ble_eq_true rfl) fun t2 H2 s2 n2 e2 => ?_
  walk_at "rd"
  refine a_nwT (Nat.le_of_ble_eq_true rfl) fun t3 H3 s3 n3 e3 => ?_
  walk_at "rd"
  refine a_nwT (Nat.le_of_ble_eq_true rfl) fun t4 H4 s4 n4 e4 => ?_
  have s04 : Same H H4 := sameT s1 (sameT s2 (sameT s3 s4))
  walk_at "rd"
  refine ⟨_, rfl, ⟨_, sqT_at e4⟩, ?_⟩
  refine fR_tup (xs := [.ref t1, .ref t2, .ref t3]) (fun i σ H' => (∃ x y, σ = [some (.ref a), some (.int p), some (.int q), some (.int r), x, y]) ∧ Same H4 H' ∧ ∀ j, j < i → okP ([p, q, r].getD j 0) = true) ⟨⟨none, none, rfl⟩, sameR, fun j h => absurd h (Nat.not_lt_zero _)⟩ (fun i σ H' _ z => same_sqT z.2.1 (sqT_at e4)) ?_ ?_
  · rintro i x σ H' hi ⟨⟨y, z, rfl⟩, sm, good⟩
    have it : ∃ (t : Addr) (n : Int), x = .ref t ∧ H' t = some (.tup [.str (partP i), .int n]) ∧ [p, q, r].getD i 0 = n ∧ i < 3 := by
      match i, hi with
      | 0, hi =>
        cases hi
        exact ⟨t1, _, rfl, sm _ _ (s4 _ _ (s3 _ _ (s2 _ _ e1))), rfl, by decide⟩
      | 1, hi =>
        cases hi
        exact ⟨t2, _, rfl, sm _ _ (s4 _ _ (s3 _ _ e2)), rfl, by decide⟩
      | 2, hi =>
        cases hi
        exact ⟨t3, _, rfl, sm _ _ (s4 _ _ e3), rfl, by decide⟩
      | n + 3, hi => cases hi
    obtain ⟨t, n, rfl, ht, en, i3⟩ := it
    have s0' : Same H H' := sameT s04 sm
    have bad : okP n = false → PriE K E H' (partP i) := fun b => (k2 i (priErr_at i3 good (by rw [en]; exact b))).s s0'
    refine r_turnG ?_
    refine r_gtup (sqT_at ht) rfl ?_
    walk_at "rd"
    refine i2 (fun c => ?_) (fun c => ?_)
    · walk_at "rd"
      refine i2n (fun c2 => ?_) (fun c2 => ?_)
      · walk_at "rd"
        refine r_rzk ?_
        walk_at "rd"
        exact a_rzk1 fun d hd => bad (by unfold okP; rw [decide_eq_false (show ¬ n ≤ 1000000 by omega)]; simp) d _ sameR hd
      · walk_at "rd"
        refine ⟨⟨_, _, rfl⟩, sm, fun j hj => ?_⟩
        by_cases e : j < i
        · exact good j e
        · have : j = i := by omega
          subst this
          rw [en]
          unfold okP
          rw [decide_eq_true c, decide_eq_true (show n ≤ 1000000 by omega)]
          rfl
    · walk_at "rd"
      refine r_rzk ?_
      walk_at "rd"
      exact a_rzk1 fun d hd => bad (by unfold okP; rw [decide_eq_false c]; simp) d _ sameR hd
  · rintro σ H' ⟨⟨y, z, rfl⟩, sm, good⟩
    have g0 := okP_of (good 0 (Nat.lt_of_sub_eq_succ rfl))
    have g1 := okP_of (good 1 (Nat.lt_of_sub_eq_succ rfl))
    have g2 := okP_of (good 2 (Nat.lt_of_sub_eq_succ rfl))
    walk_at "rd"
    refine a_nwT (Nat.le_of_ble_eq_true rfl) fun t5 H5 s5 n5 e5 => ?_
    have s05 : Same H H5 := sameT s04 (sameT sm s5)
    have ha5 := s05 _ _ ha
    have ne : t5 ≠ a := fun z => by
      rw [z, ha5] at e5
      cases e5
    walk_at "rd"
    refine r_sfldR ha5 (fc_Prices T) (fna_Prices_table T) (by decide) ?_
    walk_at "rd"
    exact k1 (priErr_no good) _ (SameX.at (SameX.of s05)) ⟨dx, t5, upd_same, by rw [upd_ne ne]; exact e5, g0.1, g0.2, g1.1, g1.2, g2.1, g2.2⟩
theorem use_PriX {K : PySem.W.Frag} {H : Hp} {Q : VK} {E : XK} {p q r : Int} (k1 : priErr p q r = none → ∀ a H', Same H H' → PriAt K H' a p q r → Q (.ref a) H') (k2 : ∀ i, priErr p q r = some i → PriE K E H (partP i)) : MakR (He.ga K "Prices") (spPriX K) E Q [.int p, .int q, .int r] H := by
  intro x dx hx hdx ne
  have s1 : Same H (upd (upd H dx (.own x)) x (.ins (He.ga K "Prices") dx [])) := same_mut (same_mut sameR hdx) hx
  refine ⟨x, dx, p, q, r, rfl, upd_same, fun h H' s pa => ⟨rfl, k1 h x H' (fun b u e => ?_) pa⟩, fun i h => (k2 i h).s s1⟩
  have nb : b ≠ x := ne_of_none e hx
  refine s b u nb ?_
  rw [upd_ne nb, upd_ne (ne_of_none e hdx)]
  exact e
theorem r_izip {K : PySem.W.Frag} {ta : TA} {σ : L2.St} {H : Hp} {R : It → Hp → Prop} (q : ta σ H fun vs H1 => ∃ a b xs ys, vs = [.ref a, .ref b] ∧ ((SqL K H1 a xs ∧ SqL K H1 b ys ∧ R (Itz K a b) H1) ∨ (SqT K H1 a xs ∧ SqT K H1 b ys ∧ R (RZ.ItzT K a b) H1))) : RZ.iZipA K ta σ H R := q
theorem r_gunl {K : PySem.W.Frag} {a : Addr} {xs : List V} {n : Nat} {t : TGs} {σ : L2.St} {H : Hp} {Q : L2.St → Hp → Prop} (h : SqL K H a xs) (l : xs.length = n) (q : t xs σ H Q) : gUnl K n t (.ref a) σ H Q := ⟨a, xs, rfl, h, l, q⟩
/-- the own operators -/
def spPriAdd (K : PySem.W.Frag) : Sp := fun vs H Q E => ∃ (a b : Addr) (p q r p2 q2 r2 : Int), vs = [.ref a, .ref b] ∧ PriAt K H a p q r ∧ PriAt K H b p2 q2 r2 ∧ (priErr (p + p2) (q + q2) (r + r2) = none → ∀ c H', Same H H' → PriAt K H' c (p + p2) (q + q2) (r + r2) → Q (.ref c) H') ∧ ∀ i, priErr (p + p2) (q + q2) (r + r2) = some i → PriE K E H (partP i)
theorem ok_Prices_add_x {P : Program} {w : World} {K : PySem.W.Frag} {mg : Str → Option Value} {base : Heap} (T : Tx K mg) : MetX P w K mg base 5 (He.ga K "Prices") "__add__" (spPriAdd K) := by
  have G_Prices_x := ok_Prices_init_x (P := P) (w := w) (base := base) T
  refine metX_of (d := d_Prices_add) (C := "Prices") (m := "__add__") (fn_Prices_add T) rfl rfl (fc_Prices T) (fme_Prices_add T) sc_Prices_add (fun _ _ _ _ _ _ us hl => match us, hl with | [_, _], _ => rfl) (fun vs H Q E h => ?_) (fun cdv A outer s H vs Q E hr h => ?_)
  · obtain ⟨a, b, p, q, r, p2, q2, r2, rfl, ⟨dx, t, h1, h2, w1⟩, ⟨dx2, t2, h3, h4, w2⟩, k1, k2⟩ := h
    rfl
  obtain ⟨a, b, p, q, r, p2, q2, r2, rfl, ⟨dx, t, h1, h2, w1⟩, ⟨dx2, t2, h3, h4, w2⟩, k1, k2⟩ := h
  refine ⟨_, (pss_cons (ps_asg (pe_lc (own := [("one", 2), ("another", 3)]) (by rfl) sc_Prices_add.nd (RZ.pi_zipA (by rfl) (fn_zip T) (pa_cons (pe_fld (pv 0) rfl) (pa_cons (pe_fld (pv 1) rfl) pa_nil))) (blkOk_by (own := [("one", 2), ("another", 3)]) (N := ["self", "other", "one", "another", "sale", "cost", "waste"]) (sc := defScope s_Prices_add) (by decide +kernel)) (fun _ _ _ _ _ => by exact (pg_tupK (K := K) (n := 2) rfl (by rfl) (pgs_cons (pg_name (i := 2) sc_Prices_add.nd rfl (Or.inl rfl)) (pgs_cons (pg_name (i := 3) sc_Prices_add.nd rfl (Or.inl rfl)) pgs_nil)))) (fun _ _ _ _ _ => pts_nil) (fun _ _ _ _ _ => by exact (pe_op op_add (pv 2) (pv 3)))) (pg_unl (n := 3) (by rfl) (pgs_cons (pg_name (i := 4) sc_Prices_add.nd rfl (Or.inl rfl)) (pgs_cons (pg_name (i := 5) sc_Prices_add.nd rfl (Or.inl rfl)) (pgs_cons (pg_name (i := 6) sc_Prices_add.nd rfl (Or.inl rfl)) pgs_nil)))))
      (pss_one (ps_ret (pe_kX G_Prices_x hr (by decide) (by rfl) (passes_call (takes_of rfl rfl rfl rfl) fun _ _ _ _ h => h) (pa_cons (pv 4) (pa_cons (pv 5) (pa_cons (pv 6) pa_nil))))))), ?_⟩
  try dsimp only [cxOf, Cx.nox, Cx.wish, NdefX.ncx]
  repeat rw [st_cons]
  repeat rw [st_none]
  try rw [st_nn]
  walk_at "rd"
  refine r_izip ?_
  walk_at "rd"
  refine r_fldR h1 (fc_Prices T) (fna_Prices_table T) rfl ?_
  walk_at "rd"
  refine r_fldR h3 (fc_Prices T) (fna_Prices_table T) rfl ?_
  walk_at "rd"
  refine ⟨t, t2, [.int p, .int q, .int r], [.int p2, .int q2, .int r2], rfl, .inr ⟨sqT_at h2, sqT_at h4, ?_⟩⟩
  refine lcI_zipT (xs := [p, q, r]) (ys := [p2, q2, r2]) (fun x y => x + y) (by decide) (sqT_at h2) (sqT_at h4) rfl (by show 3 ≤ 100000; decide) (fun x y H' Z s z => ?_) fun D H1 nD s1 hD => ?_
  · walk_at "rd"
    exact z _ sameR
  walk_at "rd"
  refine r_gunl (xs := [.int (p + p2), .int (q + q2), .int (r + r2)]) (sqL_at hD) rfl ?_
  walk_at "rd"
  exact use_PriX (fun h c H' s pa => k1 h c H' (sameT s1 s) pa) fun i h => (k2 i h).s s1
def spPriMul (K : PySem.W.Frag) : Sp := fun vs H Q E => ∃ (a : Addr) (p q r i : Int), vs = [.ref a, .int i] ∧ PriAt K H a p q r ∧ (priErr (p * i) (q * i) (r * i) = none → ∀ c H', Same H H' → PriAt K H' c (p * i) (q * i) (r * i) → Q (.ref c) H') ∧ ∀ j, priErr (p * i) (q * i) (r * i) = some j → PriE K E H (partP j)
theorem ok_Prices_mul_x {P : Program} {w : World} {K : PySem.W.Frag} {mg : Str → Option Value} {base : Heap} (T : Tx K mg) : MetX P w K mg base 5 (He.ga K "Prices") "__mul__" (spPriMul K) := by
  have G_Prices_x := ok_Prices_init_x (P := P) (w := w) (base := base) T
  refine metX_of (d := d_Prices_mul) (C := "Prices") (m := "__mul__") (fn_Prices_mul T) rfl rfl (fc_Prices T) (fme_Prices_mul T) sc_Prices_mul (fun _ _ _ _ _ _ us hl => match us, hl with | [_, _], _ => rfl) (fun vs H Q E h => ?_) (fun cdv A outer s H vs Q E hr h => ?_)
  · obtain ⟨a, p, q, r, i, rfl, ⟨dx, t, h1, h2, w1⟩, k1, k2⟩ := h
    rfl
  obtain ⟨a, p, q, r, i, rfl, ⟨dx, t, h1, h2, w1⟩, k1, k2⟩ := h
  refine ⟨_, (pss_cons (ps_asg (pe_lc (own := [("price", 2)]) (by rfl) sc_Prices_mul.nd (pi_tup (pe_fld (pv 0) rfl)) (blkOk_by (own := [("price", 2)]) (N := ["self", "times", "price", "sale", "cost", "waste"]) (sc := defScope s_Prices_mul) (by decide +kernel)) (fun _ _ _ _ _ => (pg_name (i := 2) sc_Prices_mul.nd rfl (Or.inl rfl))) (fun _ _ _ _ _ => pts_nil) (fun _ _ _ _ _ => by exact (pe_op op_mul (pv 2) (pv 1)))) (pg_unl (n := 3) (by rfl) (pgs_cons (pg_name (i := 3) sc_Prices_mul.nd rfl (Or.inl rfl)) (pgs_cons (pg_name (i := 4) sc_Prices_mul.nd rfl (Or.inl rfl)) (pgs_cons (pg_name (i := 5) sc_Prices_mul.nd rfl (Or.inl rfl)) pgs_nil)))))
      (pss_one (ps_ret (pe_kX G_Prices_x hr (by decide) (by rfl) (passes_call (takes_of rfl rfl rfl rfl) fun _ _ _ _ h => h) (pa_cons (pv 3) (pa_cons (pv 4) (pa_cons (pv 5) pa_nil))))))), ?_⟩
  try dsimp only [cxOf, Cx.nox, Cx.wish, NdefX.ncx]
  repeat rw [st_cons]
  repeat rw [st_none]
  try rw [st_nn]
  walk_at "rd"
  refine r_fldR h1 (fc_Prices T) (fna_Prices_table T) rfl ?_
  walk_at "rd"
  refine ⟨t, rfl, ⟨_, sqT_at h2⟩, ?_⟩
  refine lcI_tup (xs := [p, q, r]) (fun x => x * i) (sqT_at h2) (by show 3 ≤ 100000; decide) (fun x H' Z hx s z => ?_) fun D H1 nD s1 hD => ?_
  · walk_at "rd"
    refine r_I ?_ ?_
    · left
      rcases List.mem_cons.mp hx with rfl | hx
      · omega
      rcases List.mem_cons.mp hx with rfl | hx
      · omega
      rcases List.mem_cons.mp hx with rfl | hx
      · omega
      cases hx
    walk_at "rd"
    exact z _ sameR
  walk_at "rd"
  refine r_gunl (xs := [.int (p * i), .int (q * i), .int (r * i)]) (sqL_at hD) rfl ?_
  walk_at "rd"
  exact use_PriX (fun h c H' s pa => k1 h c H' (sameT s1 s) pa) fun i h => (k2 i h).s s1
def TupOr (K : PySem.W.Frag) (H : Hp) (b : Addr) (p q r : Int) (c : Bool) : Prop := (∃ p2 q2 r2, PriAt K H b p2 q2 r2 ∧ c = decide ([p, q, r] = [p2, q2, r2])) ∨ ((∃ xs, SqT K H b xs) ∧ c = false)
def spPriEq (K : PySem.W.Frag) : Sp := fun vs H Q _ => ∃ (a b : Addr) (p q r : Int) (c : Bool), vs = [.ref a, .ref b] ∧ PriAt K H a p q r ∧ TupOr K H b p q r c ∧ Q (.bl c) H
theorem ok_Prices_eq {P : Program} {w : World} {K : PySem.W.Frag} {mg : Str → Option Value} {base : Heap} (T : Tx K mg) : C8.Met P w K mg base 1 (He.ga K "Prices") "__eq__" (spPriEq K) [] := by
  refine met_of (d := d_Prices_eq) (C := "Prices") (m := "__eq__") (fn_Prices_eq T) rfl rfl (fc_Prices T) (fme_Prices_eq T) sc_Prices_eq (fun _ _ _ _ _ _ us hl => match us, hl with | [_, _], _ => rfl) (fun vs H Q E h => ?_) (fun cdv A outer s H vs Q E hr h => ?_)
  · obtain ⟨a, b, p, q, r, c, rfl, ⟨dx, t, h1, h2, w1⟩, hb, k⟩ := h
    rfl
  obtain ⟨a, b, p, q, r, c, rfl, ⟨dx, t, h1, h2, w1⟩, hb, k⟩ := h
  refine ⟨_, (pss_one (ps_ret (pe_and (pe_callB call_isi (by rfl) (fn_isinstance T) bb_isinstance (pa_cons (pv 1) (pa_cons (pe_glob (v := .ref (He.ga K "Prices")) rfl (fg_Prices T) rfl) pa_nil))) (pe_one (pe_cmpR (op_eqD hr.units) (pe_fld (pv 0) rfl) (pe_fld (pv 1) rfl) (nomark _)))))), ?_⟩
  try dsimp only [cxOf, Cx.nox, Cx.wish]
  repeat rw [st_cons]
  repeat rw [st_none]
  try rw [st_nn]
  have O := foo_Prices T
  walk_at "rd"
  rcases hb with ⟨p2, q2, r2, ⟨dx2, t2, h3, h4, w2⟩, rfl⟩ | ⟨⟨xs, hx⟩, rfl⟩
  · refine r_isiC (t := .ref (He.ga K "Prices")) (b := true) (.base (.ins h3 (fc_Prices T) O.ca O.cn O.ct O.cm)) (by unfold PySem.W.kitOne; simp) ?_
    walk_at "rd"
    refine r_fldR h1 (fc_Prices T) (fna_Prices_table T) rfl ?_
    walk_at "rd"
    refine r_fldR h3 (fc_Prices T) (fna_Prices_table T) rfl ?_
    walk_at "rd"
    refine r_eqTI (ns := [p, q, r]) (ms := [p2, q2, r2]) (sqT_at h2) (sqT_at h4) ?_
    exact k
  · refine r_isiC (t := .type "tuple") (b := false) (tyx_sqT hx) O.tf ?_
    walk_at "rd"
    exact k

end G57
end
section
set_option maxRecDepth 100000
set_option maxHeartbeats 4000000
namespace G57
open PySem PySem.Spec PyProof.Rows L2
/-! the walk's small steps: "rd" reads on as far as it can -/
local macro_rules | `(tactic| walk_at "fact") => `(tactic| fail)
local macro_rules | `(tactic| walk_at "rd1") => `(tactic| with_reducible first
  | (refine v_id ?_; first | refine r_var_0 ?_ | refine r_var_1 ?_ | refine r_var_2 ?_ | refine r_var_3 ?_ | refine r_var_4 ?_ | refine r_var_5 ?_ | refine r_var_6 ?_ | refine r_var_7 ?_ | refine r_var_8 ?_ | refine r_var_9 ?_ | refine r_var_10 ?_ | refine r_var_11 ?_ | refine r_var_12 ?_ | refine r_var_13 ?_ | refine r_var_14 ?_ | refine r_var_15 ?_ | refine r_var_16 ?_ | refine r_var_17 ?_ | refine r_var_18 ?_ | refine r_var_19 ?_ | refine r_var_20 ?_ | refine r_var_21 ?_ | refine r_var_22 ?_ | refine r_var_23 ?_ | refine r_var_24 ?_ | refine r_var_25 ?_ | refine r_var_26 ?_ | refine r_var_27 ?_ | refine r_var rfl ?_)
  | (refine s_id ?_; first | refine r_set_0 ?_ | refine r_set_1 ?_ | refine r_set_2 ?_ | refine r_set_3 ?_ | refine r_set_4 ?_ | refine r_set_5 ?_ | refine r_set_6 ?_ | refine r_set_7 ?_ | refine r_set_8 ?_ | refine r_set_9 ?_ | refine r_set_10 ?_ | refine r_set_11 ?_ | refine r_set_12 ?_ | refine r_set_13 ?_ | refine r_set_14 ?_ | refine r_set_15 ?_ | refine r_set_16 ?_ | refine r_set_17 ?_ | refine r_set_18 ?_ | refine r_set_19 ?_ | refine r_set_20 ?_ | refine r_set_21 ?_ | refine r_set_22 ?_ | refine r_set_23 ?_ | refine r_set_24 ?_ | refine r_set_25 ?_ | refine r_set_26 ?_ | refine r_set_27 ?_ | refine r_setU ?_)
  | refine r_c ?_
  | refine r_op ?_
  | refine r_I0 ?_
  | refine r_seq ?_
  | refine r_asg ?_
  | refine r_fld ?_
  | refine r_nil ?_
  | refine r_cons ?_
  | refine r_cb ?_
  | refine r_max ?_
  | refine r_min ?_
  | refine r_ret ?_
  | refine r_met ?_
  | refine r_call ?_
  | refine r_B ?_
  | refine r_test ?_
  | refine r_b' ?_
  | refine r_ifS ?_
  | refine r_if ?_
  | refine r_par ?_
  | refine r_par2 ?_
  | refine r_drop ?_
  | refine r_next ?_
  | refine r_make ?_
  | refine r_sfld ?_
  | refine r_int1 ?_
  | refine r_intb ?_
  | refine r_and ?_
  | refine r_or ?_
  | refine r_not ?_
  | refine r_chain ?_
  | refine r_isN ?_
  | refine r_notN ?_
  | refine r_un ?_
  | refine r_U ?_
  | refine r_par3 ?_
  | refine r_par33 ?_
  | refine r_tup ?_
  | refine r_lst ?_
  | refine r_prop ?_
  | refine r_bm ?_
  | refine r_bm0 ?_
  | refine r_andV ?_
  | refine r_orV ?_
  | refine r_notV ?_
  | refine r_asgG ?_
  | refine r_gname ?_
  | refine r_gcons ?_
  | refine r_gnil ?_
  | refine r_rng1 ?_
  | refine r_rng2 ?_
  | refine r_for ?_
  | refine r_lc1 ?_
  | refine r_lc2 ?_
  | refine r_lc3 ?_
  | refine r_lc ?_
  | refine r_while ?_
  | refine r_rev ?_
  | refine r_sl ?_
  | refine r_augS ?_
  | refine r_iL ?_
  | refine r_iT ?_
  | refine r_iE ?_
  | refine r_ipI ?_
  | refine r_aug rfl ?_
  | refine r_cval ?_
  | refine r_turnN ?_
  | refine iT ?_
  | refine iNT ?_
  | refine iNF ?_
  | refine iOF ?_
  | refine iF ?_
  | refine r_part ?_
  | refine r_pi ?_
  | refine r_gsub ?_
  | refine r_noPart ?_)
local macro_rules | `(tactic| walk_at "rd") => `(tactic| (repeat (first | walk_at "rd1" | walk_at "fact")))
local macro_rules | `(tactic| walk_at "plen") => `(tactic| (repeat (first | decide | refine putF_lt ?_)))
local macro_rules | `(tactic| walk_at "rs") => `(tactic| (repeat ((fail_if_success (with_reducible refine r_stop ?_)); (first | walk_at "rd1" | walk_at "fact"))))
def spA (A : Hp → V → V → Prop) : Sp := fun vs H Q _ => ∃ x y, vs = [x, y] ∧ A H x y ∧ ∀ H', Same H H' → Q (.bl true) H'
theorem ok_law_same_0 {P : Program} {w : World} {K : PySem.W.Frag} {mg : Str → Option Value} {base : Heap} (T : Tx K mg) {sp : Sp} (no : ∀ vs H Q E, ¬ sp vs H Q E) : C8.Cal P w K mg base 1 "_law_same" sp [] := cal_of (k := 0) (d := d_law_same) (x := "_law_same") (fn_law_same T) rfl rfl (fg_law_same T) sc_law_same (fun _ _ _ _ _ _ us hl => match us, hl with | [_, _], _ => rfl) (fun vs H Q E h => absurd h (no _ _ _ _)) (fun cdv A outer s H vs Q E hr h => absurd h (no _ _ _ _))
theorem ok_law_same_s {P : Program} {w : World} {K : PySem.W.Frag} {mg : Str → Option Value} {base : Heap} (T : Tx K mg) {A : Hp → V → V → Prop} (mono : ∀ H H' x y, A H x y → Same H H' → A H' x y) {kk : Nat} (hk : 0 ≤ kk) (G_law_same : C8.Cal P w K mg base kk "_law_same" (spA A) []) : C8.Cal P w K mg base (kk + 1) "_law_same" (spA (AlkS K A)) [] := by
  refine cal_of (d := d_law_same) (x := "_law_same") (fn_law_same T) rfl rfl (fg_law_same T) sc_law_same (fun _ _ _ _ _ _ us hl => match us, hl with | [_, _], _ => rfl) (fun vs H Q E h => ?_) (fun cdv A outer s H vs Q E hr h => ?_)
  · obtain ⟨x, y, rfl, hA, k⟩ := h
    rfl
  obtain ⟨x, y, rfl, hA, k⟩ := h
  refine ⟨_, (pss_cons (ps_if (pt_val (pe_callB call_isiT (by rfl) (fn_isinstance T) bb_isinstance (pa_cons (pv 1) (pa_cons (pe_tup (pa_cons (pe_bltn (v := .ty "tuple") rfl (fn_tuple T) bb_tuple rfl) (pa_cons (pe_bltn (v := .ty "list") rfl (fn_list T) bb_list rfl) pa_nil))) pa_nil)))) (pss_cons (ps_if (PW.pt (pw_or (pt_not (pt_val (pe_callB call_isiT (by rfl) (fn_isinstance T) bb_isinstance (pa_cons (pv 0) (pa_cons (pe_tup (pa_cons (pe_bltn (v := .ty "tuple") rfl (fn_tuple T) bb_tuple rfl) (pa_cons (pe_bltn (v := .ty "list") rfl (fn_list T) bb_list rfl) pa_nil))) pa_nil))))) (pw_or1 (pt_cmpR op_ne (pe_callB call_isi (by rfl) (fn_isinstance T) bb_isinstance (pa_cons (pv 0) (pa_cons (pe_bltn (v := .ty "list") rfl (fn_list T) bb_list rfl) pa_nil))) (pe_callB call_isi (by rfl) (fn_isinstance T) bb_isinstance (pa_cons (pv 1) (pa_cons (pe_bltn (v := .ty "list") rfl (fn_list T) bb_list rfl) pa_nil))) (nomark _))))) (pss_one (ps_ret pe_bl)) pss_nil)
      (pss_cons (ps_if (pt_cmpR op_neI (pe_callB cq_len (by rfl) (fn_len T) bb_len (pa_cons (pv 0) pa_nil)) (pe_callB cq_len (by rfl) (fn_len T) bb_len (pa_cons (pv 1) pa_nil)) (nomark _)) (pss_one (ps_ret pe_bl)) pss_nil)
      (pss_one (ps_ret (pe_cmpR (op_eqD hr.units) (pe_lc (own := [("_law_k", 2)]) (by rfl) sc_law_same.nd (pi_range1 (by rfl) (fn_range T) (pa_cons (pe_callB cq_len (by rfl) (fn_len T) bb_len (pa_cons (pv 1) pa_nil)) pa_nil)) (blkOk_by (own := [("_law_k", 2)]) (N := ["_law_result", "_law_expected", "_law_k"]) (sc := defScope s_law_same) (by decide +kernel)) (fun _ _ _ _ _ => (pg_name (i := 2) sc_law_same.nd rfl (Or.inl rfl))) (fun _ _ _ _ _ => by exact (pts_one (pt_not (pt_val (C8.pe_c G_law_same hr (Nat.le_refl _) (by rfl) (pa_cons (pe_ix (ixK (K := K) rfl ix_any) (pv 0) (pv 2) (fun _ _ => rfl)) (pa_cons (pe_ix (ixK (K := K) rfl ix_any) (pv 1) (pv 2) (fun _ _ => rfl)) pa_nil))))))) (fun _ _ _ _ _ => by exact (pv 2))) (pe_lst pa_nil) (nomark _)))))) pss_nil)
      (pss_cons (ps_if (pt_cmpR op_ne (pe_callB call_isi (by rfl) (fn_isinstance T) bb_isinstance (pa_cons (pv 0) (pa_cons (pe_bltn (v := .ty "bool") rfl (fn_bool T) bb_bool rfl) pa_nil))) (pe_callB call_isi (by rfl) (fn_isinstance T) bb_isinstance (pa_cons (pv 1) (pa_cons (pe_bltn (v := .ty "bool") rfl (fn_bool T) bb_bool rfl) pa_nil))) (nomark _)) (pss_one (ps_ret pe_bl)) pss_nil)
      (pss_one (ps_ret (pe_and (pe_cmpR op_eq (pe_callB call_isi (by rfl) (fn_isinstance T) bb_isinstance (pa_cons (pv 0) (pa_cons (pe_bltn (v := .ty "int") rfl (fn_int T) bb_int rfl) pa_nil))) (pe_callB call_isi (by rfl) (fn_isinstance T) bb_isinstance (pa_cons (pv 1) (pa_cons (pe_bltn (v := .ty "int") rfl (fn_int T) bb_int rfl) pa_nil))) (nomark _)) (pe_one (pe_cmpR (op_eqD hr.units) (pv 0) (pv 1) (nomark _)))))))), ?_⟩
  try dsimp only [cxOf, Cx.nox, Cx.wish]
  repeat rw [st_cons]
  repeat rw [st_none]
  try rw [st_nn]
  rcases hA with ⟨rfl, hf⟩ | ⟨a, b, xs, ys, rfl, rfl, hs, hl, hl2, hk2⟩
  · cases hf with
    | int i =>
      walk_at "rd"
      refine r_nwT (Nat.le_of_ble_eq_true rfl) fun p hp => ?_
      have s1 := same_new hp (o := .tup [.ty "tuple", .ty "list"])
      walk_at "rd"
      refine r_isi2 (b1 := false) (b2 := false) upd_same tyx_int (by decide +kernel) (by decide +kernel) ?_
      walk_at "rd"
      refine r_isi (b := false) tyx_int (by decide +kernel) ?_
      walk_at "rd"
      refine r_isi (b := false) tyx_int (by decide +kernel) ?_
      walk_at "rd"
      refine r_neS rfl ?_
      walk_at "rd"
      refine iN' rfl ?_
      walk_at "rd"
      refine r_isi (b := true) tyx_int (by decide +kernel) ?_
      walk_at "rd"
      refine r_isi (b := true) tyx_int (by decide +kernel) ?_
      walk_at "rd"
      refine r_eqS rfl ?_
      walk_at "rd"
      refine iY rfl ?_
      walk_at "rd"
      refine r_eqSelf (.int _) (.int _) (by rfl) (by simp [PyData.eqv]) ?_
      exact k _ s1
    | non =>
      walk_at "rd"
      refine r_nwT (Nat.le_of_ble_eq_true rfl) fun p hp => ?_
      have s1 := same_new hp (o := .tup [.ty "tuple", .ty "list"])
      walk_at "rd"
      refine r_isi2 (b1 := false) (b2 := false) upd_same tyx_non (by decide +kernel) (by decide +kernel) ?_
      walk_at "rd"
      refine r_isi (b := false) tyx_non (by decide +kernel) ?_
      walk_at "rd"
      refine r_isi (b := false) tyx_non (by decide +kernel) ?_
      walk_at "rd"
      refine r_neS rfl ?_
      walk_at "rd"
      refine iN' rfl ?_
      walk_at "rd"
      refine r_isi (b := false) tyx_non (by decide +kernel) ?_
      walk_at "rd"
      refine r_isi (b := false) tyx_non (by decide +kernel) ?_
      walk_at "rd"
      refine r_eqS rfl ?_
      walk_at "rd"
      refine iY rfl ?_
      walk_at "rd"
      refine r_eqSelf .non .non (by rfl) (by simp [PyData.eqv]) ?_
      exact k _ s1
    | bl c =>
      walk_at "rd"
      refine r_nwT (Nat.le_of_ble_eq_true rfl) fun p hp => ?_
      have s1 := same_new hp (o := .tup [.ty "tuple", .ty "list"])
      walk_at "rd"
      refine r_isi2 (b1 := false) (b2 := false) upd_same tyx_bl (by decide +kernel) (by decide +kernel) ?_
      walk_at "rd"
      refine r_isi (b := true) tyx_bl (by decide +kernel) ?_
      walk_at "rd"
      refine r_isi (b := true) tyx_bl (by decide +kernel) ?_
      walk_at "rd"
      refine r_neS rfl ?_
      walk_at "rd"
      refine iN' rfl ?_
      walk_at "rd"
      refine r_isi (b := true) tyx_bl (by decide +kernel) ?_
      walk_at "rd"
      refine r_isi (b := true) tyx_bl (by decide +kernel) ?_
      walk_at "rd"
      refine r_eqS rfl ?_
      walk_at "rd"
      refine iY rfl ?_
      walk_at "rd"
      refine r_eqSelf (.bl _) (.bl _) (by rfl) (by simp [PyData.eqv]) ?_
      exact k _ s1
  · obtain ⟨t, hsa, hsb, b1, b2, kt, kl, kb⟩ : ∃ t, SqN K t H a xs ∧ SqN K t H b ys ∧ ∃ b1 b2, kitB t "tuple" = some b1 ∧ kitB t "list" = some b2 ∧ (b1 || b2) = true := by
      rcases hs with ⟨h1, h2⟩ | ⟨h1, h2⟩
      · exact ⟨"list", .inl ⟨rfl, h1⟩, .inl ⟨rfl, h2⟩, false, true, by decide +kernel, by decide +kernel, rfl⟩
      · exact ⟨"tuple", .inr ⟨rfl, h1⟩, .inr ⟨rfl, h2⟩, true, false, by decide +kernel, by decide +kernel, rfl⟩
    walk_at "rd"
    refine r_nwT (Nat.le_of_ble_eq_true rfl) fun p hp => ?_
    have s1 := same_new hp (o := .tup [.ty "tuple", .ty "list"])
    walk_at "rd"
    refine r_isi2 upd_same (hsb.mono s1).ty kt kl ?_
    rw [kb]
    walk_at "rd"
    refine r_nwT (Nat.le_of_ble_eq_true rfl) fun p2 hp2 => ?_
    have s2 := sameT s1 (same_new hp2 (o := .tup [.ty "tuple", .ty "list"]))
    walk_at "rd"
    refine r_isi2 upd_same (hsa.mono s2).ty kt kl ?_
    rw [kb]
    walk_at "rd"
    refine r_isi (hsa.mono s2).ty kl ?_
    walk_at "rd"
    refine r_isi (hsb.mono s2).ty kl ?_
    walk_at "rd"
    refine r_neS rfl ?_
    walk_at "rd"
    refine iN' rfl ?_
    walk_at "rd"
    refine r_lenN (hsa.mono s2) ?_
    walk_at "rd"
    refine r_lenN (hsb.mono s2) ?_
    walk_at "rd"
    refine iN' (by rw [hl]) ?_
    walk_at "rd"
    refine r_lenN (hsb.mono s2) ?_
    walk_at "rd"
    generalize upd (upd H p (.tup [.ty "tuple", .ty "list"])) p2 (.tup [.ty "tuple", .ty "list"]) = H2 at s2 ⊢
    refine ⟨_, rfl, by omega, by omega, fun D hD => ?_⟩
    refine lc_range (fun i H' => Same H2 H' ∧ H' D = some (.lst [])) ⟨same_new hD, upd_same⟩ ?_ ?_
    · rintro i H' hi ⟨s3, e3⟩
      refine ⟨rfl, ?_⟩
      have s03 := sameT s2 s3
      have ilt : i < ys.length := by omega
      walk_at "rd"
      refine r_ixN (hsa.mono s03) (Int.zero_add _) (List.getElem?_eq_getElem (show i < xs.length by omega)) ?_
      walk_at "rd"
      refine r_ixN (hsb.mono s03) (Int.zero_add _) (List.getElem?_eq_getElem ilt) ?_
      walk_at "rd"
      refine ⟨_, _, rfl, mono _ _ _ _ (hk2 i _ _ (List.getElem?_eq_getElem (show i < xs.length by omega)) (List.getElem?_eq_getElem ilt)) s03, fun H4 s4 => ?_⟩
      walk_at "rd"
      exact ⟨sameT s3 s4, s4 _ _ e3⟩
    · rintro H' ⟨s3, e3⟩
      walk_at "rd"
      refine r_nwL (Nat.le_of_ble_eq_true rfl) fun q hq => ?_
      refine r_eqSelf (d := .list []) (.lst (sqL_at ((same_new hq) _ _ e3)) .nil) (.lst (sqL_at upd_same) .nil) (by rfl) (by simp [PyData.eqv, PyData.eqvAll]) ?_
      exact k _ (sameT (sameT s2 s3) (same_new hq))
theorem ok_law_same {P : Program} {w : World} {K : PySem.W.Frag} {mg : Str → Option Value} {base : Heap} (T : Tx K mg) : ∀ n : Nat, C8.Cal P w K mg base (n + 2) "_law_same" (spA (AlkD K n)) []
  | 0 => ok_law_same_s T (A := fun _ _ _ => False) (fun _ _ _ _ z _ => z) (Nat.zero_le _) (ok_law_same_0 T fun vs H Q E h => by
    obtain ⟨_, _, _, z, _⟩ := h
    exact z)
  | n + 1 => ok_law_same_s T (A := AlkD K n) (AlkD.mono n) (Nat.zero_le _) (ok_law_same T n)
theorem use_samT {K : PySem.W.Frag} {H : Hp} {Q : VK} {E : XK} {n : Nat} {a b : Addr} {xs ys : List V} (h : SqT K H a xs) (k : SqT K H b ys) (l : xs.length ≤ 100000) (t : AlkL K n H xs ys) (q : ∀ H', Same H H' → Q (.bl true) H') : spA (AlkD K (n + 1)) [.ref a, .ref b] H Q E := ⟨_, _, rfl, alk_tup h k l t, q⟩

end G57
end
section
set_option maxRecDepth 100000
set_option maxHeartbeats 4000000
namespace G57
open PySem PySem.Spec PyProof.Rows L2
/-! the walk's small steps: "rd" reads on as far as it can -/
local macro_rules | `(tactic| walk_at "fact") => `(tactic| fail)
local macro_rules | `(tactic| walk_at "rd1") => `(tactic| with_reducible first
  | (refine v_id ?_; first | refine r_var_0 ?_ | refine r_var_1 ?_ | refine r_var_2 ?_ | refine r_var_3 ?_ | refine r_var_4 ?_ | refine r_var_5 ?_ | refine r_var_6 ?_ | refine r_var_7 ?_ | refine r_var_8 ?_ | refine r_var_9 ?_ | refine r_var_10 ?_ | refine r_var_11 ?_ | refine r_var_12 ?_ | refine r_var_13 ?_ | refine r_var_14 ?_ | refine r_var_15 ?_ | refine r_var_16 ?_ | refine r_var_17 ?_ | refine r_var_18 ?_ | refine r_var_19 ?_ | refine r_var_20 ?_ | refine r_var_21 ?_ | refine r_var_22 ?_ | refine r_var_23 ?_ | refine r_var_24 ?_ | refine r_var_25 ?_ | refine r_var_26 ?_ | refine r_var_27 ?_ | refine r_var rfl ?_)
  | (refine s_id ?_; first | refine r_set_0 ?_ | refine r_set_1 ?_ | refine r_set_2 ?_ | refine r_set_3 ?_ | refine r_set_4 ?_ | refine r_set_5 ?_ | refine r_set_6 ?_ | refine r_set_7 ?_ | refine r_set_8 ?_ | refine r_set_9 ?_ | refine r_set_10 ?_ | refine r_set_11 ?_ | refine r_set_12 ?_ | refine r_set_13 ?_ | refine r_set_14 ?_ | refine r_set_15 ?_ | refine r_set_16 ?_ | refine r_set_17 ?_ | refine r_set_18 ?_ | refine r_set_19 ?_ | refine r_set_20 ?_ | refine r_set_21 ?_ | refine r_set_22 ?_ | refine r_set_23 ?_ | refine r_set_24 ?_ | refine r_set_25 ?_ | refine r_set_26 ?_ | refine r_set_27 ?_ | refine r_setU ?_)
  | refine r_c ?_
  | refine r_op ?_
  | refine r_I0 ?_
  | refine r_seq ?_
  | refine r_asg ?_
  | refine r_fld ?_
  | refine r_nil ?_
  | refine r_cons ?_
  | refine r_cb ?_
  | refine r_max ?_
  | refine r_min ?_
  | refine r_ret ?_
  | refine r_met ?_
  | refine r_call ?_
  | refine r_B ?_
  | refine r_test ?_
  | refine r_b' ?_
  | refine r_ifS ?_
  | refine r_if ?_
  | refine r_par ?_
  | refine r_par2 ?_
  | refine r_drop ?_
  | refine r_next ?_
  | refine r_make ?_
  | refine r_sfld ?_
  | refine r_int1 ?_
  | refine r_intb ?_
  | refine r_and ?_
  | refine r_or ?_
  | refine r_not ?_
  | refine r_chain ?_
  | refine r_isN ?_
  | refine r_notN ?_
  | refine r_un ?_
  | refine r_U ?_
  | refine r_par3 ?_
  | refine r_par33 ?_
  | refine r_tup ?_
  | refine r_lst ?_
  | refine r_prop ?_
  | refine r_bm ?_
  | refine r_bm0 ?_
  | refine r_andV ?_
  | refine r_orV ?_
  | refine r_notV ?_
  | refine r_asgG ?_
  | refine r_gname ?_
  | refine r_gcons ?_
  | refine r_gnil ?_
  | refine r_rng1 ?_
  | refine r_rng2 ?_
  | refine r_for ?_
  | refine r_lc1 ?_
  | refine r_lc2 ?_
  | refine r_lc3 ?_
  | refine r_lc ?_
  | refine r_while ?_
  | refine r_rev ?_
  | refine r_sl ?_
  | refine r_augS ?_
  | refine r_iL ?_
  | refine r_iT ?_
  | refine r_iE ?_
  | refine r_ipI ?_
  | refine r_aug rfl ?_
  | refine r_cval ?_
  | refine r_turnN ?_
  | refine iT ?_
  | refine iNT ?_
  | refine iNF ?_
  | refine iOF ?_
  | refine iF ?_
  | refine r_part ?_
  | refine r_pi ?_
  | refine r_gsub ?_
  | refine r_noPart ?_)
local macro_rules | `(tactic| walk_at "rd") => `(tactic| (repeat (first | walk_at "rd1" | walk_at "fact")))
local macro_rules | `(tactic| walk_at "plen") => `(tactic| (repeat (first | decide | refine putF_lt ?_)))
local macro_rules | `(tactic| walk_at "rs") => `(tactic| (repeat ((fail_if_success (with_reducible refine r_stop ?_)); (first | walk_at "rd1" | walk_at "fact"))))
/-! finding a fact in the present heap by the way back; each rule is applied by its conclusion before its premises are sought -/
local macro_rules | `(tactic| walk_at "atx") => `(tactic| fail)
local macro_rules | `(tactic| walk_at "c_h") => `(tactic| first
  | with_reducible assumption
  | ((with_reducible apply hat_s); (with_reducible assumption); walk_at "c_h"))
local macro_rules | `(tactic| walk_at "c_n") => `(tactic| first
  | with_reducible assumption
  | ((with_reducible apply hat_ne); (with_reducible assumption); walk_at "c_h"))
local macro_rules | `(tactic| walk_at "c_o") => `(tactic| first
  | with_reducible assumption
  | with_reducible exact upd_same
  | ((with_reducible apply at_s); (with_reducible assumption); walk_at "c_o")
  | ((with_reducible apply atd_tup); (with_reducible assumption); walk_at "c_h"; walk_at "c_o")
  | ((with_reducible apply atd_ins); (with_reducible assumption); walk_at "c_h"; walk_at "c_o")
  | ((with_reducible apply atd_lst); (with_reducible assumption); walk_at "c_n"; walk_at "c_o")
  | ((with_reducible apply atx_tup); (with_reducible assumption); walk_at "c_o"; walk_at "c_o")
  | ((with_reducible apply atx_ins); (with_reducible assumption); walk_at "c_o"; walk_at "c_o")
  | ((with_reducible apply atx_ne); (with_reducible assumption); (with_reducible assumption); walk_at "c_o"))
local macro_rules | `(tactic| walk_at "c_q") => `(tactic| first
  | with_reducible assumption
  | ((with_reducible apply sqL_s); (with_reducible assumption); walk_at "c_q"))
local macro_rules | `(tactic| walk_at "c_t") => `(tactic| first
  | with_reducible assumption
  | ((with_reducible apply sqT_s); (with_reducible assumption); walk_at "c_t")
  | ((with_reducible apply sqT_d); (with_reducible assumption); walk_at "c_h"; walk_at "c_t")
  | ((with_reducible apply sqT_x); (with_reducible assumption); walk_at "c_o"; walk_at "c_t"))
local macro_rules | `(tactic| walk_at "c_p") => `(tactic| first
  | with_reducible assumption
  | ((with_reducible apply pairs_s); (with_reducible assumption); walk_at "c_p"))
local macro_rules | `(tactic| walk_at "at") => `(tactic| first
  | with_reducible assumption
  | with_reducible exact upd_same
  | walk_at "atx"
  | ((with_reducible apply sqL_at); walk_at "c_o")
  | ((with_reducible apply sqL_s); (with_reducible assumption); walk_at "c_q")
  | ((with_reducible apply sqT_at); walk_at "c_o")
  | ((with_reducible apply sqT_id); walk_at "c_t")
  | ((with_reducible apply hat_id); walk_at "c_h")
  | ((with_reducible apply pairs_id); walk_at "c_p")
  | ((with_reducible apply ne_id); walk_at "c_n")
  | ((with_reducible apply at_id); walk_at "c_o"))
/-! a length, an inequality -/
local macro_rules | `(tactic| walk_at "le") => `(tactic| first | exact Nat.le_of_ble_eq_true rfl | omega | (simp; done) | (simp; omega))
local macro_rules | `(tactic| walk_at "ar") => `(tactic| first | omega | exact ⟨by omega, by omega⟩ | exact .inl ⟨by omega, by omega⟩ | exact .inr ⟨by omega, by omega⟩ | exact .inr (by omega) | exact .inl (by omega) | exact ⟨by omega, by omega, by omega⟩ | decide)
/-! calls of the text's own defs, with letters for what they leave -/
local macro_rules | `(tactic| walk_at "use") => `(tactic| fail)
local macro_rules | `(tactic| walk_at "go1") => `(tactic| first
  | walk_at "rd1"
  | walk_at "fact"
  | walk_at "use"
  | with_reducible refine r_p6 ?_
  | with_reducible refine r_p8 ?_
  | with_reducible refine r_p9 ?_
  | with_reducible refine r_p10 ?_
  | with_reducible refine r_p12 ?_
  | with_reducible refine r_p14 ?_
  | with_reducible refine r_p15 ?_
  | with_reducible refine r_p17 ?_
  | with_reducible refine r_p18 ?_
  | ((with_reducible apply r_I); walk_at "ar")
  | ((with_reducible apply a_neNil); walk_at "at"; intro _ _)
  | ((with_reducible apply a_eqNil); walk_at "at"; intro _ _)
  | ((with_reducible apply a_nwT); walk_at "le"; intro _ _ _ _ _)
  | ((with_reducible apply a_nwL); walk_at "le"; intro _ _ _ _ _)
  | ((with_reducible apply r_ixL (j := 0)); walk_at "at"; rfl; rfl)
  | ((with_reducible apply r_ixL (j := 1)); walk_at "at"; rfl; rfl)
  | ((with_reducible apply r_ixL (j := 2)); walk_at "at"; rfl; rfl)
  | ((with_reducible apply r_ixL (j := 3)); walk_at "at"; rfl; rfl)
  | ((with_reducible apply r_ixT (j := 0)); walk_at "at"; rfl; rfl)
  | ((with_reducible apply r_ixT (j := 1)); walk_at "at"; rfl; rfl)
  | ((with_reducible apply r_ixT (j := 2)); walk_at "at"; rfl; rfl)
  | ((with_reducible apply a_pick2); walk_at "at"; omega; omega; intro _ _)
  | ((with_reducible apply a_pick3); walk_at "at"; omega; omega; intro _ _)
  | ((with_reducible apply a_pick4); walk_at "at"; omega; omega; intro _ _)
  | ((with_reducible apply r_gtup); walk_at "at"; rfl)
  | ((with_reducible apply a_lenLI); walk_at "at")
  | ((with_reducible apply r_lenL); walk_at "at")
  | ((with_reducible apply r_lenT); walk_at "at")
  | ((with_reducible apply r_tyL); walk_at "at")
  | ((with_reducible apply a_cat); walk_at "at"; walk_at "at"; walk_at "le"; intro _ _ _ _ _)
  | ((with_reducible apply a_listL); walk_at "at"; intro _ _ _ _ _)
  | ((with_reducible apply a_tupL); walk_at "at"; intro _ _ _ _ _)
  | ((with_reducible apply a_slL); walk_at "at"; intro _ _ _ _ _)
  | ((with_reducible apply a_revL); walk_at "at"; intro _ _ _ _ _)
  | ((with_reducible apply r_sumT); walk_at "at")
  | ((with_reducible apply r_sumL); walk_at "at")
  | ((with_reducible refine ⟨_, rfl, ?_, ?_, ?_⟩); omega; omega)
  | ((with_reducible refine ⟨_, _, rfl, ⟨?_, ?_, ?_, ?_⟩, ?_⟩); omega; omega; omega; omega)
  | with_reducible refine ⟨_, rfl, ⟨_, by walk_at "at"⟩, ?_⟩)
local macro_rules | `(tactic| walk_at "go") => `(tactic| (repeat (walk_at "go1")))
local macro_rules | `(tactic| walk_at "sames") => `(tactic| first | exact sameR | assumption | ((with_reducible apply sameB); assumption; walk_at "sames"))
local macro_rules | `(tactic| walk_at "sameds") => `(tactic| first | assumption | ((with_reducible apply sameD_of); walk_at "sames"; done) | ((with_reducible apply sameDB); assumption; walk_at "sameds") | ((with_reducible apply sameDS); assumption; walk_at "sameds"))
local macro_rules | `(tactic| walk_at "gs") => `(tactic| (repeat ((fail_if_success (with_reducible refine r_stop ?_)); (walk_at "go1"))))
/-! the second family's drawing list on the way back -/
local macro_rules | `(tactic| walk_at "c_hb") => `(tactic| first
  | with_reducible assumption
  | ((with_reducible apply hatB_s); (with_reducible assumption); walk_at "c_hb"))
local macro_rules | `(tactic| walk_at "c_n") => `(tactic| first
  | with_reducible assumption
  | ((with_reducible apply hatB_ne); (with_reducible assumption); walk_at "c_hb"))
local macro_rules | `(tactic| walk_at "c_o") => `(tactic| first
  | with_reducible assumption
  | ((with_reducible apply atB_tup); (with_reducible assumption); walk_at "c_hb"; walk_at "c_o")
  | ((with_reducible apply atB_ins); (with_reducible assumption); walk_at "c_hb"; walk_at "c_o")
  | ((with_reducible apply atB_lst); (with_reducible assumption); walk_at "c_n"; walk_at "c_o"))
local macro_rules | `(tactic| walk_at "c_t") => `(tactic| first
  | with_reducible assumption
  | ((with_reducible apply sqTB); (with_reducible assumption); walk_at "c_hb"; walk_at "c_t"))
local macro_rules | `(tactic| walk_at "at") => `(tactic| ((with_reducible apply hatB_id); walk_at "c_hb"))
local macro_rules | `(tactic| walk_at "go1") => `(tactic| first
  | with_reducible refine r_co ?_
  | with_reducible refine r_lRg ?_
  | with_reducible refine r_rg2 ?_
  | with_reducible refine r_rg2R ?_
  | with_reducible refine r_coR ?_
  | ((with_reducible apply r_coI); walk_at "at"))
local macro_rules | `(tactic| walk_at "c_d") => `(tactic| first
  | with_reducible assumption
  | ((with_reducible apply bakDB); (with_reducible assumption); walk_at "c_hb"; walk_at "c_d"))
local macro_rules | `(tactic| walk_at "use") => `(tactic| first
  | ((with_reducible apply use_drw); walk_at "at"; omega; omega; intro _ _ _ _ _ _))
local macro_rules | `(tactic| walk_at "c_pri") => `(tactic| first
  | with_reducible assumption
  | ((with_reducible apply priAt_s); (with_reducible assumption); walk_at "c_pri")
  | ((with_reducible apply priAt_d); (with_reducible assumption); walk_at "c_hb"; walk_at "c_pri"))
local macro_rules | `(tactic| walk_at "at") => `(tactic| ((with_reducible apply priAt_id); walk_at "c_pri"))
local macro_rules | `(tactic| walk_at "use") => `(tactic| first
  | ((with_reducible apply use_priCall); walk_at "at")
  | ((with_reducible apply a_coP); walk_at "at"))
local macro_rules | `(tactic| walk_at "use") => `(tactic| ((with_reducible apply use_rpf); walk_at "at"; walk_at "at"))
local macro_rules | `(tactic| walk_at "gf") => `(tactic| (repeat ((fail_if_success (with_reducible refine r_stopF ?_)); (walk_at "go1"))))
open LamX NdefX
theorem shaped_pri {i : Nat} : SeqAt.shaped (PyData.tuple [PyData.str "InvalidPrices", PyData.str (partP i)]) = true := by
  match i with
  | 0 => simp [SeqAt.shaped, PyData.canLay0, PyData.canLayAll0, PyData.depth, PyData.depthAll, partP]; decide +kernel
  | 1 => simp [SeqAt.shaped, PyData.canLay0, PyData.canLayAll0, PyData.depth, PyData.depthAll, partP]; decide +kernel
  | n + 2 => simp [SeqAt.shaped, PyData.canLay0, PyData.canLayAll0, PyData.depth, PyData.depthAll, partP]; decide +kernel
abbrev erV (i : Nat) : List V := [.str "InvalidPrices", .str (partP i)]
def spFlt (K : PySem.W.Frag) : Sp := fun vs H Q _ => ∃ (a : Addr) (p q r : Int), vs = [.ref a] ∧ SqL K H a [.int p, .int q, .int r] ∧ (priErr p q r = none → ∀ H', Same H H' → Q .non H') ∧ ∀ i, priErr p q r = some i → ∀ t H', Same H H' → H' t = some (.tup (erV i)) → Q (.ref t) H'
theorem ok_law_fault {P : Program} {w : World} {K : PySem.W.Frag} {mg : Str → Option Value} {base : Heap} (T : Tx K mg) : C8.Cal P w K mg base 1 "_law_fault" (spFlt K) [] := by
  refine cal_of (d := d_law_fault) (x := "_law_fault") (fn_law_fault T) rfl rfl (fg_law_fault T) sc_law_fault (fun _ _ _ _ _ _ us hl => match us, hl with | [_], _ => rfl) (fun vs H Q E h => ?_) (fun cdv A outer s H vs Q E hr h => ?_)
  · obtain ⟨a, p, q, r, rfl, ha, k1, k2⟩ := h
    rfl
  obtain ⟨a, p, q, r, rfl, ha, k1, k2⟩ := h
  refine ⟨_, (pss_cons (ps_for PassesOwn.never rfl (pi_range1 (by rfl) (fn_range T) (pa_cons pe_int pa_nil)) (pg_name (i := 1) sc_law_fault.nd rfl (Or.inl rfl)) (pss_one (ps_if (pt_not (pt_chain op_le op_le pe_int (pe_ix ix_list (pv 0) (pv 1) (fun _ _ => rfl)) (pe_op op_pow pe_int pe_int))) (pss_one (ps_ret (pe_tup (pa_cons pe_str (pa_cons (pe_ix ix_list (pe_lst (pa_cons pe_str (pa_cons pe_str (pa_cons pe_str pa_nil)))) (pv 1) (fun _ _ => rfl)) pa_nil))))) pss_nil)))
      (pss_one (ps_ret pe_non))), ?_⟩
  try dsimp only [cxOf, Cx.nox, Cx.wish]
  repeat rw [st_cons]
  repeat rw [st_none]
  try rw [st_nn]
  walk_at "go"
  refine fR_range (n := 3) (fun i σ H' => (∃ x, σ = [some (.ref a), x]) ∧ Same H H' ∧ ∀ j, j < i → okP ([p, q, r].getD j 0) = true) ⟨⟨none, rfl⟩, sameR, fun j h => absurd h (Nat.not_lt_zero _)⟩ ?_ ?_
  · rintro i σ H' hi ⟨⟨x, rfl⟩, sm, good⟩
    obtain ⟨n, hn, en⟩ : ∃ n, [V.int p, V.int q, V.int r][i]? = some (.int n) ∧ [p, q, r].getD i 0 = n := by
      match i, hi with
      | 0, _ => exact ⟨p, rfl, rfl⟩
      | 1, _ => exact ⟨q, rfl, rfl⟩
      | 2, _ => exact ⟨r, rfl, rfl⟩
    have hs : [V.str "sale", V.str "cost", V.str "waste"][i]? = some (.str (partP i)) := by
      match i, hi with
      | 0, _ => rfl
      | 1, _ => rfl
      | 2, _ => rfl
    have bad : okP n = false → priErr p q r = some i := fun b => priErr_at hi good (by rw [en]; exact b)
    have sl := same_sqL sm ha
    walk_at "rd"
    refine r_ixL sl (Int.zero_add _) hn ?_
    walk_at "gs"
    refine i2 (fun c => ?_) (fun c => ?_)
    · walk_at "gs"
      refine i2n (fun c2 => ?_) (fun c2 => ?_)
      · walk_at "go"
        rename_i t1 H1 s1 n1 e1
        refine r_ixL (sqL_at e1) (Int.zero_add _) hs ?_
        walk_at "go"
        exact k2 i (bad (by unfold okP; rw [decide_eq_false (show ¬ n ≤ 1000000 by omega)]; simp)) _ _ (by walk_at "sames") (by assumption)
      · walk_at "go"
        refine ⟨⟨_, rfl⟩, sm, fun j hj => ?_⟩
        by_cases e : j < i
        · exact good j e
        · have : j = i := by omega
          subst this
          rw [en]
          unfold okP
          rw [decide_eq_true c, decide_eq_true (show n ≤ 1000000 by omega)]
          rfl
    · walk_at "go"
      rename_i t1 H1 s1 n1 e1
      refine r_ixL (sqL_at e1) (Int.zero_add _) hs ?_
      walk_at "go"
      exact k2 i (bad (by unfold okP; rw [decide_eq_false c]; simp)) _ _ (by walk_at "sames") (by assumption)
  · rintro σ H' ⟨⟨x, rfl⟩, sm, good⟩
    walk_at "go"
    exact k1 (priErr_no fun j hj => good j hj) _ sm
theorem use_flt {K : PySem.W.Frag} {H : Hp} {Q : VK} {E : XK} {a : Addr} {p q r : Int} (ha : SqL K H a [.int p, .int q, .int r]) (k1 : priErr p q r = none → ∀ H', Same H H' → Q .non H') (k2 : ∀ i, priErr p q r = some i → ∀ t H', Same H H' → H' t = some (.tup (erV i)) → Q (.ref t) H') : spFlt K [.ref a] H Q E := ⟨a, p, q, r, rfl, ha, k1, k2⟩
def spCts (K : PySem.W.Frag) : Sp := fun vs H Q _ => ∃ (a : Addr) (p q r : Int), vs = [.ref a] ∧ PriAt K H a p q r ∧ ∀ t, H t = some (.tup [.int p, .int q, .int r]) → Q (.ref t) H
theorem ok_Prices_cents {P : Program} {w : World} {K : PySem.W.Frag} {mg : Str → Option Value} {base : Heap} (T : Tx K mg) : Prp P w K mg base 1 (He.ga K "Prices") "cents" (spCts K) := by
  refine prp_of (d := d_Prices_cents) (C := "Prices") (f := "cents") (fn_Prices_cents T) rfl rfl (fc_Prices T) (fpr_Prices_cents T) sc_Prices_cents (fun _ _ _ _ _ _ us hl => match us, hl with | [_], _ => rfl) (fun vs H Q E h => ?_) (fun cdv A outer s H vs Q E hr h => ?_)
  · obtain ⟨a, p, q, r, rfl, ⟨dx, t, h1, h2, w1⟩, k⟩ := h
    rfl
  obtain ⟨a, p, q, r, rfl, ⟨dx, t, h1, h2, w1⟩, k⟩ := h
  refine ⟨_, (pss_one (ps_ret (pe_fld (pv 0) rfl))), ?_⟩
  try dsimp only [cxOf, Cx.nox, Cx.wish]
  repeat rw [st_cons]
  repeat rw [st_none]
  try rw [st_nn]
  walk_at "rd"
  refine r_fldR h1 (fc_Prices T) (fna_Prices_table T) rfl ?_
  exact k t h2
/-- what an outcome must be -/
def AgrAt (K : PySem.W.Frag) (H : Hp) (v : Addr) (p q r : Int) : Prop := (priErr p q r = none ∧ PriAt K H v p q r) ∨ ∃ i, priErr p q r = some i ∧ H v = some (.tup (erV i))
theorem agrAt_s {K : PySem.W.Frag} {H H' : Hp} {v : Addr} {p q r : Int} (s : Same H H') (h : AgrAt K H v p q r) : AgrAt K H' v p q r := h.elim (fun ⟨a, b⟩ => .inl ⟨a, priAt_s s b⟩) fun ⟨i, a, b⟩ => .inr ⟨i, a, s _ _ b⟩
def spAgr (K : PySem.W.Frag) : Sp := fun vs H Q _ => ∃ (v a : Addr) (p q r : Int), vs = [.ref v, .ref a] ∧ SqL K H a [.int p, .int q, .int r] ∧ AgrAt K H v p q r ∧ ∀ H', Same H H' → Q (.bl true) H'
theorem ok_law_agrees {P : Program} {w : World} {K : PySem.W.Frag} {mg : Str → Option Value} {base : Heap} (T : Tx K mg) : C8.Cal P w K mg base 4 "_law_agrees" (spAgr K) [] := by
  have G_law_fault := ok_law_fault (P := P) (w := w) (base := base) T
  have G_law_same := ok_law_same (P := P) (w := w) (base := base) T 1
  have G_Prices_cents := ok_Prices_cents (P := P) (w := w) (base := base) T
  refine cal_of (d := d_law_agrees) (x := "_law_agrees") (fn_law_agrees T) rfl rfl (fg_law_agrees T) sc_law_agrees (fun _ _ _ _ _ _ us hl => match us, hl with | [_, _], _ => rfl) (fun vs H Q E h => ?_) (fun cdv A outer s H vs Q E hr h => ?_)
  · obtain ⟨v, a, p, q, r, rfl, ha, hv, k⟩ := h
    rfl
  obtain ⟨v, a, p, q, r, rfl, ha, hv, k⟩ := h
  refine ⟨_, (pss_cons (ps_set (i := 2) sc_law_agrees.nd rfl (Or.inl rfl) (C8.pe_c G_law_fault hr (by decide) (by rfl) (pa_cons (pv 1) pa_nil)))
      (pss_cons (ps_if (pt_cmp (pc_notN (pv 2))) (pss_one (ps_ret (pe_cmpR (op_eqD hr.units) (pv 0) (pv 2) (nomark _)))) pss_nil)
      (pss_one (ps_ret (pe_and (pe_not (pe_callB call_isi (by rfl) (fn_isinstance T) bb_isinstance (pa_cons (pv 0) (pa_cons (pe_bltn (v := .ty "tuple") rfl (fn_tuple T) bb_tuple rfl) pa_nil)))) (pe_one (C8.pe_c G_law_same hr (by decide) (by rfl) (pa_cons (pe_pr G_Prices_cents hr (by decide) (pv 0)) (pa_cons (pe_callTy cq_tupL (by rfl) (fn_tuple T) bb_tuple (pa_cons (pv 1) pa_nil)) pa_nil))))))))), ?_⟩
  try dsimp only [cxOf, Cx.nox, Cx.wish]
  repeat rw [st_cons]
  repeat rw [st_none]
  try rw [st_nn]
  have O := foo_Prices T
  walk_at "rd"
  rcases hv with ⟨e0, pa⟩ | ⟨i, e0, ht⟩
  · refine use_flt ha (fun _ H1 s1 => ?_) (fun i e => by rw [e0] at e; cases e)
    have pa1 := priAt_s s1 pa
    obtain ⟨dx, t, h1, h2, w1⟩ := id pa1
    walk_at "go"
    refine iN' rfl ?_
    walk_at "go"
    refine r_isiT2 (t := .ref (He.ga K "Prices")) (b := false) (.base (.ins h1 (fc_Prices T) O.ca O.cn O.ct O.cm)) O.ft ?_
    walk_at "go"
    refine ⟨v, dx, _, rfl, h1, ⟨v, p, q, r, rfl, pa1, fun t2 e2 => ?_⟩⟩
    walk_at "go"
    rename_i p4 H4 s4 n4 e4
    refine use_samT (sqT_at (s4 _ _ e2)) (sqT_at e4) (by show 3 ≤ 100000; decide) (.cons (alk_int rfl) (.cons (alk_int rfl) (.cons (alk_int rfl) .nil))) fun H5 s5 => ?_
    exact k _ (by walk_at "sames")
  · refine use_flt ha (fun e => by rw [e0] at e; cases e) (fun j e t H1 s1 et => ?_)
    rw [e0] at e
    cases e
    walk_at "go"
    refine iY' (fun z => nomatch z) ?_
    walk_at "go"
    refine a_eqSelf (d := .tuple [.str "InvalidPrices", .str (partP i)]) (.tup (sqT_at (s1 _ _ ht)) (.cons (.str _) (.cons (.str _) .nil))) (.tup (sqT_at et) (.cons (.str _) (.cons (.str _) .nil))) shaped_pri (by simp [PyData.eqv, PyData.eqvAll]) ?_
    exact k _ s1
theorem use_agr {K : PySem.W.Frag} {H : Hp} {Q : VK} {E : XK} {v a : Addr} {p q r : Int} (ha : SqL K H a [.int p, .int q, .int r]) (hv : AgrAt K H v p q r) (k : ∀ H', Same H H' → Q (.bl true) H') : spAgr K [.ref v, .ref a] H Q E := ⟨v, a, p, q, r, rfl, ha, hv, k⟩
/-- what a lambda's body does: prices, or InvalidPrices -/
def Out43 (K : PySem.W.Frag) (H : Hp) (x y z : Int) (Q : VK) (E : XK) : Prop := (priErr x y z = none → ∀ c H', Same H H' → PriAt K H' c x y z → Q (.ref c) H') ∧ ∀ i, priErr x y z = some i → PriE K E H (partP i)
def splAdd (K : PySem.W.Frag) : List (Option V) → Sp := fun ws vs H Q E => ∃ (a b : Addr) (p q r p2 q2 r2 : Int), ws = [some (.ref a), some (.ref b)] ∧ vs = [] ∧ PriAt K H a p q r ∧ PriAt K H b p2 q2 r2 ∧ Out43 K H (p + p2) (q + q2) (r + r2) Q E
theorem okl_law_0 {P : Program} {w : World} {K : PySem.W.Frag} {mg : Str → Option Value} {base : Heap} (T : Tx K mg) : LOk P w K mg base 6 lm_law_0 [] ["_law_a", "_law_b"] [] (splAdd K) := by
  have G_Prices_add_x := ok_Prices_add_x (P := P) (w := w) (base := base) T
  refine lok_of ns_law_0 lb_law_0 (fun ws vs H Q E h => ?_) (fun F f A outer s H vs ws Q E hd hr hw h => ?_)
  · obtain ⟨a, b, p, q, r, p2, q2, r2, rfl, rfl, pa, pb, k⟩ := h
    rfl
  obtain ⟨a, b, p, q, r, p2, q2, r2, rfl, rfl, pa, pb, k⟩ := h
  obtain ⟨_, _, _, _, _⟩ := F
  cases hd
  refine ⟨_, (pe_op (op_addX G_Prices_add_x hr (by decide) (passes_call (takes_of rfl rfl rfl rfl) fun _ _ _ _ h => h) (foo_Prices T)) (pv 0) (pv 1)), ?_⟩
  try dsimp only [cxOf, Cx.nox, Cx.wish, NdefX.ncx]
  repeat rw [st_cons]
  repeat rw [st_none]
  try rw [st_nn]
  obtain ⟨dx, t, h1, _⟩ := id pa
  obtain ⟨dx2, t2, h2, _⟩ := id pb
  walk_at "rd"
  exact ⟨a, b, dx, dx2, _, _, rfl, rfl, h1, h2, ⟨a, b, p, q, r, p2, q2, r2, rfl, pa, pb, k.1, k.2⟩⟩
def splMul (K : PySem.W.Frag) : List (Option V) → Sp := fun ws vs H Q E => ∃ (a : Addr) (p q r i : Int), ws = [some (.ref a), some (.int i)] ∧ vs = [] ∧ PriAt K H a p q r ∧ Out43 K H (p * i) (q * i) (r * i) Q E
theorem okl_law_1 {P : Program} {w : World} {K : PySem.W.Frag} {mg : Str → Option Value} {base : Heap} (T : Tx K mg) : LOk P w K mg base 6 lm_law_1 ["_law_c"] ["_law_a", "_law_times"] [.int 0] (splMul K) := by
  have G_Prices_mul_x := ok_Prices_mul_x (P := P) (w := w) (base := base) T
  refine lok_of ns_law_1 lb_law_1 (fun ws vs H Q E h => ?_) (fun F f A outer s H vs ws Q E hd hr hw h => ?_)
  · obtain ⟨a, p, q, r, i, rfl, rfl, pa, k⟩ := h
    rfl
  obtain ⟨a, p, q, r, i, rfl, rfl, pa, k⟩ := h
  obtain ⟨_, _, _, _, _⟩ := F
  cases hd
  refine ⟨_, (pe_op (op_mulX G_Prices_mul_x hr (by decide) (passes_call (takes_of rfl rfl rfl rfl) fun _ _ _ _ h => h) (foo_Prices T)) (pv 1) (pv 2)), ?_⟩
  try dsimp only [cxOf, Cx.nox, Cx.wish, NdefX.ncx]
  repeat rw [st_cons]
  repeat rw [st_none]
  try rw [st_nn]
  obtain ⟨dx, t, h1, _⟩ := id pa
  walk_at "rd"
  exact ⟨a, dx, _, i, rfl, rfl, h1, ⟨a, p, q, r, i, rfl, pa, k.1, k.2⟩⟩
def splNew (K : PySem.W.Frag) : List (Option V) → Sp := fun ws vs H Q E => ∃ (l : Addr) (p q r : Int), ws = [some (.ref l)] ∧ vs = [] ∧ SqL K H l [.int p, .int q, .int r] ∧ Out43 K H p q r Q E
theorem okl_law_2 {P : Program} {w : World} {K : PySem.W.Frag} {mg : Str → Option Value} {base : Heap} (T : Tx K mg) : LOk P w K mg base 5 lm_law_2 [] ["_law_wrong"] [] (splNew K) := by
  have G_Prices_x := ok_Prices_init_x (P := P) (w := w) (base := base) T
  refine lok_of ns_law_2 lb_law_2 (fun ws vs H Q E h => ?_) (fun F f A outer s H vs ws Q E hd hr hw h => ?_)
  · obtain ⟨l, p, q, r, rfl, rfl, hl, k⟩ := h
    rfl
  obtain ⟨l, p, q, r, rfl, rfl, hl, k⟩ := h
  obtain ⟨_, _, _, _, _⟩ := F
  cases hd
  refine ⟨_, (pe_kX G_Prices_x hr (by decide) (by rfl) (passes_call (takes_of rfl rfl rfl rfl) fun _ _ _ _ h => h) (pa_cons (pe_ix ix_list (pv 0) pe_int (fun _ _ => rfl)) (pa_cons (pe_ix ix_list (pv 0) pe_int (fun _ _ => rfl)) (pa_cons (pe_ix ix_list (pv 0) pe_int (fun _ _ => rfl)) pa_nil)))), ?_⟩
  try dsimp only [cxOf, Cx.nox, Cx.wish, NdefX.ncx]
  repeat rw [st_cons]
  repeat rw [st_none]
  try rw [st_nn]
  walk_at "rd"
  refine r_ixL hl (j := 0) rfl rfl ?_
  walk_at "rd"
  refine r_ixL hl (j := 1) rfl rfl ?_
  walk_at "rd"
  refine r_ixL hl (j := 2) rfl rfl ?_
  walk_at "rd"
  exact use_PriX k.1 k.2
abbrev lamLev : Nat := 6
def PEr (K : PySem.W.Frag) (i : Nat) (c : Value) (d : Option Addr) (H : Hp) : Prop := c = .ref (He.ga K "InvalidPrices") ∧ ∃ dd, d = some dd ∧ H dd = some (.xd [("part", .str (partP i))])
def spOut (P : Program) (w : World) (K : PySem.W.Frag) (mg : Str → Option Value) (base : Heap) (kl : Nat) : SpS := fun s vs H Q _ => ∃ (f : Addr) (sp : Sp), vs = [.ref f] ∧ Clo P w K mg base kl f sp s H ∧
  ∀ (Q' : VK) (E' : XK), (∀ v H1, Q v H1 → Q' v H1) → (∀ i c d H1, PEr K i c d H1 → (∀ t H', Same H1 H' → H' t = some (.tup (erV i)) → Q (.ref t) H') → E' c d H1) → sp [] H Q' E'
theorem ok_law_outcome_s {P : Program} {w : World} {K : PySem.W.Frag} {mg : Str → Option Value} {base : Heap} (T : Tx K mg) : CalS P w K mg base CX0 7 "_law_outcome" (spOut P w K mg base lamLev) := by
  refine cals_of (d := d_law_outcome) (x := "_law_outcome") (fn_law_outcome T) rfl rfl (fg_law_outcome T) sc_law_outcome (fun _ _ _ _ _ _ us hl => match us, hl with | [_], _ => rfl) (fun s vs H Q E h => ?_) (fun cdv A outer s H vs Q E hr h => ?_)
  · obtain ⟨f, sp, rfl, hc, k⟩ := h
    rfl
  obtain ⟨f, sp, rfl, hc, k⟩ := h
  refine ⟨_, (pss_one (ps_try_as (i := 1) (c := .ref (He.ga K "InvalidPrices")) rfl rfl sc_law_outcome.nd rfl (by rfl) ⟨by rfl, by decide, .inl (fg_InvalidPrices T)⟩ LamX.takes0 (fun W pn xe tk _ => (pss_one (ps_ret (pe_cloT (k := lamLev) (i := 0) hr (by decide) tk rfl (by rfl) (.inl rfl))))) (fun a oe cls d pn hz hf => (pss_one (ps_ret (pe_tup (pa_cons pe_str (pa_cons (by exact (pe_xfG hz hf (pv 1))) pa_nil)))))))), ?_⟩
  try dsimp only [cxOf, Cx.nox, Cx.wish, NdefX.ncx]
  repeat rw [st_cons]
  repeat rw [st_none]
  try rw [st_nn]
  walk_at "rd"
  refine r_clo rfl rfl rfl hc (k _ _ (fun v H1 q => q) (fun i c d H1 he q => ?_))
  obtain ⟨rfl, dd, rfl, hd⟩ := he
  refine ⟨true, fxm_InvalidPrices_InvalidPrices T, fun _ a ha => ?_, fun z => nomatch z⟩
  walk_at "rd"
  refine r_xf ?_
  walk_at "rd"
  refine ⟨rfl, _, _, _, _, rfl, (fox_InvalidPrices T).x, fxn_InvalidPrices_part T, rfl, hd, rfl, ?_⟩
  walk_at "rd"
  exact a_nwT (Nat.le_of_ble_eq_true rfl) fun p H2 s2 _ e2 => q p H2 s2 e2
/-- the outcome of such a lambda -/
theorem use_out {P : Program} {w : World} {K : PySem.W.Frag} {mg : Str → Option Value} {base : Heap} {kl : Nat} {s : Shared} {H : Hp} {Q : VK} {E : XK} {f : Addr} {sp : Sp} {x y z : Int} (c : Clo P w K mg base kl f sp s H) (hsp : ∀ Q' E', Out43 K H x y z Q' E' → sp [] H Q' E')
    (k : ∀ v H', Same H H' → AgrAt K H' v x y z → Q (.ref v) H') : spOut P w K mg base kl s [.ref f] H Q E := by
  refine ⟨f, sp, rfl, c, fun Q' E' hQ hE => hsp _ _ ⟨fun e v H' s1 pa => hQ _ _ (k v H' s1 (.inl ⟨e, pa⟩)), fun i e d H' s1 n => hE i _ _ _ ⟨rfl, d, rfl, upd_same⟩ fun t H2 s2 et => ?_⟩⟩
  exact k t H2 (sameT (same_mut s1 (none_of_same s1 n)) s2) (.inr ⟨i, e, et⟩)

end G57
end
section
set_option maxRecDepth 100000
set_option maxHeartbeats 4000000
namespace G57
open PySem PySem.Spec PyProof.Rows L2
/-! the walk's small steps: "rd" reads on as far as it can -/
local macro_rules | `(tactic| walk_at "fact") => `(tactic| fail)
local macro_rules | `(tactic| walk_at "rd1") => `(tactic| with_reducible first
  | (refine v_id ?_; first | refine r_var_0 ?_ | refine r_var_1 ?_ | refine r_var_2 ?_ | refine r_var_3 ?_ | refine r_var_4 ?_ | refine r_var_5 ?_ | refine r_var_6 ?_ | refine r_var_7 ?_ | refine r_var_8 ?_ | refine r_var_9 ?_ | refine r_var_10 ?_ | refine r_var_11 ?_ | refine r_var_12 ?_ | refine r_var_13 ?_ | refine r_var_14 ?_ | refine r_var_15 ?_ | refine r_var_16 ?_ | refine r_var_17 ?_ | refine r_var_18 ?_ | refine r_var_19 ?_ | refine r_var_20 ?_ | refine r_var_21 ?_ | refine r_var_22 ?_ | refine r_var_23 ?_ | refine r_var_24 ?_ | refine r_var_25 ?_ | refine r_var_26 ?_ | refine r_var_27 ?_ | refine r_var rfl ?_)
  | (refine s_id ?_; first | refine r_set_0 ?_ | refine r_set_1 ?_ | refine r_set_2 ?_ | refine r_set_3 ?_ | refine r_set_4 ?_ | refine r_set_5 ?_ | refine r_set_6 ?_ | refine r_set_7 ?_ | refine r_set_8 ?_ | refine r_set_9 ?_ | refine r_set_10 ?_ | refine r_set_11 ?_ | refine r_set_12 ?_ | refine r_set_13 ?_ | refine r_set_14 ?_ | refine r_set_15 ?_ | refine r_set_16 ?_ | refine r_set_17 ?_ | refine r_set_18 ?_ | refine r_set_19 ?_ | refine r_set_20 ?_ | refine r_set_21 ?_ | refine r_set_22 ?_ | refine r_set_23 ?_ | refine r_set_24 ?_ | refine r_set_25 ?_ | refine r_set_26 ?_ | refine r_set_27 ?_ | refine r_setU ?_)
  | refine r_c ?_
  | refine r_op ?_
  | refine r_I0 ?_
  | refine r_seq ?_
  | refine r_asg ?_
  | refine r_fld ?_
  | refine r_nil ?_
  | refine r_cons ?_
  | refine r_cb ?_
  | refine r_max ?_
  | refine r_min ?_
  | refine r_ret ?_
  | refine r_met ?_
  | refine r_call ?_
  | refine r_B ?_
  | refine r_test ?_
  | refine r_b' ?_
  | refine r_ifS ?_
  | refine r_if ?_
  | refine r_par ?_
  | refine r_par2 ?_
  | refine r_drop ?_
  | refine r_next ?_
  | refine r_make ?_
  | refine r_sfld ?_
  | refine r_int1 ?_
  | refine r_intb ?_
  | refine r_and ?_
  | refine r_or ?_
  | refine r_not ?_
  | refine r_chain ?_
  | refine r_isN ?_
  | refine r_notN ?_
  | refine r_un ?_
  | refine r_U ?_
  | refine r_par3 ?_
  | refine r_par33 ?_
  | refine r_tup ?_
  | refine r_lst ?_
  | refine r_prop ?_
  | refine r_bm ?_
  | refine r_bm0 ?_
  | refine r_andV ?_
  | refine r_orV ?_
  | refine r_notV ?_
  | refine r_asgG ?_
  | refine r_gname ?_
  | refine r_gcons ?_
  | refine r_gnil ?_
  | refine r_rng1 ?_
  | refine r_rng2 ?_
  | refine r_for ?_
  | refine r_lc1 ?_
  | refine r_lc2 ?_
  | refine r_lc3 ?_
  | refine r_lc ?_
  | refine r_while ?_
  | refine r_rev ?_
  | refine r_sl ?_
  | refine r_augS ?_
  | refine r_iL ?_
  | refine r_iT ?_
  | refine r_iE ?_
  | refine r_ipI ?_
  | refine r_aug rfl ?_
  | refine r_cval ?_
  | refine r_turnN ?_
  | refine iT ?_
  | refine iNT ?_
  | refine iNF ?_
  | refine iOF ?_
  | refine iF ?_
  | refine r_part ?_
  | refine r_pi ?_
  | refine r_gsub ?_
  | refine r_noPart ?_)
local macro_rules | `(tactic| walk_at "rd") => `(tactic| (repeat (first | walk_at "rd1" | walk_at "fact")))
local macro_rules | `(tactic| walk_at "plen") => `(tactic| (repeat (first | decide | refine putF_lt ?_)))
local macro_rules | `(tactic| walk_at "rs") => `(tactic| (repeat ((fail_if_success (with_reducible refine r_stop ?_)); (first | walk_at "rd1" | walk_at "fact"))))
/-! finding a fact in the present heap by the way back; each rule is applied by its conclusion before its premises are sought -/
local macro_rules | `(tactic| walk_at "atx") => `(tactic| fail)
local macro_rules | `(tactic| walk_at "c_h") => `(tactic| first
  | with_reducible assumption
  | ((with_reducible apply hat_s); (with_reducible assumption); walk_at "c_h"))
local macro_rules | `(tactic| walk_at "c_n") => `(tactic| first
  | with_reducible assumption
  | ((with_reducible apply hat_ne); (with_reducible assumption); walk_at "c_h"))
local macro_rules | `(tactic| walk_at "c_o") => `(tactic| first
  | with_reducible assumption
  | with_reducible exact upd_same
  | ((with_reducible apply at_s); (with_reducible assumption); walk_at "c_o")
  | ((with_reducible apply atd_tup); (with_reducible assumption); walk_at "c_h"; walk_at "c_o")
  | ((with_reducible apply atd_ins); (with_reducible assumption); walk_at "c_h"; walk_at "c_o")
  | ((with_reducible apply atd_lst); (with_reducible assumption); walk_at "c_n"; walk_at "c_o")
  | ((with_reducible apply atx_tup); (with_reducible assumption); walk_at "c_o"; walk_at "c_o")
  | ((with_reducible apply atx_ins); (with_reducible assumption); walk_at "c_o"; walk_at "c_o")
  | ((with_reducible apply atx_ne); (with_reducible assumption); (with_reducible assumption); walk_at "c_o"))
local macro_rules | `(tactic| walk_at "c_q") => `(tactic| first
  | with_reducible assumption
  | ((with_reducible apply sqL_s); (with_reducible assumption); walk_at "c_q"))
local macro_rules | `(tactic| walk_at "c_t") => `(tactic| first
  | with_reducible assumption
  | ((with_reducible apply sqT_s); (with_reducible assumption); walk_at "c_t")
  | ((with_reducible apply sqT_d); (with_reducible assumption); walk_at "c_h"; walk_at "c_t")
  | ((with_reducible apply sqT_x); (with_reducible assumption); walk_at "c_o"; walk_at "c_t"))
local macro_rules | `(tactic| walk_at "c_p") => `(tactic| first
  | with_reducible assumption
  | ((with_reducible apply pairs_s); (with_reducible assumption); walk_at "c_p"))
local macro_rules | `(tactic| walk_at "at") => `(tactic| first
  | with_reducible assumption
  | with_reducible exact upd_same
  | walk_at "atx"
  | ((with_reducible apply sqL_at); walk_at "c_o")
  | ((with_reducible apply sqL_s); (with_reducible assumption); walk_at "c_q")
  | ((with_reducible apply sqT_at); walk_at "c_o")
  | ((with_reducible apply sqT_id); walk_at "c_t")
  | ((with_reducible apply hat_id); walk_at "c_h")
  | ((with_reducible apply pairs_id); walk_at "c_p")
  | ((with_reducible apply ne_id); walk_at "c_n")
  | ((with_reducible apply at_id); walk_at "c_o"))
/-! a length, an inequality -/
local macro_rules | `(tactic| walk_at "le") => `(tactic| first | exact Nat.le_of_ble_eq_true rfl | omega | (simp; done) | (simp; omega))
local macro_rules | `(tactic| walk_at "ar") => `(tactic| first | omega | exact ⟨by omega, by omega⟩ | exact .inl ⟨by omega, by omega⟩ | exact .inr ⟨by omega, by omega⟩ | exact .inr (by omega) | exact .inl (by omega) | exact ⟨by omega, by omega, by omega⟩ | decide)
/-! calls of the text's own defs, with letters for what they leave -/
local macro_rules | `(tactic| walk_at "use") => `(tactic| fail)
local macro_rules | `(tactic| walk_at "go1") => `(tactic| first
  | walk_at "rd1"
  | walk_at "fact"
  | walk_at "use"
  | with_reducible refine r_p6 ?_
  | with_reducible refine r_p8 ?_
  | with_reducible refine r_p9 ?_
  | with_reducible refine r_p10 ?_
  | with_reducible refine r_p12 ?_
  | with_reducible refine r_p14 ?_
  | with_reducible refine r_p15 ?_
  | with_reducible refine r_p17 ?_
  | with_reducible refine r_p18 ?_
  | ((with_reducible apply r_I); walk_at "ar")
  | ((with_reducible apply a_neNil); walk_at "at"; intro _ _)
  | ((with_reducible apply a_eqNil); walk_at "at"; intro _ _)
  | ((with_reducible apply a_nwT); walk_at "le"; intro _ _ _ _ _)
  | ((with_reducible apply a_nwL); walk_at "le"; intro _ _ _ _ _)
  | ((with_reducible apply r_ixL (j := 0)); walk_at "at"; rfl; rfl)
  | ((with_reducible apply r_ixL (j := 1)); walk_at "at"; rfl; rfl)
  | ((with_reducible apply r_ixL (j := 2)); walk_at "at"; rfl; rfl)
  | ((with_reducible apply r_ixL (j := 3)); walk_at "at"; rfl; rfl)
  | ((with_reducible apply r_ixT (j := 0)); walk_at "at"; rfl; rfl)
  | ((with_reducible apply r_ixT (j := 1)); walk_at "at"; rfl; rfl)
  | ((with_reducible apply r_ixT (j := 2)); walk_at "at"; rfl; rfl)
  | ((with_reducible apply a_pick2); walk_at "at"; omega; omega; intro _ _)
  | ((with_reducible apply a_pick3); walk_at "at"; omega; omega; intro _ _)
  | ((with_reducible apply a_pick4); walk_at "at"; omega; omega; intro _ _)
  | ((with_reducible apply r_gtup); walk_at "at"; rfl)
  | ((with_reducible apply a_lenLI); walk_at "at")
  | ((with_reducible apply r_lenL); walk_at "at")
  | ((with_reducible apply r_lenT); walk_at "at")
  | ((with_reducible apply r_tyL); walk_at "at")
  | ((with_reducible apply a_cat); walk_at "at"; walk_at "at"; walk_at "le"; intro _ _ _ _ _)
  | ((with_reducible apply a_listL); walk_at "at"; intro _ _ _ _ _)
  | ((with_reducible apply a_tupL); walk_at "at"; intro _ _ _ _ _)
  | ((with_reducible apply a_slL); walk_at "at"; intro _ _ _ _ _)
  | ((with_reducible apply a_revL); walk_at "at"; intro _ _ _ _ _)
  | ((with_reducible apply r_sumT); walk_at "at")
  | ((with_reducible apply r_sumL); walk_at "at")
  | ((with_reducible refine ⟨_, rfl, ?_, ?_, ?_⟩); omega; omega)
  | ((with_reducible refine ⟨_, _, rfl, ⟨?_, ?_, ?_, ?_⟩, ?_⟩); omega; omega; omega; omega)
  | with_reducible refine ⟨_, rfl, ⟨_, by walk_at "at"⟩, ?_⟩)
local macro_rules | `(tactic| walk_at "go") => `(tactic| (repeat (walk_at "go1")))
local macro_rules | `(tactic| walk_at "sames") => `(tactic| first | exact sameR | assumption | ((with_reducible apply sameB); assumption; walk_at "sames"))
local macro_rules | `(tactic| walk_at "sameds") => `(tactic| first | assumption | ((with_reducible apply sameD_of); walk_at "sames"; done) | ((with_reducible apply sameDB); assumption; walk_at "sameds") | ((with_reducible apply sameDS); assumption; walk_at "sameds"))
local macro_rules | `(tactic| walk_at "gs") => `(tactic| (repeat ((fail_if_success (with_reducible refine r_stop ?_)); (walk_at "go1"))))
/-! the second family's drawing list on the way back -/
local macro_rules | `(tactic| walk_at "c_hb") => `(tactic| first
  | with_reducible assumption
  | ((with_reducible apply hatB_s); (with_reducible assumption); walk_at "c_hb"))
local macro_rules | `(tactic| walk_at "c_n") => `(tactic| first
  | with_reducible assumption
  | ((with_reducible apply hatB_ne); (with_reducible assumption); walk_at "c_hb"))
local macro_rules | `(tactic| walk_at "c_o") => `(tactic| first
  | with_reducible assumption
  | ((with_reducible apply atB_tup); (with_reducible assumption); walk_at "c_hb"; walk_at "c_o")
  | ((with_reducible apply atB_ins); (with_reducible assumption); walk_at "c_hb"; walk_at "c_o")
  | ((with_reducible apply atB_lst); (with_reducible assumption); walk_at "c_n"; walk_at "c_o"))
local macro_rules | `(tactic| walk_at "c_t") => `(tactic| first
  | with_reducible assumption
  | ((with_reducible apply sqTB); (with_reducible assumption); walk_at "c_hb"; walk_at "c_t"))
local macro_rules | `(tactic| walk_at "at") => `(tactic| ((with_reducible apply hatB_id); walk_at "c_hb"))
local macro_rules | `(tactic| walk_at "go1") => `(tactic| first
  | with_reducible refine r_co ?_
  | with_reducible refine r_lRg ?_
  | with_reducible refine r_rg2 ?_
  | with_reducible refine r_rg2R ?_
  | with_reducible refine r_coR ?_
  | ((with_reducible apply r_coI); walk_at "at"))
local macro_rules | `(tactic| walk_at "c_d") => `(tactic| first
  | with_reducible assumption
  | ((with_reducible apply bakDB); (with_reducible assumption); walk_at "c_hb"; walk_at "c_d"))
local macro_rules | `(tactic| walk_at "use") => `(tactic| first
  | ((with_reducible apply use_drw); walk_at "at"; omega; omega; intro _ _ _ _ _ _))
local macro_rules | `(tactic| walk_at "c_pri") => `(tactic| first
  | with_reducible assumption
  | ((with_reducible apply priAt_s); (with_reducible assumption); walk_at "c_pri")
  | ((with_reducible apply priAt_d); (with_reducible assumption); walk_at "c_hb"; walk_at "c_pri"))
local macro_rules | `(tactic| walk_at "at") => `(tactic| ((with_reducible apply priAt_id); walk_at "c_pri"))
local macro_rules | `(tactic| walk_at "use") => `(tactic| first
  | ((with_reducible apply use_priCall); walk_at "at")
  | ((with_reducible apply a_coP); walk_at "at"))
local macro_rules | `(tactic| walk_at "use") => `(tactic| ((with_reducible apply use_rpf); walk_at "at"; walk_at "at"))
local macro_rules | `(tactic| walk_at "gf") => `(tactic| (repeat ((fail_if_success (with_reducible refine r_stopF ?_)); (walk_at "go1"))))
open LamX NdefX
theorem priAt_n {K : PySem.W.Frag} {H H' : Hp} {a : Addr} {p q r : Int} (s : ExtN H H') (z : PriAt K H a p q r) : PriAt K H' a p q r := let ⟨dx, t, h1, h2, w⟩ := z; ⟨dx, t, atn_ins s h1, atn_tup s h2, w⟩
theorem a_ownEq {K : PySem.W.Frag} {H : Hp} {Q : VK} {a b : Addr} {p q r p2 q2 r2 : Int} (pa : PriAt K H a p q r) (pb : PriAt K H b p2 q2 r2) (z : Q (.bl (decide ([p, q, r] = [p2, q2, r2]))) H) : rOwnEq K (He.ga K "Prices") (spPriEq K) C8.E0 (.ref a) (.ref b) H Q := by
  obtain ⟨dx, t, h1, _⟩ := id pa
  obtain ⟨dx2, t2, h2, _⟩ := id pb
  exact ⟨a, b, dx, _, rfl, rfl, h1, .inl ⟨dx2, _, h2⟩, ⟨a, b, p, q, r, _, rfl, pa, .inl ⟨p2, q2, r2, pb, rfl⟩, z⟩⟩
theorem a_ownEqT {K : PySem.W.Frag} {H : Hp} {Q : VK} {a b : Addr} {p q r : Int} {xs : List V} (pa : PriAt K H a p q r) (ht : SqT K H b xs) (z : Q (.bl false) H) : rOwnEq K (He.ga K "Prices") (spPriEq K) C8.E0 (.ref a) (.ref b) H Q := by
  obtain ⟨dx, t, h1, _⟩ := id pa
  exact ⟨a, b, dx, _, rfl, rfl, h1, .inr ⟨xs, ht⟩, ⟨a, b, p, q, r, _, rfl, pa, .inr ⟨⟨xs, ht⟩, rfl⟩, z⟩⟩
theorem a_ownNe {K : PySem.W.Frag} {H : Hp} {Q : VK} {a b : Addr} {p q r p2 q2 r2 : Int} (pa : PriAt K H a p q r) (pb : PriAt K H b p2 q2 r2) (z : Q (.bl (!decide ([p, q, r] = [p2, q2, r2]))) H) : rOwnNe (He.ga K "Prices") (spPriEq K) C8.E0 (.ref a) (.ref b) H Q := by
  obtain ⟨dx, t, h1, _⟩ := id pa
  obtain ⟨dx2, t2, h2, _⟩ := id pb
  exact ⟨a, b, dx, dx2, _, _, rfl, rfl, h1, h2, ⟨a, b, p, q, r, _, rfl, pa, .inl ⟨p2, q2, r2, pb, rfl⟩, ⟨_, rfl, z⟩⟩⟩
def spLaw (K : PySem.W.Frag) : Sp := fun vs H Q _ => ∃ (a : Addr) (ns : List Int), vs = [.ref a] ∧ SqL K H a (ns.map V.int) ∧ ns.length ≤ 63 ∧ TabsF (TL K) H ∧ ∀ H', Q (.bl true) H'
abbrev lawLev : Nat := 8
theorem ok_law {P : Program} {w : World} {K : PySem.W.Frag} {mg : Str → Option Value} {base : Heap} {fd : FuncData} (TB : TxB K mg base) (F : FunD K d_law.name d_law.qual d_law.params d_law.body d_law.scope [] (d_law.kws K) (He.ga K "law") fd) : FnOk P w K mg base CX0 lawLev (He.ga K "law") fd ["_law_script"] (spLaw K) := by
  have T := TB.t
  have G_law_start := ok_law_start (P := P) (w := w) (base := base) T
  have G_law_drawn := ok_law_drawn (P := P) (w := w) (base := base) T
  have G_Prices := ok_Prices_init (P := P) (w := w) (base := base) T
  have G_Prices_call := ok_Prices_call (P := P) (w := w) (base := base) T
  have G_law_agrees := ok_law_agrees (P := P) (w := w) (base := base) T
  have G_law_outcome_s := ok_law_outcome_s (P := P) (w := w) (base := base) T
  have G_Prices_eq := ok_Prices_eq (P := P) (w := w) (base := base) T
  refine fnC_of F sc_law (fun vs H Q E h => ?_) (fun A outer s H vs Q E hr h => ?_)
  · obtain ⟨a, ns, rfl, hS, hn, hT, k⟩ := h
    rfl
  obtain ⟨a, ns, rfl, hS, hn, hT, k⟩ := h
  refine ⟨_, (pss_cons (ps_set (i := 1) sc_law.nd rfl (Or.inr rfl) (C8.pe_c G_law_start hr (by decide) (by rfl) (pa_cons (pv 0) pa_nil)))
      (pss_cons (ps_for PassesOwn.never rfl (pi_range1 (by rfl) (fn_range T) (pa_cons pe_int pa_nil)) (pg_name (i := 2) sc_law.nd rfl (Or.inl rfl)) (pss_cons (ps_set (i := 3) sc_law.nd rfl (Or.inr rfl) (pe_ix ix_list (pe_lst (pa_cons pe_int (pa_cons (pe_op op_pow pe_int pe_int) pa_nil))) (C8.pe_c G_law_drawn hr (by decide) (by rfl) (pa_cons (pv 1) (pa_cons pe_int pa_nil))) (fun _ _ => rfl)))
      (pss_cons (ps_set (i := 5) sc_law.nd rfl (Or.inr rfl) (pe_lc (own := [("_law_k", 4)]) (by rfl) sc_law.nd (pi_range1 (by rfl) (fn_range T) (pa_cons pe_int pa_nil)) (blkOk_by (own := [("_law_k", 4)]) (N := ["_law_script", "_law_state", "_law_turn", "_law_high", "_law_k", "_law_one", "_law_other", "_law_a", "_law_b", "_law_times", "_law_baked", "_law_sold", "_law_thrown", "_law_price", "_law_wrong"]) (sc := defScope s_law) (by decide +kernel)) (fun _ _ _ _ _ => (pg_name (i := 4) sc_law.nd rfl (Or.inl rfl))) (fun _ _ _ _ _ => pts_nil) (fun _ _ _ _ _ => by exact (pe_ifExp (pt_cmpR op_gt (C8.pe_c G_law_drawn hr (by decide) (by rfl) (pa_cons (pv 1) (pa_cons pe_int pa_nil))) pe_int (nomark _)) (C8.pe_c G_law_drawn hr (by decide) (by rfl) (pa_cons (pv 1) (pa_cons (pe_op op_add (pv 3) pe_int) pa_nil))) (pv 3)))))
      (pss_cons (ps_set (i := 6) sc_law.nd rfl (Or.inr rfl) (pe_lc (own := [("_law_k", 4)]) (by rfl) sc_law.nd (pi_range1 (by rfl) (fn_range T) (pa_cons pe_int pa_nil)) (blkOk_by (own := [("_law_k", 4)]) (N := ["_law_script", "_law_state", "_law_turn", "_law_high", "_law_k", "_law_one", "_law_other", "_law_a", "_law_b", "_law_times", "_law_baked", "_law_sold", "_law_thrown", "_law_price", "_law_wrong"]) (sc := defScope s_law) (by decide +kernel)) (fun _ _ _ _ _ => (pg_name (i := 4) sc_law.nd rfl (Or.inl rfl))) (fun _ _ _ _ _ => pts_nil) (fun _ _ _ _ _ => by exact (pe_ifExp (pt_cmpR op_gt (C8.pe_c G_law_drawn hr (by decide) (by rfl) (pa_cons (pv 1) (pa_cons pe_int pa_nil))) pe_int (nomark _)) (pe_ix (ixK (K := K) rfl ix_list) (pv 5) (pv 4) (fun _ _ => rfl)) (C8.pe_c G_law_drawn hr (by decide) (by rfl) (pa_cons (pv 1) (pa_cons (pe_op op_add (pv 3) pe_int) pa_nil)))))))
      (pss_cons (ps_asg (pe_tup (pa_cons (C8.pe_mk G_Prices hr (by decide) (by rfl) (pa_cons (pe_ix ix_list (pv 5) pe_int (fun _ _ => rfl)) (pa_cons (pe_ix ix_list (pv 5) pe_int (fun _ _ => rfl)) (pa_cons (pe_ix ix_list (pv 5) pe_int (fun _ _ => rfl)) pa_nil)))) (pa_cons (C8.pe_mk G_Prices hr (by decide) (by rfl) (pa_cons (pe_ix ix_list (pv 6) pe_int (fun _ _ => rfl)) (pa_cons (pe_ix ix_list (pv 6) pe_int (fun _ _ => rfl)) (pa_cons (pe_ix ix_list (pv 6) pe_int (fun _ _ => rfl)) pa_nil)))) (pa_cons (pe_op op_sub (C8.pe_c G_law_drawn hr (by decide) (by rfl) (pa_cons (pv 1) (pa_cons pe_int pa_nil))) pe_int) pa_nil)))) (pg_tup (n := 3) (by rfl) (pgs_cons (pg_name (i := 7) sc_law.nd rfl (Or.inr rfl)) (pgs_cons (pg_name (i := 8) sc_law.nd rfl (Or.inr rfl)) (pgs_cons (pg_name (i := 9) sc_law.nd rfl (Or.inr rfl)) pgs_nil)))))
      (pss_cons (ps_par3 (i := 10) (j := 11) (l := 12) (by rfl) sc_law.nd rfl rfl rfl (by decide) (by decide) (by decide) rfl rfl rfl (pa_cons (C8.pe_c G_law_drawn hr (by decide) (by rfl) (pa_cons (pv 1) (pa_cons pe_int pa_nil))) (pa_cons (C8.pe_c G_law_drawn hr (by decide) (by rfl) (pa_cons (pv 1) (pa_cons (pe_op op_pow pe_int pe_int) pa_nil))) (pa_cons (C8.pe_c G_law_drawn hr (by decide) (by rfl) (pa_cons (pv 1) (pa_cons pe_int pa_nil))) pa_nil))) (by rfl))
      (pss_cons (ps_if (pt_cmpR op_neI (pe_co G_Prices_call hr (by decide) (pv 7) (pa_cons (pv 10) (pa_cons (pv 11) (pa_cons (pv 12) pa_nil)))) (pe_op op_sub (pe_op op_sub (pe_op op_mul (pe_ix ix_list (pv 5) pe_int (fun _ _ => rfl)) (pv 11)) (pe_op op_mul (pe_ix ix_list (pv 5) pe_int (fun _ _ => rfl)) (pv 10))) (pe_op op_mul (pe_ix ix_list (pv 5) pe_int (fun _ _ => rfl)) (pv 12))) (nomark _)) (pss_one (ps_ret pe_bl)) pss_nil)
      (pss_cons (ps_if (pt_not (pt_val (C8.pe_c G_law_agrees hr (by decide) (by rfl) (pa_cons (pe_cS (E := fun _ => E0) G_law_outcome_s hr (by decide) (by rfl) (fun _ _ _ _ I => inv_cellsK I) (fun _ _ _ _ _ _ _ h => h.elim) (pa_cons (pe_lm (d := lm_law_0) (T := TL K) (tb_law TB) (by rfl) tm_law (tu_law TB) (lm_free cap_law_0) (by rfl) (by rfl)) pa_nil)) (pa_cons (pe_lc (own := [("_law_k", 4)]) (by rfl) sc_law.nd (pi_range1 (by rfl) (fn_range T) (pa_cons pe_int pa_nil)) (blkOk_by (own := [("_law_k", 4)]) (N := ["_law_script", "_law_state", "_law_turn", "_law_high", "_law_k", "_law_one", "_law_other", "_law_a", "_law_b", "_law_times", "_law_baked", "_law_sold", "_law_thrown", "_law_price", "_law_wrong"]) (sc := defScope s_law) (by decide +kernel)) (fun _ _ _ _ _ => (pg_name (i := 4) sc_law.nd rfl (Or.inl rfl))) (fun _ _ _ _ _ => pts_nil) (fun _ _ _ _ _ => by exact (pe_op op_add (pe_ix (ixK (K := K) rfl ix_list) (pv 5) (pv 4) (fun _ _ => rfl)) (pe_ix (ixK (K := K) rfl ix_list) (pv 6) (pv 4) (fun _ _ => rfl))))) pa_nil))))) (pss_one (ps_ret pe_bl)) pss_nil)
      (pss_cons (ps_if (pt_not (pt_val (C8.pe_c G_law_agrees hr (by decide) (by rfl) (pa_cons (pe_cS (E := fun _ => E0) G_law_outcome_s hr (by decide) (by rfl) (fun _ _ _ _ I => inv_cellsK I) (fun _ _ _ _ _ _ _ h => h.elim) (pa_cons (pe_lm1 (i := 0) (d := lm_law_1) (T := TL K) (tb_law TB) (by rfl) tm_law (tu_law TB) (lm_free cap_law_1) (by rfl) pe_int (by rfl)) pa_nil)) (pa_cons (pe_lc (own := [("_law_price", 13)]) (by rfl) sc_law.nd (pi_list (pv 5)) (blkOk_by (own := [("_law_price", 13)]) (N := ["_law_script", "_law_state", "_law_turn", "_law_high", "_law_k", "_law_one", "_law_other", "_law_a", "_law_b", "_law_times", "_law_baked", "_law_sold", "_law_thrown", "_law_price", "_law_wrong"]) (sc := defScope s_law) (by decide +kernel)) (fun _ _ _ _ _ => (pg_name (i := 13) sc_law.nd rfl (Or.inl rfl))) (fun _ _ _ _ _ => pts_nil) (fun _ _ _ _ _ => by exact (pe_op op_mul (pv 13) (pv 9)))) pa_nil))))) (pss_one (ps_ret pe_bl)) pss_nil)
      (pss_cons (ps_if (PW.pt (pw_or (pt_cmpR op_ne (pe_cmpR (op_eqM G_Prices_eq hr (by decide) (foo_Prices T)) (pv 7) (pv 8) (nomark _)) (pe_cmpR (op_eqD hr.units) (pv 5) (pv 6) (nomark _)) (nomark _)) (pw_or (pt_cmpR op_ne (pe_cmpR (op_neM G_Prices_eq hr (by decide) (foe_Prices T) (fme_Prices_eq T).at_) (pv 7) (pv 8) (nomark _)) (pe_cmpR (op_neD hr.units) (pv 5) (pv 6) (nomark _)) (nomark _)) (pw_or1 (pt_cmpR (op_eqM G_Prices_eq hr (by decide) (foo_Prices T)) (pv 7) (pe_callTy cq_tupL (by rfl) (fn_tuple T) bb_tuple (pa_cons (pv 5) pa_nil)) (nomark _)))))) (pss_one (ps_ret pe_bl)) pss_nil)
      (pss_cons (ps_set (i := 14) sc_law.nd rfl (Or.inr rfl) (pe_lc (own := [("_law_k", 4)]) (by rfl) sc_law.nd (pi_range1 (by rfl) (fn_range T) (pa_cons pe_int pa_nil)) (blkOk_by (own := [("_law_k", 4)]) (N := ["_law_script", "_law_state", "_law_turn", "_law_high", "_law_k", "_law_one", "_law_other", "_law_a", "_law_b", "_law_times", "_law_baked", "_law_sold", "_law_thrown", "_law_price", "_law_wrong"]) (sc := defScope s_law) (by decide +kernel)) (fun _ _ _ _ _ => (pg_name (i := 4) sc_law.nd rfl (Or.inl rfl))) (fun _ _ _ _ _ => pts_nil) (fun _ _ _ _ _ => by exact (pe_ifExp (pt_cmpR op_eqI (C8.pe_c G_law_drawn hr (by decide) (by rfl) (pa_cons (pv 1) (pa_cons pe_int pa_nil))) pe_int (nomark _)) (pe_ix (ixK (K := K) rfl ix_list) (pv 5) (pv 4) (fun _ _ => rfl)) (pe_ix (ixK (K := K) rfl ix_list) (pe_lst (pa_cons (pe_op op_sub pe_int pe_int) (pa_cons (pe_op op_add (pe_op op_pow pe_int pe_int) pe_int) pa_nil))) (C8.pe_c G_law_drawn hr (by decide) (by rfl) (pa_cons (pv 1) (pa_cons pe_int pa_nil))) (fun _ _ => rfl))))))
      (pss_one (ps_if (pt_not (pt_val (C8.pe_c G_law_agrees hr (by decide) (by rfl) (pa_cons (pe_cS (E := fun _ => E0) G_law_outcome_s hr (by decide) (by rfl) (fun _ _ _ _ I => inv_cellsK I) (fun _ _ _ _ _ _ _ h => h.elim) (pa_cons (pe_lm (d := lm_law_2) (T := TL K) (tb_law TB) (by rfl) tm_law (tu_law TB) (lm_free cap_law_2) (by rfl) (by rfl)) pa_nil)) (pa_cons (pv 14) pa_nil))))) (pss_one (ps_ret pe_bl)) pss_nil)))))))))))))
      (pss_one (ps_ret pe_bl)))), ?_⟩
  try dsimp only [cxOf, Cx.nox, Cx.wish]
  repeat rw [st_cons]
  repeat rw [st_none]
  try rw [st_nn]
  walk_at "rd"
  refine use_sta2 hS hn fun h H1 s1 hh hat => ?_
  have hT1 := tabsF_s s1 hT
  walk_at "go"
  refine fR_range (fun i σ H' => ∃ x2 x3 x4 x5 x6 x7 x8 x9 x10 x11 x12 x13 x14 : Option V, σ = [some (.ref a), some (.ref h), x2, x3, x4, x5, x6, x7, x8, x9, x10, x11, x12, x13, x14] ∧ HatB K H' h a ∧ TabsF (TL K) H') ⟨none, none, none, none, none, none, none, none, none, none, none, none, none, rfl, hat, hT1⟩ ?_ ?_
  · clear s1 hS hat hT hT1
    rintro i0 σ H' hi ⟨x2, x3, x4, x5, x6, x7, x8, x9, x10, x11, x12, x13, x14, rfl, hat, hT⟩
    walk_at "go"
    rename_i pP HP sP nP eP r1 H2 r10 r11 hat2 sd2 ww hw
    have w0 : 1 ≤ ww ∧ ww ≤ 1000000 := by
      rcases hw with rfl | rfl <;> omega
    refine lcB_ints (fun x => 0 ≤ x ∧ x ≤ ww) (by walk_at "at") (by decide) (fun j H14 Z hj hat14 sd14 z => ?_) fun L1 H3 cs hat3 sd3 nL1 hL1 cl cb => ?_
    · walk_at "go"
      rename_i r4 H15 r40 r41 hat15 sd15
      refine i2 (fun c => ?_) (fun c => ?_)
      · walk_at "go"
        rename_i r5 H16 r50 r51 hat16 sd16
        exact z _ _ (by walk_at "at") (by walk_at "sameds") (by omega)
      · walk_at "go"
        exact z _ _ (by walk_at "at") (by walk_at "sameds") (by omega)
    obtain ⟨p, q, r, rfl⟩ : ∃ p q r, cs = [p, q, r] := by
      match cs, cl with
      | [p, q, r], _ => exact ⟨p, q, r, rfl⟩
    have p0 := cb p (by simp)
    have q0 := cb q (by simp)
    have r0 := cb r (by simp)
    have hLn := hat2.ne nL1
    have hL1' : H3 L1 = some (.lst [.int p, .int q, .int r]) := hL1
    walk_at "go"
    refine lcB_ints (fun x => 0 ≤ x ∧ x ≤ ww) hat3 (by decide) (fun j H14 Z hj hat14 sd14 z => ?_) fun L2 H4 cs hat4 sd4 nL2 hL2 dl db => ?_
    · have hj3 : j < 3 := hj
      obtain ⟨n, hn, n0⟩ : ∃ n : Int, [V.int p, V.int q, V.int r][j]? = some (.int n) ∧ (0 ≤ n ∧ n ≤ ww) := by
        match j, hj3 with
        | 0, _ => exact ⟨p, rfl, p0⟩
        | 1, _ => exact ⟨q, rfl, q0⟩
        | 2, _ => exact ⟨r, rfl, r0⟩
      walk_at "go"
      rename_i r4 H15 r40 r41 hat15 sd15
      have hL15 : SqL K H15 L1 [.int p, .int q, .int r] := by walk_at "at"
      refine i2 (fun c => ?_) (fun c => ?_)
      · walk_at "rd"
        refine r_ixL hL15 (Int.zero_add _) hn ?_
        exact z _ _ (by walk_at "at") (by walk_at "sameds") n0
      · walk_at "go"
        rename_i r5 H16 r50 r51 hat16 sd16
        exact z _ _ (by walk_at "at") (by walk_at "sameds") (by omega)
    obtain ⟨p2, q2, r2, rfl⟩ : ∃ p q r, cs = [p, q, r] := by
      match cs, dl with
      | [p, q, r], _ => exact ⟨p, q, r, rfl⟩
    have p20 := db p2 (by simp)
    have q20 := db q2 (by simp)
    have r20 := db r2 (by simp)
    have hLn2 := hat3.ne nL2
    have hL2' : H4 L2 = some (.lst [.int p2, .int q2, .int r2]) := hL2
    have hL14 : H4 L1 = some (.lst [.int p, .int q, .int r]) := by walk_at "at"
    have sd04 : SameD h h H' H4 := by walk_at "sameds"
    have hT4 := tabsF_d sd04 hat hT
    clear sd04 hT hat hat2 sd2 hat3 sd3 nL1 hL1 hL1' sd4 nL2 hL2 sP nP eP r10 r11 cb db cl dl
    walk_at "go"
    refine use_Pri (by omega) (by omega) (by omega) (by omega) (by omega) (by omega) fun pa H5 s5 hpa => ?_
    walk_at "go"
    refine use_Pri (by omega) (by omega) (by omega) (by omega) (by omega) (by omega) fun pb H6 s6 hpb => ?_
    have hpa6 := priAt_s s6 hpa
    walk_at "go"
    rename_i rt H7 rt0 rt1 hat7 sd7 pt H8 s8 nt8 et8 rb H9 rb0 rb1 hat9 sd9 rs H10 rs0 rs1 hat10 sd10 rw H11 rw0 rw1 hat11 sd11
    refine iN' rfl ?_
    have sd611 : SameD h h H6 H11 := by walk_at "sameds"
    have sd411 : SameD h h H4 H11 := (sameD_of (sameT s5 s6)).tr sd611
    have hT11 := tabsF_d sd411 hat4 hT4
    have hat6 : HatB K H6 h a := hatB_s s6 (hatB_s s5 hat4)
    have hpa11 := priAt_d sd611 hat6 hpa6
    have hpb11 := priAt_d sd611 hat6 hpb
    clear sd611 hat6
    have hL111 : H11 L1 = some (.lst [.int p, .int q, .int r]) := sd411 _ _ hLn.1 hLn.2 hL14
    have hL211 : H11 L2 = some (.lst [.int p2, .int q2, .int r2]) := sd411 _ _ hLn2.1 hLn2.2 hL2'
    clear sd411 hT4 hat4 hL2' hL14 s5 hpa s6 hpb hpa6 hat7 sd7 s8 nt8 et8 hat9 sd9 hat10 sd10 sd11
    refine r_next ?_
    walk_at "rd"
    refine r_cS ?_
    walk_at "rd"
    refine r_lm hT11 fun f0 F0 H12 x12 hT12 nf0 lam0 dd0 o0 => ?_
    walk_at "rd"
    intro sq0 kc0
    have hat12 := hatB_n x12 hat11
    have hpa12 := priAt_n x12 hpa11
    have hpb12 := priAt_n x12 hpb11
    have hL112 := atn_lst x12 hL111
    have hL212 := atn_lst x12 hL211
    have c0 := clo_at_cells (P := P) (w := w) (base := base) (okl_law_0 T) (Nat.le_refl _) lam0 dd0 o0 cap_law_0 kc0
    refine use_out (x := p + p2) (y := q + q2) (z := r + r2) (c0.mono (by decide)) (fun Q' E' o => ⟨pa, pb, p, q, r, p2, q2, r2, rfl, rfl, hpa12, hpb12, o⟩) fun v0 H13 s13 ag0 => ?_
    have hat13 := hatB_s s13 hat12
    have hT13 := tabsF_s s13 hT12
    have hpa13 := priAt_s s13 hpa12
    have hpb13 := priAt_s s13 hpb12
    have hL113 := s13 _ _ hL112
    have hL213 := s13 _ _ hL212
    clear c0 kc0 lam0 dd0 o0 x12 nf0 hat11 hT11 hpa11 hpb11 hL111 hL211 hat12 hT12 hpa12 hpb12 hL112 hL212 s13
    walk_at "go"
    refine lcI_range (fun i => [p, q, r].getD i 0 + [p2, q2, r2].getD i 0) (by decide) (fun j H' Z hj s z => ?_) fun D H14 nD s14 hD => ?_
    · have hj3 : j < 3 := hj
      have hn : [V.int p, V.int q, V.int r][j]? = some (.int ([p, q, r].getD j 0)) := by
        match j, hj3 with
        | 0, _ => rfl
        | 1, _ => rfl
        | 2, _ => rfl
      have hn2 : [V.int p2, V.int q2, V.int r2][j]? = some (.int ([p2, q2, r2].getD j 0)) := by
        match j, hj3 with
        | 0, _ => rfl
        | 1, _ => rfl
        | 2, _ => rfl
      walk_at "rd"
      refine r_ixL (sqL_at (s _ _ hL113)) (Int.zero_add _) hn ?_
      walk_at "rd"
      refine r_ixL (sqL_at (s _ _ hL213)) (Int.zero_add _) hn2 ?_
      walk_at "rd"
      exact z _ sameR
    have hD' : H14 D = some (.lst [.int (p + p2), .int (q + q2), .int (r + r2)]) := hD
    walk_at "rd"
    refine use_agr (sqL_at hD') (agrAt_s s14 ag0) fun H15 s15 => ?_
    have s35 : Same H13 H15 := sameT s14 s15
    have hat15 := hatB_s s35 hat13
    have hT15 := tabsF_s s35 hT13
    have hpa15 := priAt_s s35 hpa13
    have hpb15 := priAt_s s35 hpb13
    have hL115 := s35 _ _ hL113
    have hL215 := s35 _ _ hL213
    clear ag0 hat13 hT13 hpa13 hpb13 hL113 hL213 nD s14 hD hD' s15 s35
    walk_at "rd"
    refine r_cS ?_
    walk_at "rd"
    refine r_lm hT15 fun f1 F1 H16 x16 hT16 nf1 lam1 dd1 o1 => ?_
    walk_at "rd"
    intro sq1 kc1
    have hat16 := hatB_n x16 hat15
    have hpa16 := priAt_n x16 hpa15
    have hpb16 := priAt_n x16 hpb15
    have hL116 := atn_lst x16 hL115
    have hL216 := atn_lst x16 hL215
    have c1 := clo_at_cells (P := P) (w := w) (base := base) (okl_law_1 T) (Nat.le_refl _) lam1 dd1 o1 cap_law_1 kc1
    refine use_out (x := p * (rt - 1)) (y := q * (rt - 1)) (z := r * (rt - 1)) (c1.mono (by decide)) (fun Q' E' o => ⟨pa, p, q, r, rt - 1, rfl, rfl, hpa16, o⟩) fun v1 H17 s17 ag1 => ?_
    have hat17 := hatB_s s17 hat16
    have hT17 := tabsF_s s17 hT16
    have hpa17 := priAt_s s17 hpa16
    have hpb17 := priAt_s s17 hpb16
    have hL117 := s17 _ _ hL116
    have hL217 := s17 _ _ hL216
    clear c1 kc1 lam1 dd1 o1 x16 nf1 hat15 hT15 hpa15 hpb15 hL115 hL215 hat16 hT16 hpa16 hpb16 hL116 hL216 s17
    walk_at "go"
    refine lcI_list (xs := [p, q, r]) (fun x => x * (rt - 1)) hL117 (by show 3 ≤ 100000; decide) (fun x H' Z hx s z => ?_) fun D H18 nD s18 hD => ?_
    · have xb : 0 ≤ x ∧ x ≤ ww := by
        rcases List.mem_cons.mp hx with rfl | hx
        · exact p0
        rcases List.mem_cons.mp hx with rfl | hx
        · exact q0
        rcases List.mem_cons.mp hx with rfl | hx
        · exact r0
        cases hx
      walk_at "rd"
      refine r_I (.inl (by omega)) ?_
      walk_at "rd"
      exact z _ sameR
    have hD' : H18 D = some (.lst [.int (p * (rt - 1)), .int (q * (rt - 1)), .int (r * (rt - 1))]) := hD
    walk_at "rd"
    refine use_agr (sqL_at hD') (agrAt_s s18 ag1) fun H19 s19 => ?_
    have s79 : Same H17 H19 := sameT s18 s19
    have hat19 := hatB_s s79 hat17
    have hT19 := tabsF_s s79 hT17
    have hpa19 := priAt_s s79 hpa17
    have hpb19 := priAt_s s79 hpb17
    have hL119 := s79 _ _ hL117
    have hL219 := s79 _ _ hL217
    clear ag1 hat17 hT17 hpa17 hpb17 hL117 hL217 nD s18 hD hD' s19 s79
    walk_at "rd"
    refine a_ownEq hpa19 hpb19 ?_
    walk_at "rd"
    refine a_eqLI (ns := [p, q, r]) (ms := [p2, q2, r2]) (sqL_at hL119) (sqL_at hL219) ?_
    refine r_neS rfl ⟨_, rfl, ?_⟩
    refine iN' rfl ?_
    walk_at "rd"
    refine a_ownNe hpa19 hpb19 ?_
    walk_at "rd"
    refine a_neLI (ns := [p, q, r]) (ms := [p2, q2, r2]) (sqL_at hL119) (sqL_at hL219) ?_
    refine r_neS rfl ⟨_, rfl, ?_⟩
    refine iN' rfl ?_
    walk_at "rd"
    refine a_tupL (sqL_at hL119) fun t20 H20 s20 n20 e20 => ?_
    refine a_ownEqT (priAt_s s20 hpa19) (sqT_at e20) ?_
    have hat20 := hatB_s s20 hat19
    have hT20 := tabsF_s s20 hT19
    have hL120 := s20 _ _ hL119
    clear hat19 hT19 hpa19 hpb19 hL119 hL219 s20 n20 e20
    walk_at "go"
    refine lcB_ints (fun _ => True) hat20 (by decide) (fun j H14 Z hj hat14 sd14 z => ?_) fun L3 H21 cs hat21 sd21 nL3 hL3 fl fb => ?_
    · have hj3 : j < 3 := hj
      have hn : [V.int p, V.int q, V.int r][j]? = some (.int ([p, q, r].getD j 0)) := by
        match j, hj3 with
        | 0, _ => rfl
        | 1, _ => rfl
        | 2, _ => rfl
      walk_at "go"
      rename_i r4 H15 r40 r41 hat15 sd15
      have hL15 : SqL K H15 L1 [.int p, .int q, .int r] := sqL_at (sd15 _ _ hLn.1 hLn.1 (sd14 _ _ hLn.1 hLn.1 hL120))
      refine i2 (fun c => ?_) (fun c => ?_)
      · walk_at "rd"
        refine r_ixL hL15 (Int.zero_add _) hn ?_
        exact z _ _ (by walk_at "at") (by walk_at "sameds") True.intro
      · walk_at "go"
        exact z _ _ (by walk_at "at") (by walk_at "sameds") True.intro
    obtain ⟨u1, u2, u3, rfl⟩ : ∃ p q r, cs = [p, q, r] := by
      match cs, fl with
      | [p, q, r], _ => exact ⟨p, q, r, rfl⟩
    have hT21 := tabsF_d sd21 hat20 hT20
    have hL3' : H21 L3 = some (.lst [.int u1, .int u2, .int u3]) := hL3
    clear hat20 hT20 hL120 sd21 hL3
    walk_at "rd"
    refine r_cS ?_
    walk_at "rd"
    refine r_lm hT21 fun f2 F2 H22 x22 hT22 nf2 lam2 dd2 o2 => ?_
    walk_at "rd"
    intro sq2 kc2
    have hat22 := hatB_n x22 hat21
    have hL322 := atn_lst x22 hL3'
    have c2 := clo_at_cells (P := P) (w := w) (base := base) (okl_law_2 T) (Nat.le_refl _) lam2 dd2 o2 cap_law_2 kc2
    refine use_out (x := u1) (y := u2) (z := u3) (c2.mono (by decide)) (fun Q' E' o => ⟨L3, u1, u2, u3, rfl, rfl, sqL_at hL322, o⟩) fun v2 H23 s23 ag2 => ?_
    have hat23 := hatB_s s23 hat22
    have hT23 := tabsF_s s23 hT22
    have hL323 := s23 _ _ hL322
    clear c2 kc2 lam2 dd2 o2 x22 nf2 s23
    walk_at "rd"
    refine use_agr (sqL_at hL323) ag2 fun H24 s24 => ?_
    walk_at "rd"
    exact ⟨_, _, _, _, _, _, _, _, _, _, _, _, _, rfl, hatB_s s24 hat23, tabsF_s s24 hT23⟩
  · rintro σ H' ⟨x2, x3, x4, x5, x6, x7, x8, x9, x10, x11, x12, x13, x14, rfl, hat, hT⟩
    walk_at "rd"
    exact k H'

end G57
end
section
set_option maxRecDepth 100000
set_option maxHeartbeats 4000000
namespace G57
open PySem PySem.Spec PyProof.Rows L2
set_option maxHeartbeats 0
abbrev Rrow : PySem.W.OpenRow := PySem.W.OpenLaw.row PySem.Challenge.rw_staleloaves_k43_signs_of_prices
abbrev hkL : PySem.W.Hook := hookT 6 exL fnL tfL
def obL (s : PySem.W.SharedT) : AlA := obsT 6 exL fnL tfL (HandSHeadRun.getT s)
theorem obL_eq (s : PySem.W.SharedT) : obL s = hkL.obs s.abs := obsT_eq (HandSHeadRun.getT_eq s)
def looseL : List Str := (["__name__", "LoafError", "InvalidPrices", "MAX_PRICE", "Prices", "_law_start", "_law_drawn", "_law_same", "_law_outcome", "_law_fault", "_law_agrees"] : List Str)
theorem runL (w : World) : HandSHeadRun.RunEq Rrow (PySem.W.view Rrow.prog [13]) hkL obL 6000 looseL w := by
  intro os
  kernel_rfl
end G57
end
namespace G57
open PySem PySem.Spec PyProof.Rows L2
theorem facts {P : Program} {w : World} {K : PySem.W.Frag} {h : Heap} {mg : Str → Option Value} {f : Addr} (X : K.In h) (G : h.Ns mainGlobals mg) (hfa : mg ("law" : Str) = some (.ref f)) (c : SaysA exL fnL K) :
    ∃ fd : FuncData, (∀ (s : Shared) (v : Value), BindsTo s fd ⟨[v], []⟩ [("_law_script", v)]) ∧ ∀ base : Heap, K.In base → base.Ns mainGlobals mg → (∀ p ∈ tfL, LamX.TabB base mg (He.cT K p).1 (He.cT K p).2) → FnOk P w K mg base CX0 lawLev f fd ["_law_script"] (spLaw K) := by
  have T : Tx K mg := ⟨c, h, X, G⟩
  obtain ⟨fd, F⟩ := fn_law T
  have e := hfa.symm.trans (fg_law T)
  cases e
  have b := FunD.bindsA (ps := ["_law_script"]) F fun _ _ _ _ _ _ us hl => match us, hl with | [_], _ => rfl
  exact ⟨fd, fun s v => b s [v] rfl, fun base _ _ tb => ok_law ⟨T, tb⟩ F⟩
theorem tabs0 {K : PySem.W.Frag} {H : Hp} (h : ∀ p ∈ tfL, H (He.cT K p).2 = some (.tbl #[])) : TabsF (TL K) H := tabsF_0 fun p hp => by
  simp only [TL, List.mem_cons, List.not_mem_nil, or_false] at hp
  subst hp
  exact h _ List.mem_cons_self
end G57
open PySem PySem.W PySem.Calls PyProof.Rows
set_option maxHeartbeats 0
theorem PySem.Challenge.cw_staleloaves_k43_signs_of_prices_holds : PySem.Challenge.rw_staleloaves_k43_signs_of_prices.Holds := by
  w_on; o_law
  refine HandSHeadRun.head_any (r := G57.Rrow) (q := view G57.Rrow.prog [13]) (H := G57.hkL) (ob := G57.obL) (M := 6000) (loose := G57.looseL) (d := HandSHeadRun.topDef G57.Rrow.prog 13) (kwd := []) G57.obL_eq
    (by kernel_rfl) (fun s => by kernel_rfl) G57.runL (by kernel_rfl) (by kernel_rfl) (by kernel_rfl) (by rfl) (by first | assumption | decide +kernel) (by decide +kernel) ⟨rfl, rfl, rfl, rfl, rfl, by decide +kernel⟩ ?hw ?hc
  case hw => w_witness2
  case hc =>
    refine G57.walk_ofT (l := PySem.Challenge.rw_staleloaves_k43_signs_of_prices) (n := 63) (k := G57.lawLev) (x := "_law_script") rfl (by decide) (by kernel_rfl) ⟨rfl, by decide, by decide⟩ ?F
    intro w mg fa h Y G hmg0
    obtain ⟨K, KX, c⟩ := Y
    have hmg : mg ("law" : PySem.Str) = some (.ref fa) := by
      have e : (HandSHeadRun.topDef G57.Rrow.prog 13).name = ("law" : PySem.Str) := by kernel_rfl
      rw [← e]
      exact hmg0
    obtain ⟨fd, hb, hF⟩ := G57.facts (P := (PySem.Challenge.rw_staleloaves_k43_signs_of_prices).prog) (w := w) KX G hmg c.a
    have mem : ∀ {Z : PySem.Addr × PySem.Addr → Prop}, (∀ p ∈ G57.tfL, Z (He.cT K p)) → ∀ p ∈ G57.tfL.map (He.cT K), Z p := fun {Z} z p hp => by
      obtain ⟨q, hq, e⟩ := List.mem_map.mp hp
      rw [← e]
      exact z q hq
    exact ⟨K, fd, G57.tfL.map (He.cT K), G57.spLaw K, KX, mem fun p hp => c.empty p hp, mem fun p hp => c.out p hp, mem fun p hp => PySem.W.codeHd_of_K KX (c.hd p hp), hb,
      fun H a ns hl hT hS => ⟨a, ns, rfl, hS, hl, G57.tabs0 fun p hp => hT _ (List.mem_map.mpr ⟨p, hp, rfl⟩), fun _ => rfl⟩, fun base Kb Gb tb => hF base Kb Gb fun p hp => tb _ (List.mem_map.mpr ⟨p, hp, rfl⟩)⟩
