import PyProof.Rows.All
import Wide.All
import OpenK.AllK
import Wide.FinOn
import KE.KStateDown
import HandS.Base
import HandS.Call
import HandS.Ends
import HandS.More
import HandS.Words
import HandS.WordsExc
import HandS.Defaults
import HandS.Property
import HandS.IsInst
import HandS.Head0
import HandS.Head1
import HandS.Head2
import HandS.HeadEnd
import HandS.HeadHook1
import HandS.HeadHook2
import HandS.HeadHook3
import HandS.HeadHook4
import PySem.Challenge.RW_turnedlevels_k04_whole_turned_forms
import KE.KDictZip
import KE.GoesMore
import KE.KStar
import HandS.Star
import HandS.Zip
import HandS.List
import HandS.Comp
import HandS.Wide
import HandS.Deep
import HandS.TupAny
import HandS.TupMul
import HandS.Flow
import HandS.Text
import HandS.Dict
import HandS.Style
import HandS.TupLe
import PyProof.StrOps2
import PyProof.Rows.IntBool
import PyProof.PureInt
import PyProof.FactsAll.bool_2
import KE.SortData
import HandS.Conv
import HandS.WordsDict
import HandS.WideBits
import KE.GoesOver
import KE.GoesZip
import KE.GoesEnum
import PyProof.EnumStmt
import HandS.Iter
import HandS.Walk
import HandS.TryOnly
import HandS.Exc
import HandS.Codes
import PyProof.ReprLen
import PyProof.Rows.ReprOcc
set_option Elab.async false
set_option linter.all false
set_option maxRecDepth 100000
set_option maxHeartbeats 0
namespace HeY
open PySem PySem.Spec PyProof.Rows L2 He
structure PrD where
  cls : Str
  nm : Str
  d : DefD
def pA (K : PySem.W.Frag) (p : PrD) : Addr := match PySem.W.recIn K (ma K (ga K p.cls) p.nm) "property" with
  | some (.ref g :: _) => g
  | _ => 0
def pW (K : PySem.W.Frag) (p : PrD) : FnW := match K.lookup (pA K p) with
  | some ⟨_, _, .func fd, _⟩ => some (fd.name, fd.qualname, fd.params, fd.body, fd.scope, fd.globals, fd.closure, fd.builtins)
  | _ => none
def gOk (K : PySem.W.Frag) (p : PrD) : Bool := PySem.W.keepIn K (.ref (pA K p)) && (match K.lookup (pA K p) with
  | some ⟨_, _, .func fd, _⟩ => PySem.W.codeIn K fd.code p.d.qual && (dflB K fd.defaults (p.d.dvs K) && kwdB K fd.kwdefaults (p.d.kws K))
  | _ => false)
def aOk (K : PySem.W.Frag) (p : PrD) : Bool := eqO (PySem.W.findIn K (.ref (ga K p.cls)) p.nm) (some (some (.ref (ma K (ga K p.cls) p.nm)))) && (eqO (PySem.W.specialIn K (.ref (ma K (ga K p.cls) p.nm)) "__get__") (some (some (.builtin "property.__get__"))) &&
  (decide (PySem.W.takesIn K (.ref (ma K (ga K p.cls) p.nm)) = some true) && (match PySem.W.recIn K (ma K (ga K p.cls) p.nm) "property" with
    | some (.ref _ :: _) => true
    | _ => false)))
def pOk (K : PySem.W.Frag) (p : PrD) : Bool := aOk K p && gOk K p
theorem funD {K : PySem.W.Frag} {p : PrD} (e : pW K p = p.d.val) (c : gOk K p = true) : ∃ fd, FunD K p.d.name p.d.qual p.d.params p.d.body p.d.scope (p.d.dvs K) (p.d.kws K) (pA K p) fd := by
  obtain ⟨kp, c2⟩ := ba c
  unfold pW at e
  cases q : K.lookup (pA K p) with
  | none =>
    rw [q] at c2
    cases c2
  | some o =>
    obtain ⟨oc, od, dt, osl⟩ := o
    rw [q] at c2 e
    cases dt with
    | func fd =>
      obtain ⟨n1, n2, n3, n4, n5, n6, n7, n8, n9, n10, n11, n12, n13, n14, n15⟩ := fd
      have e2 : (some (n1, n2, n3, n4, n5, n6, n7, n15) : FnW) = some (p.d.name, p.d.qual, p.d.params, .stmts p.d.body, p.d.scope, mainGlobals, [], builtinsNs) := e
      simp only [Option.some.injEq, Prod.mk.injEq] at e2
      obtain ⟨h1, h2, h3, h4, h5, h6, h7, h8⟩ := e2
      subst h1 h2 h3 h4 h5 h6 h7 h8
      have c3 : (PySem.W.codeIn K n13 p.d.qual && (dflB K n8 (p.d.dvs K) && kwdB K n9 (p.d.kws K))) = true := c2
      obtain ⟨k1, k2⟩ := ba c3
      obtain ⟨k3, k4⟩ := ba k2
      exact ⟨_, ⟨oc, od, n8, n9, n10, n11, n12, n13, n14, osl, rfl, q, k1, dflB_ok k3, kwdB_ok k4⟩, kp⟩
    | _ => cases c2
theorem propOf {K : PySem.W.Frag} {p : PrD} (c : aOk K p = true) : PropOf K (ga K p.cls) p.nm (ma K (ga K p.cls) p.nm) (pA K p) := by
  obtain ⟨c1, c⟩ := ba c
  obtain ⟨c2, c⟩ := ba c
  obtain ⟨c3, c4⟩ := ba c
  refine ⟨eqO_ok c1, eqO_ok c2, of_decide_eq_true c3, ?_⟩
  unfold pA
  split at c4
  · rename_i g rest h
    rw [h]
    exact ⟨_, rfl⟩
  · cases c4
def tyN : List String := ["NoneType", "bool", "int", "str", "tuple", "list", "dict"]
def iOk (K : PySem.W.Frag) (x : Str) : Bool := eqO (PySem.W.findIn K (.ref (ga K x)) "__class__") (some (some (.builtin "object.__class__"))) && (eqO (PySem.W.specialIn K (.builtin "object.__class__") "__get__") (some (some (.builtin "getset_descriptor.__get__"))) &&
  (decide (PySem.W.takesIn K (.builtin "object.__class__") = some true) && (decide (PySem.W.mroIn K (ga K x) (.type "object") = some true) && tyN.all fun t => decide (PySem.W.kitOne K (.type t) (.ref (ga K x)) = some false))))
def iiOk (K : PySem.W.Frag) (xs : List Str) : Bool := xs.all fun x => xs.all fun y => decide (PySem.W.kitOne K (.ref (ga K x)) (.ref (ga K y)) = some (x == y))
def refsY (o : Obj) : List Addr := match o.data with
  | .func fd => refV fd.code ++ refV fd.defaults
  | .cls cd => [cd.ns]
  | .dict es _ => es.toList.flatMap fun e => refV e.val
  | .fields vs => if o.cls == .type "property" then vs.toList.flatMap refV else []
  | _ => []
def nextY (g : Addr → Option Obj) (as : List Addr) : List Addr := as.flatMap fun a => match g a with
  | some o => refsY o
  | none => []
def levY (g : Addr → Option Obj) : Nat → List Addr → List Addr
  | 0, as => as
  | n + 1, as => as ++ levY g n (nextY g as)
def asY (g : Addr → Option Obj) : List Addr := levY g 5 [mainGlobals]
abbrev AlY : Type := AlT × (Bool × List FnW)
def exY (gs : List PrD) (is : List Str) (ex : PySem.W.Frag → Bool) (K : PySem.W.Frag) : Bool := ex K && (gs.all (pOk K) && (is.all (iOk K) && iiOk K is))
def obsK (fa : List Fa) (fn : List DefD) (ts : List Tab) (ex : PySem.W.Frag → Bool) (gs : List PrD) (is : List Str) (K : PySem.W.Frag) : AlY := (obsT fa fn ts K, exY gs is ex K, gs.map fun p => pW K p)
def obsY (fa : List Fa) (fn : List DefD) (ts : List Tab) (ex : PySem.W.Frag → Bool) (gs : List PrD) (is : List Str) (g : Addr → Option Obj) : AlY := obsK fa fn ts ex gs is (frG g (asY g))
def valY (fn : List DefD) (ts : List Tab) (gs : List PrD) (w : World) : AlY := (valT fn ts w, true, gs.map fun p => p.d.val)
structure SaysY (fa : List Fa) (fn : List DefD) (ts : List Tab) (ex : PySem.W.Frag → Bool) (gs : List PrD) (is : List Str) (w : World) (h : Heap) (K : PySem.W.Frag) : Prop where
  t : SaysT fa fn ts w K
  ey : exY gs is ex K = true
  g : gs.map (fun p => pW K p) = gs.map fun p => p.d.val
def hookY (fa : List Fa) (fn : List DefD) (ts : List Tab) (ex : PySem.W.Frag → Bool) (gs : List PrD) (is : List Str) : PySem.W.Hook where
  α := AlY
  obs := fun s => obsY fa fn ts ex gs is s.heap.get?
  val := fun w => valY fn ts gs w
  says := fun w h => ∃ K : PySem.W.Frag, K.In h ∧ SaysY fa fn ts ex gs is w h K
  of := fun w s e => ⟨_, frG_in, ⟨congrArg (fun z : AlY => z.1) e, congrArg (fun z : AlY => z.2.1) e, congrArg (fun z : AlY => z.2.2) e⟩⟩
  keeps := fun w h h' ⟨K, hK, c⟩ k => ⟨K, PySem.W.Frag.In.keeps hK k, ⟨c.t, c.ey, c.g⟩⟩
theorem obsY_eq {fa : List Fa} {fn : List DefD} {ts : List Tab} {ex : PySem.W.Frag → Bool} {gs : List PrD} {is : List Str} {g : Addr → Option Obj} {s : Shared} (h : ∀ a, g a = s.heap.get? a) : obsY fa fn ts ex gs is g = (hookY fa fn ts ex gs is).obs s := by
  have e : g = s.heap.get? := funext h
  rw [e] <;> rfl
section
variable {fa : List Fa} {fn : List DefD} {ts : List Tab} {ex : PySem.W.Frag → Bool} {gs : List PrD} {is : List Str} {w : World} {h : Heap} {K : PySem.W.Frag}
theorem SaysY.more (c : SaysY fa fn ts ex gs is w h K) : ex K = true := (ba c.ey).1
theorem SaysY.pr (c : SaysY fa fn ts ex gs is w h K) (i : Nat) {p : PrD} (hp : gs[i]? = some p := by rfl) : PropOf K (ga K p.cls) p.nm (ma K (ga K p.cls) p.nm) (pA K p) ∧ ∃ fd, FunD K p.d.name p.d.qual p.d.params p.d.body p.d.scope (p.d.dvs K) (p.d.kws K) (pA K p) fd := by
  obtain ⟨_, c2⟩ := ba c.ey
  obtain ⟨c3, _⟩ := ba c2
  obtain ⟨k1, k2⟩ := ba (List.all_eq_true.mp c3 p (List.mem_of_getElem? hp))
  have e := c.g
  have e2 : (gs.map fun p => pW K p)[i]? = (gs.map fun p => p.d.val)[i]? := by rw [e]
  rw [List.getElem?_map, List.getElem?_map, hp] at e2
  exact ⟨propOf k1, funD (Option.some.inj e2) k2⟩
theorem SaysY.is_ (c : SaysY fa fn ts ex gs is w h K) {x : Str} (hx : x ∈ is) : PySem.W.findIn K (.ref (ga K x)) "__class__" = some (some (.builtin "object.__class__")) ∧ PySem.W.specialIn K (.builtin "object.__class__") "__get__" = some (some (.builtin "getset_descriptor.__get__")) ∧
    PySem.W.takesIn K (.builtin "object.__class__") = some true ∧ PySem.W.mroIn K (ga K x) (.type "object") = some true ∧ ∀ t ∈ tyN, PySem.W.kitOne K (.type t) (.ref (ga K x)) = some false := by
  obtain ⟨_, c2⟩ := ba c.ey
  obtain ⟨_, c2⟩ := ba c2
  obtain ⟨c2, _⟩ := ba c2
  have k := List.all_eq_true.mp c2 x hx
  obtain ⟨k1, k⟩ := ba k
  obtain ⟨k2, k⟩ := ba k
  obtain ⟨k3, k⟩ := ba k
  obtain ⟨k4, k5⟩ := ba k
  exact ⟨eqO_ok k1, eqO_ok k2, of_decide_eq_true k3, of_decide_eq_true k4, fun t ht => of_decide_eq_true (List.all_eq_true.mp k5 t ht)⟩
theorem SaysY.ii (c : SaysY fa fn ts ex gs is w h K) {x y : Str} (hx : x ∈ is) (hy : y ∈ is) : PySem.W.kitOne K (.ref (ga K x)) (.ref (ga K y)) = some (x == y) := by
  obtain ⟨_, c2⟩ := ba c.ey
  obtain ⟨_, c2⟩ := ba c2
  obtain ⟨_, c2⟩ := ba c2
  exact of_decide_eq_true (List.all_eq_true.mp (List.all_eq_true.mp c2 x hx) y hy)
end
end HeY
namespace HdT
open PySem PySem.Spec PyProof.Rows L2
def top (i : Nat) : Stmt := PySem.Challenge.pw_turnedlevels_k04_whole_turned_forms.main.body.getD i (.Pass ⟨0, 0, 0, 0⟩)
def d0 : He.DefD := ⟨("check_scheme", none), "check_scheme", "check_scheme", defArgs (top 20), defBody (top 20), defScope (top 20), [], []⟩
def d1 : He.DefD := ⟨("is_integer", none), "is_integer", "is_integer", defArgs (top 11), defBody (top 11), defScope (top 11), [], []⟩
def d2 : He.DefD := ⟨("is_between", none), "is_between", "is_between", defArgs (top 12), defBody (top 12), defScope (top 12), [], []⟩
def d3 : He.DefD := ⟨("is_form", none), "is_form", "is_form", defArgs (top 21), defBody (top 21), defScope (top 21), [], []⟩
def d4 : He.DefD := ⟨("check_form", none), "check_form", "check_form", defArgs (top 22), defBody (top 22), defScope (top 22), [], []⟩
def d5 : He.DefD := ⟨("turned_once", none), "turned_once", "turned_once", defArgs (top 24), defBody (top 24), defScope (top 24), [], []⟩
def d6 : He.DefD := ⟨("turned_by", none), "turned_by", "turned_by", defArgs (top 25), defBody (top 25), defScope (top 25), [], []⟩
def d7 : He.DefD := ⟨("is_word", none), "is_word", "is_word", defArgs (top 23), defBody (top 23), defScope (top 23), [], []⟩
def d8 : He.DefD := ⟨("turned", none), "turned", "turned", defArgs (top 26), defBody (top 26), defScope (top 26), [], []⟩
def d9 : He.DefD := ⟨("_law_draw", none), "_law_draw", "_law_draw", defArgs (top 29), defBody (top 29), defScope (top 29), [], []⟩
def d10 : He.DefD := ⟨("_law_labels", none), "_law_labels", "_law_labels", defArgs (top 31), defBody (top 31), defScope (top 31), [], []⟩
def d11 : He.DefD := ⟨("_law_moves", none), "_law_moves", "_law_moves", defArgs (top 32), defBody (top 32), defScope (top 32), [], []⟩
def d12 : He.DefD := ⟨("image_in", none), "image_in", "image_in", defArgs (top 15), defBody (top 15), defScope (top 15), [], []⟩
def d13 : He.DefD := ⟨("is_name", none), "is_name", "is_name", defArgs (top 13), defBody (top 13), defScope (top 13), [], []⟩
def d14 : He.DefD := ⟨("turn_in", none), "turn_in", "turn_in", defArgs (top 16), defBody (top 16), defScope (top 16), [], []⟩
def d15 : He.DefD := ⟨("are_ascending", none), "are_ascending", "are_ascending", defArgs (top 17), defBody (top 17), defScope (top 17), [], []⟩
def d16 : He.DefD := ⟨("scheme_in", none), "scheme_in", "scheme_in", defArgs (top 18), defBody (top 18), defScope (top 18), [], []⟩
def d17 : He.DefD := ⟨("Scheme", some "__init__"), "__init__", "Scheme.__init__", defArgs (inClass (top 19) 0), defBody (inClass (top 19) 0), defScope (inClass (top 19) 0), [], []⟩
def d18 : He.DefD := ⟨("_law_sum", none), "_law_sum", "_law_sum", defArgs (top 34), defBody (top 34), defScope (top 34), [], []⟩
def d19 : He.DefD := ⟨("_law_pick", none), "_law_pick", "_law_pick", defArgs (top 30), defBody (top 30), defScope (top 30), [], []⟩
def d20 : He.DefD := ⟨("_law_moved", none), "_law_moved", "_law_moved", defArgs (top 35), defBody (top 35), defScope (top 35), [], []⟩
def d21 : He.DefD := ⟨("_law_spelled", none), "_law_spelled", "_law_spelled", defArgs (top 33), defBody (top 33), defScope (top 33), [], []⟩
def d22 : He.DefD := ⟨("_law_right", none), "_law_right", "_law_right", defArgs (top 36), defBody (top 36), defScope (top 36), [], []⟩
def d23 : He.DefD := ⟨("_law_purse", none), "_law_purse", "_law_purse", defArgs (top 28), defBody (top 28), defScope (top 28), [], []⟩
def d24 : He.DefD := ⟨("law", none), "law", "law", defArgs (top 37), defBody (top 37), defScope (top 37), [], []⟩
def fn : List He.DefD := [d0, d1, d2, d3, d4, d5, d6, d7, d8, d9, d10, d11, d12, d13, d14, d15, d16, d17, d18, d19, d20, d21, d22, d23, d24]
def gs : List HeY.PrD := []
def is_ : List Str := ["Scheme"]
def fa : List He.Fa := [.glo "check_scheme", .glo "is_integer", .glo "is_between", .glo "is_form", .glo "check_form", .glo "turned_once", .glo "turned_by", .glo "is_word", .glo "turned", .glo "_law_draw", .glo "_law_labels", .glo "_law_moves", .glo "image_in", .glo "is_name", .glo "turn_in", .glo "are_ascending", .glo "scheme_in", .glo "_law_sum", .glo "_law_pick", .glo "_law_moved", .glo "_law_spelled", .glo "_law_right", .glo "_law_purse", .glo "law", .free "abs", .free "all", .free "bool", .free "dict", .free "divmod", .free "enumerate", .free "int", .free "isinstance", .free "len", .free "list", .free "max", .free "min", .free "range", .free "sorted", .free "str", .free "sum", .free "tuple", .free "zip", .int "MOST_FACTOR" 1000, .str "LETTERS" "abcdefghijklmnopqrstuvwxyz", .int "MOST_NAMES" 6, .int "MOST_TURNS" 4, .glo "Scheme", .cls "Scheme", .mkr "Scheme", .noat "Scheme" "written", .noat "Scheme" "labels", .noat "Scheme" "moves", .noat "Scheme" "is "]
def ts : List He.Tab := []
def ex (K : PySem.W.Frag) : Bool := true
abbrev R : PySem.W.OpenRow := PySem.W.OpenLaw.row PySem.Challenge.rw_turnedlevels_k04_whole_turned_forms
abbrev hk : PySem.W.Hook := HeY.hookY fa fn ts ex gs is_
def ob (s : PySem.W.SharedT) : HeY.AlY := HeY.obsY fa fn ts ex gs is_ (HandSHeadRun.getT s)
theorem ob_eq (s : PySem.W.SharedT) : ob s = hk.obs s.abs := HeY.obsY_eq (HandSHeadRun.getT_eq s)
def nm0 : List PySem.Str := ["__name__", "WrongValue", "InvalidText", "InvalidForm", "NotAScheme", "InvalidWords", "MOST_NAMES", "MOST_TURNS", "MOST_FACTOR", "LETTERS", "is_integer", "is_between", "is_name", "image_in", "turn_in", "are_ascending", "scheme_in", "Scheme", "check_scheme", "is_form", "check_form", "is_word", "turned_once", "turned_by"]
def nm1 : List PySem.Str := ["turned", "_law_purse", "_law_draw", "_law_pick", "_law_labels", "_law_moves", "_law_spelled", "_law_sum", "_law_moved", "_law_right"]
def nms : List PySem.Str := nm0 ++ nm1
theorem run0 (w : World) : HandSHeadRun.RunEq R (PySem.W.view R.prog [37]) hk ob 20000 nms (w.withFollow "special-get-raises" false) := by
  intro os
  kernel_rfl
theorem run1 (w : World) : HandSHeadRun.RunEq R (PySem.W.view R.prog [37]) hk ob 20000 nms (w.withFollow "special-get-raises" true) := by
  intro os
  kernel_rfl
theorem run (w : World) : HandSHeadRun.RunEq R (PySem.W.view R.prog [37]) hk ob 20000 nms w := PySem.W.byRow2 "special-get-raises" (P := fun w => HandSHeadRun.RunEq R (PySem.W.view R.prog [37]) hk ob 20000 nms w) run0 run1 w
end HdT
namespace T
open PySem PySem.Spec PyProof.Rows L2
structure FnG (P : Program) (w : World) (K : PySem.W.Frag) (mg : Str → Option Value) (hb : Heap) (CX : CXT) (lv : Nat) (a : Addr) (fd : FuncData) (ps : List Str) (sp : Sp) : Prop where
  ar : ∀ xs H Q E, sp xs H Q E → xs.length = ps.length
  go : ∀ (A : Around) (up : List PySem.Env) (st : Shared) (H : Hp) (ar : Args) (us : List Value) (xs : List V) (Q : VK) (E : XK), A.guards = some [] → Room lv A → Env0 P w K mg hb A up st H → BindsTo st fd ar (ps.zip us) → Vals xs us → sp xs H Q E →
    codeAny (model P w) A (.call (.ref a) ar) (CR CX up P w H st Q E) st
section
variable {P : Program} {w : World} {K : PySem.W.Frag} {mg : Str → Option Value} {hb : Heap} {CX : CXT} {i j : Nat} {a : Addr} {fd : FuncData} {ps : List Str} {sp sq : Sp}
theorem FnG.up (F : FnG P w K mg hb CX i a fd ps sp) (h : i ≤ j) : FnG P w K mg hb CX j a fd ps sp :=
  ⟨F.ar, fun A up st H ar us xs Q E g r => F.go A up st H ar us xs Q E g (r.mono h)⟩
theorem FnG.weak (F : FnG P w K mg hb CX i a fd ps sp) (h : ∀ xs H Q E, sq xs H Q E → sp xs H Q E) : FnG P w K mg hb CX i a fd ps sq :=
  ⟨fun xs H Q E q => F.ar xs H Q E (h xs H Q E q), fun A up st H ar us xs Q E g r e b v q => F.go A up st H ar us xs Q E g r e b v (h xs H Q E q)⟩
end
section
variable {X : Cx} {CX : CXT} {lv n : Nat} {fa C : Addr} {fd : FuncData} {ps ks : List Str} {sp : Sp} {E : XK} {x : Str} {p pos : Pos} {e : Expr} {es : List Expr} {t tk : TA} {kws : List Keyword}
theorem g_run {pins : List (Addr × Obj)} {σ : L2.St} {H : Hp} {st : Shared} {Q : VK} {us vs : List Value} {kw : List (Str × Value)} {xs : List V} (F : FnG X.prog X.w X.K X.mg X.base CX lv fa fd ps sp) (g : X.A.guards = some []) (hr : Room lv X.A) (hx : Passes CX X E)
    (I : Inv X pins σ H st) (hb : BindsTo st fd ⟨us, kw⟩ (ps.zip vs)) (r : Vals xs vs) (h : sp xs H Q E) : wpAny (model X.prog X.w) X.A (call (.ref fa) us kw) (EP X pins σ Q) X.xe st := by
  refine wpAny_call (codeAny_mono (F.go X.A X.stack st H ⟨us, kw⟩ vs xs Q E g hr I.env0 hb r h) fun res st' z => ?_)
  match res, z with
  | .error er, z => exact hx pins σ H st er st' I z
  | .ok (.ret u), z => exact I.after z
  | .ok .next, z => exact z.elim
  | .ok .brk, z => exact z.elim
  | .ok .cont, z => exact z.elim
theorem g_pos {pins : List (Addr × Obj)} {σ : L2.St} {H : Hp} {st : Shared} {Q : VK} {us : List Value} {xs : List V} (F : FnG X.prog X.w X.K X.mg X.base CX lv fa fd ps sp) (g : X.A.guards = some []) (hr : Room lv X.A) (hb : Binds X.K fd ps []) (hx : Passes CX X E)
    (I : Inv X pins σ H st) (r : Vals xs us) (h : sp xs H Q E) : wpAny (model X.prog X.w) X.A (call (.ref fa) us) (EP X pins σ Q) X.xe st := by
  have hl : (us ++ []).length = ps.length := by
    rw [List.append_nil, ← r.length]
    exact F.ar xs H Q E h
  have b := hb st us I.kIn hl
  rw [List.append_nil] at b
  exact g_run F g hr hx I b r h
def tG (sp : Sp) (E : XK) (t : TA) : TE := fun σ H Q => t σ H fun xs H1 => sp xs H1 Q E
theorem g_call (F : FnG X.prog X.w X.K X.mg X.base CX lv fa fd ps sp) (g : X.A.guards = some []) (hr : Room lv X.A) (hg : Gl X x) (hm : X.mg x = some (.ref fa)) (hk : PySem.W.keepIn X.K (.ref fa) = true) (hb : Binds X.K fd ps []) (hx : Passes CX X E)
    (ha : PA X (e :: es) t) (hdb : (x == ("__debug__" : Str)) = false) (he : starEach (e :: es) X.env = (false, eval e X.env) :: starEach es X.env) (hp : (backTo pos (starEach es X.env)).any (·.1) = false) : PE X (.Call (.Name x p) (e :: es) [] pos) (tG sp E t) :=
  ⟨fun pins st σ H Q I h => wpAny_Call_Name_kw (ld_glob I hg hm (PySem.W.callWith_K (h₀ := X.base) I.ok.mod.kin hk (thn (ha.run pos pins st σ H _ I h) fun us st1 ⟨xs, H1, I1, r, q⟩ => ⟨I1.kIn, g_pos F g hr hb hx I1 r q⟩) he hp) hdb)⟩
theorem g_call0 (F : FnG X.prog X.w X.K X.mg X.base CX lv fa fd ps sp) (g : X.A.guards = some []) (hr : Room lv X.A) (hg : Gl X x) (hm : X.mg x = some (.ref fa)) (hk : PySem.W.keepIn X.K (.ref fa) = true) (hb : Binds X.K fd ps []) (hx : Passes CX X E)
    (hdb : (x == ("__debug__" : Str)) = false) : PE X (.Call (.Name x p) [] [] pos) (tG sp E tNil) :=
  ⟨fun pins st σ H Q I h => wpAny_Call_Name_kw (ld_glob I hg hm (PySem.W.callWith_K0 I.kIn hk (g_pos (us := []) F g hr hb hx I .nil h)) hdb)⟩
def tGk (n m : Nat) (sp : Sp) (gv : List V → List V → List V) (E : XK) (t tk : TA) : TE := fun σ H Q => t σ H fun xs H1 => tk σ H1 fun zs H2 => (xs.length = n ∧ zs.length = m) ∧ sp (gv xs zs) H2 Q E
variable {gu : List Value → List Value → List Value} {gv : List V → List V → List V}
theorem g_callk (F : FnG X.prog X.w X.K X.mg X.base CX lv fa fd ps sp) (g : X.A.guards = some []) (hr : Room lv X.A) (hg : Gl X x) (hm : X.mg x = some (.ref fa)) (hk : PySem.W.keepIn X.K (.ref fa) = true) (hb : KBn X.K fd ps n ks gu gv) (hx : Passes CX X E)
    (ha : PA X (e :: es) t) (hw : PK X kws tk) (h1 : (backToKw pos (keywordEach kws X.env)).all (·.1.isSome) = true) (h2 : (backToKw pos (keywordEach kws X.env)).filterMap (·.1) = ks) (hdb : (x == ("__debug__" : Str)) = false) (he : starEach (e :: es) X.env = (false, eval e X.env) :: starEach es X.env)
    (hp : ((backTo pos (starEach (e :: es) X.env)).any (·.1) || (backToKw pos (keywordEach kws X.env)).any (·.1.isNone)) = false) : PE X (.Call (.Name x p) (e :: es) kws pos) (tGk n ks.length sp gv E t tk) := by
  constructor
  intro pins st σ H Q I h
  refine wpAny_Call_Name_kw (ld_glob I hg hm (PySem.W.callWith_KW (h₀ := X.base) I.ok.mod.kin hk h1 (thn (ha.run pos pins st σ H _ I h) fun us st1 ⟨xs, H1, I1, r, q⟩ => ?_) hp he) hdb)
  refine thn (hw.run pos pins st1 σ H1 _ I1 q) fun ws st2 ⟨zs, H2, I2, rz, ⟨l1, l2⟩, q2⟩ => ⟨I2.kIn, ?_⟩
  rw [h2]
  exact g_run F g hr hx I2 (hb.to st2 us ws I2.kIn (by rw [← r.length]; exact l1) (by rw [← rz.length]; exact l2)) (hb.rel r rz) q2
theorem g_callk0 (F : FnG X.prog X.w X.K X.mg X.base CX lv fa fd ps sp) (g : X.A.guards = some []) (hr : Room lv X.A) (hg : Gl X x) (hm : X.mg x = some (.ref fa)) (hk : PySem.W.keepIn X.K (.ref fa) = true) (hb : KBn X.K fd ps 0 ks gu gv) (hx : Passes CX X E)
    (hw : PK X kws tk) (h1 : (backToKw pos (keywordEach kws X.env)).all (·.1.isSome) = true) (h2 : (backToKw pos (keywordEach kws X.env)).filterMap (·.1) = ks) (hdb : (x == ("__debug__" : Str)) = false)
    (hp : ((backTo pos (starEach [] X.env)).any (·.1) || (backToKw pos (keywordEach kws X.env)).any (·.1.isNone)) = false) : PE X (.Call (.Name x p) [] kws pos) (tGk 0 ks.length sp gv E tNil tk) := by
  constructor
  intro pins st σ H Q I h
  refine wpAny_Call_Name_kw (ld_glob I hg hm (PySem.W.callWith_KW0 (h₀ := X.base) I.ok.mod.kin hk h1 (thn (hw.run pos pins st σ H _ I h) fun ws st2 ⟨zs, H2, I2, rz, ⟨_, l2⟩, q2⟩ => ⟨I2.kIn, ?_⟩) hp) hdb)
  rw [h2]
  exact g_run F g hr hx I2 (hb.to st2 [] ws I2.kIn rfl (by rw [← rz.length]; exact l2)) (hb.rel .nil rz) q2
theorem mk_guards {A : Around} {us : List Value} {kw : List (Str × Value)} : (A.under (.builtin "type.__call__" ⟨.ref C :: us, kw⟩)).guards = A.guards := by
  show pushGuards (Code.guards (.builtin "type.__call__" ⟨.ref C :: us, kw⟩)) A.guards = A.guards
  have e : Code.guards (.builtin "type.__call__" ⟨.ref C :: us, kw⟩) = [] := by
    unfold Code.guards
    exact if_neg (by show ¬ guardIds.contains "type.__call__" = true; decide +kernel)
  rw [e]
  rfl
def tGm (C : Addr) (sp : Sp) (E : XK) (t : TA) : TE := fun σ H Q => t σ H fun xs H1 => ∀ q d, H1 q = none → H1 d = none → d ≠ q → sp (.ref q :: xs) (upd (upd H1 d (.own q)) q (.ins C d [])) (fun v H2 => v = .non ∧ Q (.ref q) H2) E
theorem g_new {pins : List (Addr × Obj)} {σ : L2.St} {H : Hp} {st : Shared} {Q : VK} {us vs : List Value} {kw : List (Str × Value)} {xs : List V} (M : Mk X.K C fa) (F : FnG X.prog X.w X.K X.mg X.base CX lv fa fd ps sp) (g : X.A.guards = some []) (hr : Room (lv + 1) X.A)
    (hb : ∀ (s : Shared) (q : Value), X.K.In s.heap → (q :: vs).length = ps.length → BindsTo s fd ⟨q :: us, kw⟩ (ps.zip (q :: vs))) (hx : Passes CX X E) (I : Inv X pins σ H st) (r : Vals xs vs)
    (h : ∀ q d, H q = none → H d = none → d ≠ q → sp (.ref q :: xs) (upd (upd H d (.own q)) q (.ins C d [])) (fun v H2 => v = .non ∧ Q (.ref q) H2) E) : wpAny (model X.prog X.w) X.A (call (.ref C) us kw) (EP X pins σ Q) X.xe st := by
  have z := h (st.heap.objs.size + 1) st.heap.objs.size (I.hok.fresh (Nat.le_succ _)) (I.hok.fresh (Nat.le_refl _)) (Nat.ne_of_lt (Nat.lt_succ_self _))
  have J := Inv.made (C := C) I
  have rr : Vals (V.ref (st.heap.objs.size + 1) :: xs) (Value.ref (st.heap.objs.size + 1) :: vs) := .cons rfl r
  have hl : (Value.ref (st.heap.objs.size + 1) :: vs).length = ps.length := by
    rw [← rr.length]
    exact F.ar _ _ _ _ z
  have run := F.go _ X.stack _ _ ⟨Value.ref (st.heap.objs.size + 1) :: us, kw⟩ (Value.ref (st.heap.objs.size + 1) :: vs) _ _ E (mk_guards.trans g) (hr.make C us kw) (J.env0.make C us kw) (hb _ _ J.kIn hl) rr z
  refine wpAny_call (make_map (f := fa) I.kIn M.makes M.init (beq_iff_eq.mp M.fn) (codeAny_mono run fun res st' y => ?_))
  match res, y with
  | .error er, y => exact hx pins σ _ _ er st' J y
  | .ok (.ret u), y =>
    obtain ⟨v, H', J', rv, ev, q⟩ := J.after y
    subst ev
    exact ⟨rv, ⟨.ref (st.heap.objs.size + 1), H', J', rfl, q⟩⟩
  | .ok .next, y => exact y.elim
  | .ok .brk, y => exact y.elim
  | .ok .cont, y => exact y.elim
theorem g_make (M : Mk X.K C fa) (F : FnG X.prog X.w X.K X.mg X.base CX lv fa fd ps sp) (g : X.A.guards = some []) (hr : Room (lv + 1) X.A) (hg : Gl X x) (hm : X.mg x = some (.ref C)) (hb : Binds X.K fd ps []) (hx : Passes CX X E)
    (ha : PA X (e :: es) t) (hdb : (x == ("__debug__" : Str)) = false) (he : starEach (e :: es) X.env = (false, eval e X.env) :: starEach es X.env) (hp : (backTo pos (starEach es X.env)).any (·.1) = false) : PE X (.Call (.Name x p) (e :: es) [] pos) (tGm C sp E t) := by
  constructor
  intro pins st σ H Q I h
  refine wpAny_Call_Name_kw (ld_glob I hg hm (PySem.W.callWith_K (h₀ := X.base) I.ok.mod.kin M.kp (thn (ha.run pos pins st σ H _ I h) fun us st1 ⟨xs, H1, I1, r, q⟩ => ⟨I1.kIn, ?_⟩) he hp) hdb)
  refine g_new M F g hr (fun s v kin hl => ?_) hx I1 r q
  have b := hb s (v :: us) kin (by rw [List.append_nil]; exact hl)
  rw [List.append_nil] at b
  exact b
end
theorem g_def {P : Program} {w : World} {K : PySem.W.Frag} {mg : Str → Option Value} {hb : Heap} {x qual : Str} {params : Arguments} {body : List Stmt} {scope : Scope} {dvs : List V} {kws : List (Str × V)} {fa : Addr} {fd : FuncData} {CX : CXT} {N ps : List Str} {lv : Nat} {sp : Sp}
    (F : FunD K x qual params body scope dvs kws fa fd) (S : FnScope N ps scope) (ar : ∀ xs H Q E, sp xs H Q E → xs.length = ps.length)
    (hbody : ∀ (cd : Value) (A : Around) (up : List PySem.Env) (st : Shared) (H : Hp) (xs : List V) (Q : VK) (E : XK), A.guards = some [] → Room lv (A.deeper (envOfC qual scope st.heap.objs.size fa cd)) → sp xs H Q E →
      ∃ t, PSs (cxOf CX P w K mg hb N qual scope fa cd A up st H E) body t ∧ t { nx := fun _ H' => Q .non H', rt := Q } (L2.start N xs) H) : FnG P w K mg hb CX (lv + 1) fa fd ps sp := by
  obtain ⟨oc, od, dV, kV, doc, pm, an, cd, ct, osl, rfl, lk, hcd, _, _⟩ := F.ex
  refine ⟨ar, fun A up st H args us xs Q E g hr e0 hbd r z => ?_⟩
  have hin : ∀ {c : Heap}, (∀ b o, c.get? b = some o → st.heap.get? b = some o) → True := fun _ => trivial
  have KX : K.In st.heap := e0.mod.kin.keeps fun b o q => (e0.bs b o q).1
  have lim : st.heap.NoLimit := e0.mod.nolimit.keeps fun b o q => (e0.bs b o q).1
  have slots : ∀ y ∈ ps.zip us, scope.names.lookup y.1 = some .local ∨ (scope.names.lookup y.1 = some .cell ∧ ((cellsFrom (st.heap.objs.size + 1) scope.names []).lookup y.1).isSome = true) := by
    rintro ⟨m, u⟩ hy
    cases S.par m (List.of_mem_zip hy).1 with
    | inl q => exact .inl q
    | inr q => exact .inr ⟨q, PySem.W.cellsFrom_some _ _ _ (.inl q)⟩
  refine codeAny_call_function hr.depth (KX _ _ lk) rfl S.co S.gen rfl (PySem.W.codeRec_of KX hcd) (hbd _ _ _ _ (wpAny_newFunctionEnv_cells S.kind slots fun env he st1 xc => ?_))
  subst he
  obtain ⟨t, ht, hq⟩ := hbody cd A up st H xs Q E g (hr.deeper _) z
  have I : Inv (cxOf CX P w K mg hb N qual scope fa cd A up st H E) [] (L2.start N xs) H st1 := inv_start S hr.hd e0 (ar _ _ _ _ z) r xc
  refine ⟨lim.keeps xc.toInCall.keep, codeAny_func (wpAny_mono (ht.run [] st1 (L2.start N xs) H _ I hq) (fun fl st' hs => ?_) fun er st' hs => hs)⟩
  match fl, hs with
  | .ret u, hs =>
    obtain ⟨v, σ', H', J, rv, q⟩ := hs
    exact ⟨v, H', J.os, J.bare, J.base, J.hok, rv, q⟩
  | .next, hs =>
    obtain ⟨σ', H', J, q⟩ := hs
    exact ⟨.non, H', J.os, J.bare, J.base, J.hok, rfl, q⟩
  | .brk, hs =>
    obtain ⟨_, _, _, q⟩ := hs
    exact q.elim
  | .cont, hs =>
    obtain ⟨_, _, _, q⟩ := hs
    exact q.elim
section
variable {X : Cx} {CX : CXT} {E : XK} {o e : Expr} {es : List Expr} {ta : TE} {t : TA} {m : Str} {pos apos : Pos}
structure MethG (X : Cx) (CX : CXT) (C : Addr) (m : Str) (sp : Sp) : Prop where
  cl : Cls X.K C
  ex : ∃ f fd ps k, Meth X.K C m f ∧ Binds X.K fd ps [] ∧ FnG X.prog X.w X.K X.mg X.base CX k f fd ps sp ∧ Room k X.A
def tGo (X : Cx) (CX : CXT) (E : XK) (m : Str) (ta : TE) (t : TA) : TE := fun σ H Q => ta σ H fun x H1 => ∃ (a C : Addr) (dx : Addr) (fs : List (Str × V)) (sp : Sp), x = .ref a ∧ H1 a = some (.ins C dx fs) ∧ MethG X CX C m sp ∧ fs.lookup m = none ∧ t σ H1 fun vs H2 => sp (.ref a :: vs) H2 Q E
theorem g_meth {pl : Sem Bool} (g : X.A.guards = some []) (he : PE X o ta) (hx : Passes CX X E) (ha : PA X (e :: es) t)
    (hst : starEach (e :: es) X.env = (false, eval e X.env) :: starEach es X.env) (hpl : (backTo pos (starEach es X.env)).any (·.1) = false)
    (ht : eval (.Call (.Attribute o m apos) (e :: es) [] pos) X.env = (do
      let ov ← eval o X.env
      standAt apos.atName
      let (f, first) ← holding [ov] (getMethod ov m pl)
      callWith pos f first (backTo pos (starEach (e :: es) X.env)) (backToKw pos (keywordEach [] X.env))) := by rfl) :
    PE X (.Call (.Attribute o m apos) (e :: es) [] pos) (tGo X CX E m ta t) := by
  refine ⟨fun pins s σ H Q I h => ?_⟩
  refine PySem.W.methodCall_KW (pl := pl) (thn (he.run pins s σ H _ I h) fun u s1 ⟨x, H1, I1, rx, a, C, dx, fs, sp, ex, ea, M, l, q⟩ => ?_) ht
  subst ex
  obtain rfl : u = Value.ref a := rx
  obtain ⟨f, fd, ps, k, hm, hb, F, hr⟩ := M.ex
  refine getmeth_ok I1 ea M.cl hm l ?_
  refine PySem.W.callWith_K (first := [.ref a]) (h₀ := X.base) I1.ok.mod.kin hm.kp (thn (ha.run pos pins s1 σ H1 _ I1 q) fun us s2 ⟨vs, H2, I2, r, q2⟩ => ⟨I2.kIn, ?_⟩) hst hpl
  exact g_pos (us := .ref a :: us) (xs := .ref a :: vs) F g hr hb hx I2 (.cons rfl r) q2
theorem g_meth0 {pl : Sem Bool} (g : X.A.guards = some []) (he : PE X o ta) (hx : Passes CX X E)
    (ht : eval (.Call (.Attribute o m apos) [] [] pos) X.env = (do
      let ov ← eval o X.env
      standAt apos.atName
      let (f, first) ← holding [ov] (getMethod ov m pl)
      callWith pos f first (backTo pos (starEach [] X.env)) (backToKw pos (keywordEach [] X.env))) := by rfl) :
    PE X (.Call (.Attribute o m apos) [] [] pos) (tGo X CX E m ta tNil) := by
  refine ⟨fun pins s σ H Q I h => ?_⟩
  refine PySem.W.methodCall_KW (pl := pl) (thn (he.run pins s σ H _ I h) fun u s1 ⟨x, H1, I1, rx, a, C, dx, fs, sp, ex, ea, M, l, q⟩ => ?_) ht
  subst ex
  obtain rfl : u = Value.ref a := rx
  obtain ⟨f, fd, ps, k, hm, hb, F, hr⟩ := M.ex
  refine getmeth_ok I1 ea M.cl hm l ?_
  exact PySem.W.callWith_K0 (first := [.ref a]) I1.kIn hm.kp (g_pos (us := [.ref a]) (xs := [.ref a]) F g hr hb hx I1 (.cons rfl .nil) q)
structure PropG (X : Cx) (CX : CXT) (C : Addr) (f : Str) (sp : Sp) : Prop where
  cl : Cls X.K C
  ex : ∃ p g fd ps k, PropOf X.K C f p g ∧ Binds X.K fd ps [] ∧ FnG X.prog X.w X.K X.mg X.base CX k g fd ps sp ∧ Room (k + 1) X.A
def tGp (X : Cx) (CX : CXT) (E : XK) (f : Str) (ta : TE) : TE := fun σ H Q => ta σ H fun x H1 => ∃ (a C : Addr) (dx : Addr) (fs : List (Str × V)) (sp : Sp), x = .ref a ∧ H1 a = some (.ins C dx fs) ∧ PropG X CX C f sp ∧ sp [.ref a] H1 Q E
theorem g_prop {f : Str} (gd : X.A.guards = some []) (gd1 : X.A.in1.guards = some []) (he : PE X o ta) (hx : Passes CX X.nox E) (hab : attributeBase o f X.env (eval o X.env) = eval o X.env) : PE X (.Attribute o f pos) (tGp X CX E f ta) := by
  refine ⟨fun pins s σ H Q I h => ?_⟩
  refine attr_of hab (thn (he.run pins s σ H _ I h) fun u s1 ⟨x, H1, I1, rx, a, C, dx, fs, sp, ex, ea, M, q⟩ => ?_)
  subst ex
  obtain rfl : u = Value.ref a := rx
  obtain ⟨p, g, fd, ps, k, hp, hb, F, hr⟩ := M.ex
  have c := M.cl
  obtain ⟨mA, O, _, _, _, _⟩ := ins_get I1.hok ea
  obtain ⟨od, J, _⟩ := O.look
  obtain ⟨rest, hrec⟩ := hp.rec_
  have I2 := I1.tok (s1.toks + 1)
  have hl : ([Value.ref a] ++ []).length = ps.length := by
    rw [← F.ar _ _ _ _ q]
    rfl
  have hc : (PySem.W.clsIn X.K C).isSome = true := by
    obtain ⟨cd, hc, _⟩ := PySem.W.any_some c.hd
    rw [hc]
    rfl
  refine PySem.W.get_bind I1.kIn J (PySem.W.plainGet_of (c.get f)).1 (PySem.W.findObj_data hc hp.at_ hp.get hp.tak) (PySem.W.plainGet_of (c.get f)).2 (wpAny_call (PySem.W.prop_get (s := { s1 with toks := s1.toks + 1 }) I1.kIn hrec ?_))
  refine codeAny_mono (F.go X.A.in1 X.stack { s1 with toks := s1.toks + 1 } H1 ⟨[.ref a], []⟩ [.ref a] [.ref a] Q E gd1 hr.in1 I2.env0.in1 (hb _ [.ref a] I2.kIn hl) (.cons rfl .nil) q) fun r s' hq => ?_
  cases r with
  | error er => exact False.elim (hx pins σ H1 { s1 with toks := s1.toks + 1 } er s' (I2.wish _) hq)
  | ok fl =>
    cases fl with
    | ret u =>
      obtain ⟨v, H', I3, rv, q3⟩ := I2.after hq
      show wpAny _ _ (handedOut u) _ _ _
      rw [PySem.W.handedOut_of (handed_of rv)]
      exact wpAny_pure ⟨v, H', I3, rv, q3⟩
    | next => exact False.elim hq
    | brk => exact False.elim hq
    | cont => exact False.elim hq
end
structure Scr (P : Program) (w : World) (K : PySem.W.Frag) (st : Shared) (a : Addr) (ns : List Int) (H : Hp) : Prop where
  only : Only H
  sq : SqL K H a (ns.map V.int)
  ok : HOk P w H st.heap
  pl : ∀ b, H b ≠ none → b = a
  fr : H a ≠ none → K.lookup a = none
theorem scr_ex {P : Program} {w : World} {K : PySem.W.Frag} {st : Shared} {a : Addr} {vs : List Value} {ns : List Int} (KX : K.In st.heap) (ha : st.heap.get? a = some { cls := .type "list", data := .seq vs.toArray }) (hi : IntsAre vs ns) (hl : ns.length ≤ sizeLine) : ∃ H, Scr P w K st a ns H := by
  have rv := vals_ints hi
  cases hk : K.lookup a with
  | some o =>
    have e := (KX a o hk).symm.trans ha
    cases e
    refine ⟨fun _ => none, fun _ => .inl rfl, .inr ⟨_, vs.toArray, _, hk, rfl, rfl, rfl, ?_, ?_⟩, fun b u z => ?_, fun b z => absurd rfl z, fun z => absurd rfl z⟩
    · rw [List.size_toArray, hi.length]
      exact hl
    · simpa using rv
    · have z : (none : Option HO) = some u := z
      cases z
  | none =>
    obtain ⟨H0, at_, off⟩ : ∃ H0 : Hp, H0 a = some (.frz { cls := .type "list", data := .seq vs.toArray } (.lst (ns.map V.int))) ∧ ∀ b, b ≠ a → H0 b = none := ⟨fun b => if b = a then _ else none, if_pos rfl, fun b n => if_neg n⟩
    refine ⟨H0, fun b => ?_, .inl (.inr ⟨_, at_⟩), fun b u z => ?_, fun b z => ?_, fun _ => hk⟩
    · by_cases n : b = a
      · exact .inr ⟨_, _, by rw [n]; exact at_⟩
      · exact .inl (off b n)
    · by_cases n : b = a
      · subst n
        have e := at_.symm.trans z
        cases e
        exact ⟨ha, by rw [List.length_map]; exact hl, vs, _, rv, ha⟩
      · have e := (off b n).symm.trans z
        cases e
    · by_cases n : b = a
      · exact n
      · exact absurd (off b n) z
theorem g_law {P : Program} {w : World} {K : PySem.W.Frag} {mg mb : Str → Option Value} {CX : CXT} {lv : Nat} {fa a : Addr} {fd : FuncData} {x : Str} {sp : Sp} {st : Shared} {vs : List Value} {ns : List Int}
    (KX : K.In st.heap) (hns : st.heap.Ns mainGlobals mg) (hb : st.heap.Ns builtinsNs mb) (hbb : ∀ y : Str, y ≠ "__name__" → mb y = bootBuiltins y) (hlim : st.heap.NoLimit) (hgen : st.gens = #[])
    (ha : st.heap.get? a = some { cls := .type "list", data := .seq vs.toArray }) (hi : IntsAre vs ns) (hl : ns.length ≤ sizeLine) (hr : Room lv callerA)
    (F : ∀ base : Heap, K.In base → base.Ns mainGlobals mg → FnG P w K mg base CX lv fa fd [x] sp) (hbind : ∀ (s : Shared) (u : Value), BindsTo s fd ⟨[u], []⟩ [(x, u)])
    (hsp : ∀ H : Hp, Only H → SqL K H a (ns.map V.int) → sp [.ref a] H (fun v _ => v = .bl true) fun _ _ _ => False) (hCX : ∀ H e s', CX [] H st (fun _ _ _ => False) e s' → False) :
    codeAny (model P w) callerA (.call (.ref fa) ⟨[.ref a], []⟩) (fun r s' => r = .ok (.ret (.bool true)) ∧ OldK st.heap s'.heap ∧ s'.os = st.os ∧ AllBare s'.gens) st := by
  obtain ⟨H, S⟩ := scr_ex (P := P) (w := w) KX ha hi hl
  have here : ∀ {b : Addr} {o : Obj}, st.heap.get? b = some o → H b = none → (hidT st.heap H).get? b = some o := fun q n => hidT_get q n
  have noD : ∀ {b : Addr} {o : Obj} {es : Array DictEntry} {ep : Nat}, st.heap.get? b = some o → o.data = .dict es ep → H b = none := by
    intro b o es ep q d
    apply Classical.byContradiction
    intro n
    rw [S.pl b n, ha] at q
    cases q
    exact absurd d (by intro z; cases z)
  have ns_ : ∀ {b : Addr} {m : Str → Option Value}, st.heap.Ns b m → (hidT st.heap H).Ns b m := by
    rintro b m ⟨o, es, ep, q, d, r⟩
    exact ⟨o, es, ep, here q (noD q d), d, r⟩
  have kin : K.In (hidT st.heap H) := fun b o q => here (KX b o q) (Classical.byContradiction fun n => by
    have e := S.pl b n
    subst e
    rw [S.fr n] at q
    cases q)
  obtain ⟨mc, l1, l2⟩ := hlim
  have e0 : Env0 P w K mg (hidT st.heap H) callerA [] st H := ⟨rfl, ⟨kin, ns_ hns, ⟨mb, ns_ hb, hbb⟩, ⟨mc, ns_ l1, l2⟩⟩, fun b o q => of_hidT q, Nat.le_of_eq (hidT_size _ _), trivial, fun b z => absurd (show b ∈ ([] : List Addr) from z) List.not_mem_nil, S.ok, .of_eq hgen⟩
  refine codeAny_mono ((F _ kin (ns_ hns)).go callerA [] st H ⟨[.ref a], []⟩ [.ref a] [.ref a] _ _ rfl hr e0 (hbind st (.ref a)) (.cons rfl .nil) (hsp H S.only S.sq)) fun res s' z => ?_
  match res, z with
  | .error er, z => exact (hCX H er s' z).elim
  | .ok .next, z => exact z.elim
  | .ok .brk, z => exact z.elim
  | .ok .cont, z => exact z.elim
  | .ok (.ret u), z =>
    obtain ⟨v, H', os, bare, un, ok', rv, q⟩ := z
    have q : v = .bl true := q
    subst q
    obtain rfl : u = Value.bool true := rv
    refine ⟨rfl, OldK.of_keep fun b o e => ?_, os, bare⟩
    cases hq : H b with
    | none => exact un.keep b o e hq (fun z => absurd (show b ∈ ([] : List Addr) from z) List.not_mem_nil) (by simp)
    | some y =>
      rcases S.only b with n | ⟨ob, ys, n⟩
      · rw [hq] at n
        cases n
      · have e1 := (S.ok b _ n).1
        have e2 := (ok' b _ (un.frzs b ob _ n)).1
        rw [e] at e1
        cases e1
        exact e2
theorem g_end {l : PySem.W.OpenLaw} {n lv : Nat} {q : Program} {loose : List Str} {XP : (Str → Option Value) → Heap → Prop} {YP : World → Heap → Prop} {d : DefRec} {CX : CXT} {x : Str} (hn : l.most = some n) (hn2 : n ≤ sizeLine) (hdf : d.params.defaults = []) (hr : Room lv callerA)
    (F : ∀ (w : World) (mg : Str → Option Value) (fa : Addr) (h : Heap), YP w h → h.Ns mainGlobals mg → mg d.name = some (.ref fa) →
      ∃ (K : PySem.W.Frag) (fd : FuncData) (sp : Sp), K.In h ∧ (∀ (s : Shared) (u : Value), BindsTo s fd ⟨[u], []⟩ [(x, u)]) ∧ (∀ (H : Hp) (a : Addr) (ns : List Int), ns.length ≤ n → Only H → SqL K H a (ns.map V.int) → sp [.ref a] H (fun v _ => v = .bl true) fun _ _ _ => False) ∧
        ∀ base : Heap, K.In base → base.Ns mainGlobals mg → FnG l.prog w K mg base CX lv fa fd [x] sp)
    (hCX : ∀ (H : Hp) (s : Shared) (e : Value) (s' : Shared), CX [] H s (fun _ _ _ => False) e s' → False) : PySem.W.WalkO q loose XP YP l.row.toRowW d [] (fun f vs => PySem.call f vs) := by
  refine Att.attach_call hn hdf ?_
  intro w s0 st mg mb fa o pm cd doc a vs ns G Y ho hd hcd hmg hobj hints hlen hgen
  obtain ⟨K, fd, sp, KX, hb, hsp, hF⟩ := F w mg fa _ Y G.T.g hmg
  exact g_law KX G.T.g G.T.b G.T.builtins G.T.nolimit hgen hobj hints (Nat.le_trans hlen hn2) hr hF hb (fun H h1 h2 => hsp H a ns hlen h1 h2) fun H e s' => hCX H st e s'
end T
namespace RZN
open PySem PySem.Spec PyProof.Rows
abbrev Row := Addr × Addr × Array Value
abbrev IsZ (h : Heap) (z TI TO : Addr) (f0 : Value) (f1 : Bool) : Prop :=
  h.get? z = some { cls := .type "zip", dict := none, data := .fields #[f0, .bool f1, .bool false, .ref TI, .ref TO], slots := #[] }
abbrev IsT (h : Heap) (T : Addr) (vs : List Value) : Prop := h.get? T = some { cls := .type "tuple", data := .seq vs.toArray }
structure ApN (z TI TO : Addr) (rows : List Row) : Prop where
  TIz : TI ≠ z
  TOz : TO ≠ z
  TITO : TI ≠ TO
  iz : ∀ r ∈ rows, r.1 ≠ z ∧ r.1 ≠ TI ∧ r.1 ≠ TO
  ii : ∀ (p q : Nat) (r r' : Row), rows[p]? = some r → rows[q]? = some r' → p ≠ q → r.1 ≠ r'.1
  lz : ∀ r ∈ rows, r.2.1 ≠ z ∧ r.2.1 ≠ TO
  li : ∀ r ∈ rows, ∀ r' ∈ rows, r.2.1 ≠ r'.1
structure Pass (h : Heap) (rows : List Row) (k j : Nat) : Prop where
  it : ∀ (p : Nat) (r : Row), rows[p]? = some r → h.IsListIter r.1 r.2.1 (if p < j then k + 1 else k)
  ls : ∀ r ∈ rows, h.IsList r.2.1 r.2.2
abbrev refsI (rows : List Row) : List Value := rows.map fun r => .ref r.1
theorem Pass.but {h h' : Heap} {rows : List Row} {k j : Nat} {c : Addr} (p : Pass h rows k j) (b : Heap.SameBut c h h') (h1 : ∀ r ∈ rows, r.1 ≠ c) (h2 : ∀ r ∈ rows, r.2.1 ≠ c) : Pass h' rows k j :=
  ⟨fun q r hr => (p.it q r hr).extBut b.extBut (h1 r (List.mem_of_getElem? hr)), fun r hr => (p.ls r hr).extBut b.extBut (h2 r hr)⟩
section
variable {prog : Program} {w : World} {A : Around} {E : Value → Shared → Prop} {s : Shared} {z TI TO : Addr} {rows : List Row} {k : Nat}
theorem Pass.next {h h' : Heap} {j : Nat} {r : Row} (D : ApN z TI TO rows) (p : Pass h rows k j) (hr : rows[j]? = some r) (h1 : h'.IsListIter r.1 r.2.1 (k + 1)) (b : Heap.SameBut r.1 h h') : Pass h' rows k (j + 1) := by
  refine ⟨fun q r' hq => ?_, fun r' hr' => (p.ls r' hr').extBut b.extBut (D.li r' hr' r (List.mem_of_getElem? hr))⟩
  by_cases e : q = j
  · subst e
    rw [hr] at hq
    cases hq
    rw [if_pos (by omega)]
    exact h1
  · have := (p.it q r' hq).extBut b.extBut (D.ii q j r' r hq hr e)
    by_cases hlt : q < j
    · rw [if_pos hlt] at this
      rw [if_pos (by omega)]
      exact this
    · rw [if_neg hlt] at this
      rw [if_neg (by omega)]
      exact this
theorem wpAny_updateSeq_tup {T : Addr} {vs : List Value} {x : Value} {j : Nat} {Q : Unit → Shared → Prop} (hl : vs.length ≤ 1000) (hT : IsT s.heap T vs)
    (h : ∀ h', IsT h' T (vs.set j x) → Heap.SameBut T s.heap h' → Q () { s with heap := h' }) : wpAny (model prog w) A (updateSeq T (·.setIfInBounds j x)) Q E s := by
  have hs : sizeLine = 2 ^ 24 := rfl
  refine wpAny_updateSeq hT rfl (h _ ?_ (Heap.SameBut.update ..)) (by simp only [List.size_toArray]; omega) (by simp only [Array.size_setIfInBounds, List.size_toArray]; omega)
  show (s.heap.update T _).get? T = _
  rw [Heap.get?_update_self _ hT rfl]
  simp [Obj.mapSeq]
theorem wpAny_tupleZ {f0 : Value} {f1 : Bool} {Q : Bool → Shared → Prop} (hz : IsZ s.heap z TI TO f0 f1) (hf : f0 = .none ∨ ∃ T : Addr, f0 = rawInt T)
    (h : ∀ b f1' h', IsZ h' z TI TO f0 f1' → Heap.SameBut z s.heap h' → Q b { s with heap := h' }) : wpAny (model prog w) A (Builtin.SmallTypes.ownedTupleIsFree (.ref z)) Q E s := by
  unfold Builtin.SmallTypes.ownedTupleIsFree
  rcases hf with rfl | ⟨T, rfl⟩
  · exact wpAny_bind (wpAny_field hz rfl (x := .none) rfl (wpAny_pure (h true f1 s.heap hz (Heap.SameBut.refl _ _))))
  · refine wpAny_bind (wpAny_field hz rfl (x := rawInt T) rfl ?_)
    show wpAny _ _ (loadIfAlive ((T : Int).toNat) >>= _) _ _ _
    rw [Int.toNat_natCast]
    refine wpAny_bind ?_
    have al : ∀ {Q' : Option Obj → Shared → Prop}, Q' (s.heap.get? T) s → wpAny (model prog w) A (loadIfAlive T) Q' E s := fun q => fun _ _ _ => q
    refine al ?_
    cases hT : s.heap.get? T with
    | none => exact wpAny_pure (h true f1 s.heap hz (Heap.SameBut.refl _ _))
    | some oT =>
      simp only [Option.isNone_some, Bool.false_eq_true, if_false]
      refine wpAny_bind (wpAny_field hz rfl (x := .bool f1) rfl ?_)
      cases f1 with
      | true =>
        rw [if_neg (show ¬ ((Value.bool true != Value.bool true) = true) from Bool.false_ne_true)]
        exact wpAny_pure (h false true s.heap hz (Heap.SameBut.refl _ _))
      | false =>
        rw [if_pos (show (Value.bool false != Value.bool true) = true from rfl)]
        exact wpAny_bind (wpAny_setField_rec hz (by simp) fun h₁ hz₁ hs₁ => wpAny_pure (h false true h₁ hz₁ hs₁))
theorem row_at {h : Heap} {j : Nat} {r : Row} (p : Pass h rows k j) (hr : rows[j]? = some r) : h.IsListIter r.1 r.2.1 k := by
  have := p.it j r hr
  rwa [if_neg (Nat.lt_irrefl j)] at this
theorem Pass.all {h : Heap} (p : Pass h rows k rows.length) : Pass h rows (k + 1) 0 := ⟨fun q r hq => by
  have := p.it q r hq
  have hl := (List.getElem?_eq_some_iff.mp hq).1
  rw [if_pos hl] at this
  rw [if_neg (Nat.not_lt_zero q)]
  exact this, p.ls⟩
theorem zipIdx_drop {vs : List Value} {j : Nat} {x : Value × Nat} {rest : List (Value × Nat)} (h : x :: rest = vs.zipIdx.drop j) : vs[j]? = some x.1 ∧ x.2 = j ∧ rest = vs.zipIdx.drop (j + 1) := by
  have hj : j < vs.zipIdx.length := by
    by_cases hl : j < vs.zipIdx.length
    · exact hl
    · rw [List.drop_eq_nil_of_le (by omega)] at h
      cases h
  rw [List.drop_eq_getElem_cons hj] at h
  injection h with h1 h2
  rw [List.getElem_zipIdx] at h1
  subst h1
  rw [List.length_zipIdx] at hj
  exact ⟨List.getElem?_eq_getElem hj, by simp, h2⟩
theorem rows_ref {j : Nat} {v : Value} (h : (refsI rows)[j]? = some v) : ∃ r, rows[j]? = some r ∧ v = .ref r.1 := by
  rw [List.getElem?_map] at h
  cases hr : rows[j]? with
  | none => rw [hr] at h; cases h
  | some r =>
    rw [hr] at h
    exact ⟨r, rfl, (Option.some.inj h).symm⟩
theorem zipN_next_item {f0 : Value} {f1 : Bool} {us olds : List Value} {Q : Value → Shared → Prop} (D : ApN z TI TO rows) (hne : rows ≠ []) (hl : rows.length ≤ 1000)
    (hz : IsZ s.heap z TI TO f0 f1) (hf : f0 = .none ∨ ∃ T : Addr, f0 = rawInt T) (hTI : IsT s.heap TI (refsI rows)) (hTO : IsT s.heap TO olds) (ho : olds.length = rows.length) (hP : Pass s.heap rows k 0)
    (hu : us.length = rows.length) (hx : ∀ (p : Nat) (r : Row), rows[p]? = some r → r.2.2[k]? = us[p]?)
    (hQ : ∀ h' f0' f1' olds', IsZ h' z TI TO f0' f1' → (f0' = .none ∨ ∃ T : Addr, f0' = rawInt T) → IsT h' TI (refsI rows) → IsT h' TO olds' → olds'.length = rows.length → Pass h' rows (k + 1) 0 → IsT h' s.heap.objs.size us → h'.objs.size = s.heap.objs.size + 1 →
      (∀ c o, c ≠ z → c ≠ TO → (∀ r ∈ rows, c ≠ r.1) → s.heap.get? c = some o → h'.get? c = some o) → Q (.ref s.heap.objs.size) { s with heap := h' }) :
    wpAny (model prog w) A (Builtin.«zip.__next__» ⟨[.ref z], []⟩) (fun fin s' => ∃ v, fin = .done (.ret v) ∧ Q v s') E s := by
  have hs24 : sizeLine = 2 ^ 24 := rfl
  show wpAny _ _ (field (.ref z) 2 >>= _) _ _ _
  refine wpAny_bind (wpAny_field hz rfl (x := .bool false) rfl ?_)
  show wpAny _ _ (field (.ref z) 3 >>= _) _ _ _
  refine wpAny_bind (wpAny_field hz rfl (x := .ref TI) rfl ?_)
  refine wpAny_bind (wpAny_seqItems hTI rfl ?_)
  have hemp : (refsI rows).toArray.isEmpty = false := by
    cases rows with
    | nil => exact absurd rfl hne
    | cons a b => rfl
  simp only [hemp, Bool.false_eq_true, if_false]
  refine wpAny_bind (wpAny_tupleZ hz hf fun b f1' h₀ hz₀ hs₀ => ?_)
  have nz : ∀ r ∈ rows, r.1 ≠ z := fun r hr => (D.iz r hr).1
  have lz : ∀ r ∈ rows, r.2.1 ≠ z := fun r hr => (D.lz r hr).1
  have hP₀ : Pass h₀ rows k 0 := hP.but hs₀ nz lz
  have hTI₀ : IsT h₀ TI (refsI rows) := hs₀.extBut _ _ D.TIz hTI
  have hTO₀ : IsT h₀ TO olds := hs₀.extBut _ _ D.TOz hTO
  cases b with
  | true =>
    simp only [if_true]
    refine wpAny_bind (wpAny_rule ?_)
    refine wpAny_bind (wpAny_field hz₀ rfl (x := .ref TO) rfl ?_)
    refine wpAny_bind (wpAny_setField_rec hz₀ (by simp) fun h₁ hz₁ hs₁ => ?_)
    replace hz₁ : IsZ h₁ z TI TO .ellipsis f1' := hz₁
    refine wpAny_bind ?_
    have hst : ∀ (c : Addr) (o : Obj), c ≠ z → s.heap.get? c = some o → h₁.get? c = some o := fun c o cz e => hs₁.extBut _ _ cz (hs₀.extBut _ _ cz e)
    refine wpAny_forIn_list _ (fun rest b s' => b = ⟨none, ⟨⟩⟩ ∧ ∃ j h, s' = { s with heap := h } ∧ j ≤ rows.length ∧ rest = (refsI rows).zipIdx.drop j ∧ IsZ h z TI TO .ellipsis f1' ∧ IsT h TO (us.take j ++ olds.drop j) ∧ Pass h rows k j ∧ h.objs.size = s.heap.objs.size ∧
      (∀ c o, c ≠ z → c ≠ TO → (∀ r ∈ rows, c ≠ r.1) → s.heap.get? c = some o → h.get? c = some o)) _ ?_ ?_ _ _ ?_
    · rintro x rest b s' ⟨rfl, j, h, rfl, hj, hr, hz', hT', hp', hsz', hk'⟩
      obtain ⟨hv, hj2, hrest⟩ := zipIdx_drop hr
      obtain ⟨v, jj⟩ := x
      simp only at hv hj2
      subst hj2
      obtain ⟨r, hrr, rfl⟩ := rows_ref hv
      have hm : r ∈ rows := List.mem_of_getElem? hrr
      have hjl : jj < rows.length := (List.getElem?_eq_some_iff.mp hrr).1
      obtain ⟨u, hu'⟩ : ∃ u, us[jj]? = some u := ⟨us[jj]'(by omega), List.getElem?_eq_getElem (by omega)⟩
      refine wpAny_bind (wpAny_onRaise ?_)
      show wpAny _ _ (Builtin.SmallTypes.nextOf (.ref r.1) >>= _) _ _ _
      refine wpAny_bind (wpAny_nextOf_list_item (s := { s with heap := h }) (row_at hp' hrr) (hp'.ls r hm) ((hx jj r hrr).trans hu') fun h₂ h1₂ hs₂ => wpAny_pure ?_)
      have hTO₂ : IsT h₂ TO (us.take jj ++ olds.drop jj) := hs₂.extBut _ _ (Ne.symm (D.iz r hm).2.2) hT'
      refine wpAny_bind (wpAny_seqItems (s := { s with heap := h₂ }) hTO₂ rfl ?_)
      have hlen : (us.take jj ++ olds.drop jj).length = rows.length := by
        rw [List.length_append, List.length_take, List.length_drop]
        omega
      refine wpAny_bind (wpAny_updateSeq_tup (s := { s with heap := h₂ }) (by omega) hTO₂ fun h₃ hT₃ hs₃ => ?_)
      refine wpAny_bind (wpAny_letGo (wpAny_pure ?_))
      refine ⟨rfl, jj + 1, h₃, rfl, hjl, hrest, hs₃.extBut _ _ (Ne.symm D.TOz) (hs₂.extBut _ _ (Ne.symm (D.iz r hm).1) hz'), ?_, ?_, by rw [hs₃.1, hs₂.1, hsz'], fun c o c1 c2 c3 e => hs₃.extBut _ _ c2 (hs₂.extBut _ _ (c3 r hm) (hk' c o c1 c2 c3 e))⟩
      · have : (us.take jj ++ olds.drop jj).set jj u = us.take (jj + 1) ++ olds.drop (jj + 1) := by
          apply List.ext_getElem?
          intro q
          rw [List.getElem?_set]
          have l1 : (us.take jj).length = jj := by rw [List.length_take]; omega
          have l2 : (us.take (jj + 1)).length = jj + 1 := by rw [List.length_take]; omega
          by_cases e1 : jj = q
          · subst e1
            rw [if_pos rfl, if_pos (by rw [hlen]; exact hjl), List.getElem?_append_left (by omega), List.getElem?_take, if_pos (by omega), hu']
          · rw [if_neg e1]
            by_cases e2 : q < jj
            · rw [List.getElem?_append_left (by omega), List.getElem?_append_left (by omega), List.getElem?_take, List.getElem?_take, if_pos e2, if_pos (by omega)]
            · rw [List.getElem?_append_right (by omega), List.getElem?_append_right (by omega), l1, l2, List.getElem?_drop, List.getElem?_drop]
              congr 1
              omega
        rw [← this]
        exact hT₃
      · exact (hp'.next D hrr h1₂ hs₂).but hs₃ (fun r' hr' => (D.iz r' hr').2.2) fun r' hr' => (D.lz r' hr').2
    · rintro b s' ⟨rfl, j, h, rfl, hj, hr, hz', hT', hp', hsz', hk'⟩
      have hjl : j = rows.length := by
        have := congrArg List.length hr
        rw [List.length_drop, List.length_zipIdx, List.length_map, List.length_nil] at this
        omega
      subst hjl
      have hus : us.take rows.length ++ olds.drop rows.length = us := by
        rw [List.take_of_length_le (by omega), List.drop_eq_nil_of_le (by omega), List.append_nil]
      rw [hus] at hT'
      refine wpAny_bind (wpAny_seqItems (s := { s with heap := h }) hT' rfl ?_)
      refine wpAny_bind (wpAny_newTuple ?_ (show us.length ≤ sizeLine by omega))
      have hzlt : z < h.objs.size := Heap.lt_size hz'
      show wpAny _ _ (Builtin.SmallTypes.ownedTupleHandOut (.ref z) (.ref h.objs.size) >>= _) _ _ _
      refine wpAny_bind ?_
      unfold Builtin.SmallTypes.ownedTupleHandOut
      have hz₆ : IsZ (h.push { cls := .type "tuple", data := .seq us.toArray }) z TI TO .ellipsis f1' := Heap.get?_push_of_some _ hz'
      refine wpAny_bind (wpAny_setField_rec hz₆ (by simp) fun h₇ hz₇ hs₇ => ?_)
      replace hz₇ : IsZ h₇ z TI TO (rawInt h.objs.size) f1' := hz₇
      refine wpAny_setField_rec hz₇ (by simp) fun h₈ hz₈ hs₈ => ?_
      replace hz₈ : IsZ h₈ z TI TO (rawInt h.objs.size) false := hz₈
      have up : ∀ c o, c ≠ z → h.get? c = some o → h₈.get? c = some o := fun c o c1 e => hs₈.extBut _ _ c1 (hs₇.extBut _ _ c1 (Heap.get?_push_of_some _ e))
      have hT₈ : IsT h₈ h.objs.size us := hs₈.extBut _ _ (Nat.ne_of_gt hzlt) (hs₇.extBut _ _ (Nat.ne_of_gt hzlt) (Heap.get?_push_size _ rfl))
      have hz8 : h₈.objs.size = h.objs.size + 1 := by rw [hs₈.1, hs₇.1, Heap.size_push]
      have hp8 : Pass h₈ rows (k + 1) 0 := ⟨fun q r hq => (hp'.all.it q r hq).at fun o e => up _ o (nz r (List.mem_of_getElem? hq)) e, fun r hr => (hp'.all.ls r hr).at fun o e => up _ o (lz r hr) e⟩
      refine wpAny_pure ⟨_, rfl, ?_⟩
      show Q (.ref h.objs.size) _
      rw [hsz'] at hz₈ hT₈ hz8 ⊢
      exact hQ h₈ _ _ us hz₈ (.inr ⟨_, rfl⟩) (up _ _ D.TIz (hk' _ _ D.TIz D.TITO (fun r hr => Ne.symm (D.iz r hr).2.1) hTI)) (up _ _ D.TOz hT') hu hp8 hT₈ hz8 fun c o c1 c2 c3 e => up c o c1 (hk' c o c1 c2 c3 e)
    · exact ⟨rfl, 0, h₁, rfl, Nat.zero_le _, rfl, hz₁, by rw [List.take_zero, List.drop_zero, List.nil_append]; exact hst _ _ D.TOz hTO, hP₀.but hs₁ nz lz, by rw [hs₁.1, hs₀.1], fun c o c1 _ _ e => hst c o c1 e⟩
  | false =>
    simp only [Bool.false_eq_true, if_false]
    refine wpAny_bind ?_
    rw [← Array.forIn_toList]
    refine wpAny_forIn_list _ (fun rest b s' => ∃ j h, b = ⟨none, (us.take j).toArray⟩ ∧ s' = { s with heap := h } ∧ j ≤ rows.length ∧ rest = (refsI rows).drop j ∧ IsZ h z TI TO f0 f1' ∧ Pass h rows k j ∧ h.objs.size = s.heap.objs.size ∧
      (∀ c o, c ≠ z → (∀ r ∈ rows, c ≠ r.1) → s.heap.get? c = some o → h.get? c = some o)) _ ?_ ?_ _ _ ?_
    · rintro x rest b s' ⟨j, h, rfl, rfl, hj, hr, hz', hp', hsz', hk'⟩
      have hjl : j < (refsI rows).length := by
        by_cases hl : j < (refsI rows).length
        · exact hl
        · rw [List.drop_eq_nil_of_le (by omega)] at hr
          cases hr
      rw [List.drop_eq_getElem_cons hjl] at hr
      injection hr with hr1 hr2
      obtain ⟨r, hrr, rfl⟩ := rows_ref (v := x) (j := j) (by rw [List.getElem?_eq_getElem hjl, hr1])
      have hm : r ∈ rows := List.mem_of_getElem? hrr
      have hjl : j < rows.length := (List.getElem?_eq_some_iff.mp hrr).1
      obtain ⟨u, hu'⟩ : ∃ u, us[j]? = some u := ⟨us[j]'(by omega), List.getElem?_eq_getElem (by omega)⟩
      refine wpAny_bind (wpAny_holding ?_)
      show wpAny _ _ (Builtin.SmallTypes.nextOf (.ref r.1) >>= _) _ _ _
      refine wpAny_bind (wpAny_nextOf_list_item (s := { s with heap := h }) (row_at hp' hrr) (hp'.ls r hm) ((hx j r hrr).trans hu') fun h₂ h1₂ hs₂ => wpAny_pure ?_)
      refine wpAny_pure ⟨j + 1, h₂, ?_, rfl, hjl, hr2, hs₂.extBut _ _ (Ne.symm (D.iz r hm).1) hz', hp'.next D hrr h1₂ hs₂, by rw [hs₂.1, hsz'], fun c o c1 c3 e => hs₂.extBut _ _ (c3 r hm) (hk' c o c1 c3 e)⟩
      have : us.take (j + 1) = us.take j ++ [u] := by
        rw [List.take_succ, hu']
        rfl
      rw [this]
      simp
    · rintro b s' ⟨j, h, rfl, rfl, hj, hr, hz', hp', hsz', hk'⟩
      have hjl : j = rows.length := by
        have := congrArg List.length hr
        rw [List.length_drop, List.length_map, List.length_nil] at this
        omega
      subst hjl
      have hus : us.take rows.length = us := List.take_of_length_le (by omega)
      rw [hus]
      show wpAny _ _ (newTuple us >>= _) _ _ _
      refine wpAny_bind (wpAny_newTuple ?_ (show us.length ≤ sizeLine by omega))
      refine wpAny_pure ⟨_, rfl, ?_⟩
      show Q (.ref h.objs.size) _
      have up : ∀ c o, h.get? c = some o → (h.push { cls := .type "tuple", data := .seq us.toArray }).get? c = some o := fun c o e => Heap.get?_push_of_some _ e
      have hp : IsT (h.push { cls := .type "tuple", data := .seq us.toArray }) h.objs.size us := Heap.get?_push_size _ rfl
      have hz4 : (h.push { cls := .type "tuple", data := .seq us.toArray }).objs.size = h.objs.size + 1 := Heap.size_push ..
      have hp8 : Pass (h.push { cls := .type "tuple", data := .seq us.toArray }) rows (k + 1) 0 := ⟨fun q r hq => (hp'.all.it q r hq).at fun o e => up _ o e, fun r hr => (hp'.all.ls r hr).at fun o e => up _ o e⟩
      rw [hsz'] at hp hz4 ⊢
      exact hQ _ _ _ olds (up _ _ hz') hf (up _ _ (hk' _ _ D.TIz (fun r hr => Ne.symm (D.iz r hr).2.1) hTI)) (up _ _ (hk' _ _ D.TOz (fun r hr => Ne.symm (D.iz r hr).2.2) hTO)) ho hp8 hp hz4 fun c o c1 c2 c3 e => up c o (hk' c o c1 c3 e)
    · exact ⟨0, h₀, rfl, rfl, Nat.zero_le _, rfl, hz₀, hP₀, hs₀.1, fun c o c1 _ e => hs₀.extBut _ _ c1 e⟩
theorem zipN_next_end {f0 : Value} {f1 : Bool} {olds : List Value} {Q : Fin → Shared → Prop} (hh : A.handled = none) (D : ApN z TI TO rows) (hne : rows ≠ []) (hl : rows.length ≤ 1000)
    (hz : IsZ s.heap z TI TO f0 f1) (hf : f0 = .none ∨ ∃ T : Addr, f0 = rawInt T) (hTI : IsT s.heap TI (refsI rows)) (hTO : IsT s.heap TO olds) (ho : olds.length = rows.length) (hP : Pass s.heap rows k 0)
    (hend : ∃ r ∈ rows, r.2.2[k]? = none)
    (hE : ∀ h' e, (∀ c o, c ≠ z → c ≠ TO → (∀ r ∈ rows, c ≠ r.1) → s.heap.get? c = some o → h'.get? c = some o) → (∃ o, h'.get? e = some o ∧ o.cls = .type "StopIteration") → E (.ref e) { s with heap := h' }) :
    wpAny (model prog w) A (Builtin.«zip.__next__» ⟨[.ref z], []⟩) Q E s := by
  have hs24 : sizeLine = 2 ^ 24 := rfl
  show wpAny _ _ (field (.ref z) 2 >>= _) _ _ _
  refine wpAny_bind (wpAny_field hz rfl (x := .bool false) rfl ?_)
  show wpAny _ _ (field (.ref z) 3 >>= _) _ _ _
  refine wpAny_bind (wpAny_field hz rfl (x := .ref TI) rfl ?_)
  refine wpAny_bind (wpAny_seqItems hTI rfl ?_)
  have hemp : (refsI rows).toArray.isEmpty = false := by
    cases rows with
    | nil => exact absurd rfl hne
    | cons a b => rfl
  simp only [hemp, Bool.false_eq_true, if_false]
  refine wpAny_bind (wpAny_tupleZ hz hf fun b f1' h₀ hz₀ hs₀ => ?_)
  have nz : ∀ r ∈ rows, r.1 ≠ z := fun r hr => (D.iz r hr).1
  have lz : ∀ r ∈ rows, r.2.1 ≠ z := fun r hr => (D.lz r hr).1
  have hP₀ : Pass h₀ rows k 0 := hP.but hs₀ nz lz
  have hTO₀ : IsT h₀ TO olds := hs₀.extBut _ _ D.TOz hTO
  have noall : (∀ (p : Nat) (r : Row), rows[p]? = some r → r.2.2[k]? ≠ none) → False := fun h => by
    obtain ⟨r, hr, hn⟩ := hend
    obtain ⟨p, hp, e⟩ := List.getElem_of_mem hr
    exact h p r (by rw [List.getElem?_eq_getElem hp, e]) hn
  cases b with
  | true =>
    simp only [if_true]
    refine wpAny_bind (wpAny_rule ?_)
    refine wpAny_bind (wpAny_field hz₀ rfl (x := .ref TO) rfl ?_)
    refine wpAny_bind (wpAny_setField_rec hz₀ (by simp) fun h₁ hz₁ hs₁ => ?_)
    replace hz₁ : IsZ h₁ z TI TO .ellipsis f1' := hz₁
    refine wpAny_bind ?_
    have hst : ∀ (c : Addr) (o : Obj), c ≠ z → s.heap.get? c = some o → h₁.get? c = some o := fun c o cz e => hs₁.extBut _ _ cz (hs₀.extBut _ _ cz e)
    refine wpAny_forIn_list _ (fun rest b s' => b = ⟨none, ⟨⟩⟩ ∧ ∃ j h vs, s' = { s with heap := h } ∧ j ≤ rows.length ∧ rest = (refsI rows).zipIdx.drop j ∧ IsZ h z TI TO .ellipsis f1' ∧ IsT h TO vs ∧ vs.length = rows.length ∧ Pass h rows k j ∧ (∀ (p : Nat) (r : Row), p < j → rows[p]? = some r → r.2.2[k]? ≠ none) ∧
      (∀ c o, c ≠ z → c ≠ TO → (∀ r ∈ rows, c ≠ r.1) → s.heap.get? c = some o → h.get? c = some o)) _ ?_ ?_ _ _ ?_
    · rintro x rest b s' ⟨rfl, j, h, vs, rfl, hj, hr, hz', hT', hvl, hp', hno, hk'⟩
      obtain ⟨hv, hj2, hrest⟩ := zipIdx_drop hr
      obtain ⟨v, jj⟩ := x
      simp only at hv hj2
      subst hj2
      obtain ⟨r, hrr, rfl⟩ := rows_ref hv
      have hm : r ∈ rows := List.mem_of_getElem? hrr
      have hjl : jj < rows.length := (List.getElem?_eq_some_iff.mp hrr).1
      refine wpAny_bind (wpAny_onRaise ?_)
      show wpAny _ _ (Builtin.SmallTypes.nextOf (.ref r.1) >>= _) _ _ _
      cases hxk : r.2.2[k]? with
      | none =>
        refine wpAny_bind (wpAny_nextOf_list_end (s := { s with heap := h }) hh (row_at hp' hrr) (hp'.ls r hm) hxk fun h₂ e hs₂ he => ?_)
        obtain ⟨oe, hoe, hce⟩ := he
        have hz₂ : IsZ h₂ z TI TO .ellipsis f1' := hs₂ _ _ (Ne.symm (D.iz r hm).1) hz'
        have hez : e ≠ z := fun x => by subst x; rw [hz₂] at hoe; cases hoe; simp at hce
        exact wpAny_setField_rec (s := { s with heap := h₂ }) hz₂ (by simp) fun h₃ _ hs₃ => hE h₃ e (fun c o c1 c2 c3 x => hs₃.extBut _ _ c1 (hs₂ _ _ (c3 r hm) (hk' c o c1 c2 c3 x))) ⟨oe, hs₃.extBut _ _ hez hoe, hce⟩
      | some u =>
        refine wpAny_bind (wpAny_nextOf_list_item (s := { s with heap := h }) (row_at hp' hrr) (hp'.ls r hm) hxk fun h₂ h1₂ hs₂ => wpAny_pure ?_)
        have hTO₂ : IsT h₂ TO vs := hs₂.extBut _ _ (Ne.symm (D.iz r hm).2.2) hT'
        refine wpAny_bind (wpAny_seqItems (s := { s with heap := h₂ }) hTO₂ rfl ?_)
        refine wpAny_bind (wpAny_updateSeq_tup (s := { s with heap := h₂ }) (by omega) hTO₂ fun h₃ hT₃ hs₃ => ?_)
        refine wpAny_bind (wpAny_letGo (wpAny_pure ?_))
        refine ⟨rfl, jj + 1, h₃, _, rfl, hjl, hrest, hs₃.extBut _ _ (Ne.symm D.TOz) (hs₂.extBut _ _ (Ne.symm (D.iz r hm).1) hz'), hT₃, by rw [List.length_set]; exact hvl, (hp'.next D hrr h1₂ hs₂).but hs₃ (fun r' hr' => (D.iz r' hr').2.2) (fun r' hr' => (D.lz r' hr').2), fun p r' hp hr' => ?_, fun c o c1 c2 c3 e => hs₃.extBut _ _ c2 (hs₂.extBut _ _ (c3 r hm) (hk' c o c1 c2 c3 e))⟩
        by_cases e : p = jj
        · subst e
          rw [hrr] at hr'
          cases hr'
          rw [hxk]
          exact fun z => by cases z
        · exact hno p r' (by omega) hr'
    · rintro b s' ⟨rfl, j, h, vs, rfl, hj, hr, hz', hT', hvl, hp', hno, hk'⟩
      have hjl : j = rows.length := by
        have := congrArg List.length hr
        rw [List.length_drop, List.length_zipIdx, List.length_map, List.length_nil] at this
        omega
      subst hjl
      exact (noall fun p r hp => hno p r (List.getElem?_eq_some_iff.mp hp).1 hp).elim
    · exact ⟨rfl, 0, h₁, olds, rfl, Nat.zero_le _, rfl, hz₁, hst _ _ D.TOz hTO, ho, hP₀.but hs₁ nz lz, fun p r hp => absurd hp (Nat.not_lt_zero p), fun c o c1 _ _ e => hst c o c1 e⟩
  | false =>
    simp only [Bool.false_eq_true, if_false]
    refine wpAny_bind ?_
    rw [← Array.forIn_toList]
    refine wpAny_forIn_list _ (fun rest b s' => ∃ j h us, b = ⟨none, us⟩ ∧ s' = { s with heap := h } ∧ j ≤ rows.length ∧ rest = (refsI rows).drop j ∧ Pass h rows k j ∧ (∀ (p : Nat) (r : Row), p < j → rows[p]? = some r → r.2.2[k]? ≠ none) ∧
      (∀ c o, c ≠ z → (∀ r ∈ rows, c ≠ r.1) → s.heap.get? c = some o → h.get? c = some o)) _ ?_ ?_ _ _ ?_
    · rintro x rest b s' ⟨j, h, us, rfl, rfl, hj, hr, hp', hno, hk'⟩
      have hjl : j < (refsI rows).length := by
        by_cases hl : j < (refsI rows).length
        · exact hl
        · rw [List.drop_eq_nil_of_le (by omega)] at hr
          cases hr
      rw [List.drop_eq_getElem_cons hjl] at hr
      injection hr with hr1 hr2
      obtain ⟨r, hrr, rfl⟩ := rows_ref (v := x) (j := j) (by rw [List.getElem?_eq_getElem hjl, hr1])
      have hm : r ∈ rows := List.mem_of_getElem? hrr
      have hjl : j < rows.length := (List.getElem?_eq_some_iff.mp hrr).1
      refine wpAny_bind (wpAny_holding ?_)
      show wpAny _ _ (Builtin.SmallTypes.nextOf (.ref r.1) >>= _) _ _ _
      cases hxk : r.2.2[k]? with
      | none =>
        exact wpAny_bind (wpAny_nextOf_list_end (s := { s with heap := h }) hh (row_at hp' hrr) (hp'.ls r hm) hxk fun h₂ e hs₂ he => hE h₂ e (fun c o c1 c2 c3 x => hs₂ _ _ (c3 r hm) (hk' c o c1 c3 x)) he)
      | some u =>
        refine wpAny_bind (wpAny_nextOf_list_item (s := { s with heap := h }) (row_at hp' hrr) (hp'.ls r hm) hxk fun h₂ h1₂ hs₂ => wpAny_pure ?_)
        refine wpAny_pure ⟨j + 1, h₂, _, rfl, rfl, hjl, hr2, hp'.next D hrr h1₂ hs₂, fun p r' hp hr' => ?_, fun c o c1 c3 e => hs₂.extBut _ _ (c3 r hm) (hk' c o c1 c3 e)⟩
        by_cases e : p = j
        · subst e
          rw [hrr] at hr'
          cases hr'
          rw [hxk]
          exact fun z => by cases z
        · exact hno p r' (by omega) hr'
    · rintro b s' ⟨j, h, us, rfl, rfl, hj, hr, hp', hno, hk'⟩
      have hjl : j = rows.length := by
        have := congrArg List.length hr
        rw [List.length_drop, List.length_map, List.length_nil] at this
        omega
      subst hjl
      exact (noall fun p r hp => hno p r (List.getElem?_eq_some_iff.mp hp).1 hp).elim
    · exact ⟨0, h₀, _, rfl, rfl, Nat.zero_le _, rfl, hP₀, fun p r hp => absurd hp (Nat.not_lt_zero p), fun c o c1 _ e => hs₀.extBut _ _ c1 e⟩
theorem pyNext_zipN_item {f0 : Value} {f1 : Bool} {us olds : List Value} {Q : Option Value → Shared → Prop} (D : ApN z TI TO rows) (hne : rows ≠ []) (hl : rows.length ≤ 1000)
    (hz : IsZ s.heap z TI TO f0 f1) (hf : f0 = .none ∨ ∃ T : Addr, f0 = rawInt T) (hTI : IsT s.heap TI (refsI rows)) (hTO : IsT s.heap TO olds) (ho : olds.length = rows.length) (hP : Pass s.heap rows k 0)
    (hu : us.length = rows.length) (hx : ∀ (p : Nat) (r : Row), rows[p]? = some r → r.2.2[k]? = us[p]?)
    (hQ : ∀ h' f0' f1' olds', IsZ h' z TI TO f0' f1' → (f0' = .none ∨ ∃ T : Addr, f0' = rawInt T) → IsT h' TI (refsI rows) → IsT h' TO olds' → olds'.length = rows.length → Pass h' rows (k + 1) 0 → IsT h' s.heap.objs.size us → h'.objs.size = s.heap.objs.size + 1 →
      (∀ c o, c ≠ z → c ≠ TO → (∀ r ∈ rows, c ≠ r.1) → s.heap.get? c = some o → h'.get? c = some o) → Q (some (.ref s.heap.objs.size)) { s with heap := h' }) :
    wpAny (model prog w) A (pyNext (.ref z)) Q E s := by
  have hT : s.TypeIs (.ref z) "zip" := ⟨_, hz, rfl⟩
  unfold pyNext
  exact wpAny_bind (wpAny_attempt (wpAny_callSpecial?_slot (name := Str.ofString "__next__") hT F.slot_zip_next
    (wpAny_call_entry F.slot_zip_next hT F.entry_zip_next
      (zipN_next_item D hne hl hz hf hTI hTO ho hP hu hx fun h' f0' f1' o' a1 a2 a3 a4 a5 a6 a7 a8 a9 => wpAny_pure (hQ h' f0' f1' o' a1 a2 a3 a4 a5 a6 a7 a8 a9)) (F.args_zip_next_1 _))))
theorem pyNext_zipN_end {f0 : Value} {f1 : Bool} {olds : List Value} {Q : Option Value → Shared → Prop} (hh : A.handled = none) (D : ApN z TI TO rows) (hne : rows ≠ []) (hl : rows.length ≤ 1000)
    (hz : IsZ s.heap z TI TO f0 f1) (hf : f0 = .none ∨ ∃ T : Addr, f0 = rawInt T) (hTI : IsT s.heap TI (refsI rows)) (hTO : IsT s.heap TO olds) (ho : olds.length = rows.length) (hP : Pass s.heap rows k 0)
    (hend : ∃ r ∈ rows, r.2.2[k]? = none)
    (hQ : ∀ h', (∀ c o, c ≠ z → c ≠ TO → (∀ r ∈ rows, c ≠ r.1) → s.heap.get? c = some o → h'.get? c = some o) → Q none { s with heap := h' }) : wpAny (model prog w) A (pyNext (.ref z)) Q E s := by
  have hT : s.TypeIs (.ref z) "zip" := ⟨_, hz, rfl⟩
  unfold pyNext
  refine wpAny_bind (wpAny_attempt (wpAny_callSpecial?_slot (name := Str.ofString "__next__") hT F.slot_zip_next
    (wpAny_call_entry F.slot_zip_next hT F.entry_zip_next (zipN_next_end hh D hne hl hz hf hTI hTO ho hP hend fun h' e hk he => ?_) (F.args_zip_next_1 _))))
  obtain ⟨o, ho, hc⟩ := he
  refine wpAny_bind (wpAny_isInstance (T := "StopIteration") (b := true) ⟨o, ho, hc⟩ isSubtype_stop ?_)
  exact wpAny_pure (hQ _ hk)
end
end RZN
namespace RZN
open PySem PySem.Spec PyProof.Rows
theorem typeCallN : ∀ us : List Value, us ≠ [] → us.length ≤ 6 → checkTypeCall "zip" ⟨us, []⟩ = pure ()
  | [], h, _ => absurd rfl h
  | [_], _, _ => by kernel_rfl
  | [_, _], _, _ => by kernel_rfl
  | [_, _, _], _, _ => by kernel_rfl
  | [_, _, _, _], _, _ => by kernel_rfl
  | [_, _, _, _, _], _, _ => by kernel_rfl
  | [_, _, _, _, _, _], _, _ => by kernel_rfl
  | _ :: _ :: _ :: _ :: _ :: _ :: _ :: _, _, h => by simp at h
theorem newCallN : ∀ us : List Value, us ≠ [] → us.length ≤ 6 → checkBuiltinCall "zip.__new__" ⟨.type "zip" :: us, []⟩ = pure ()
  | [], h, _ => absurd rfl h
  | [_], _, _ => by kernel_rfl
  | [_, _], _, _ => by kernel_rfl
  | [_, _, _], _, _ => by kernel_rfl
  | [_, _, _, _], _, _ => by kernel_rfl
  | [_, _, _, _, _], _, _ => by kernel_rfl
  | [_, _, _, _, _, _], _, _ => by kernel_rfl
  | _ :: _ :: _ :: _ :: _ :: _ :: _ :: _, _, h => by simp at h
theorem argsN (obj : Value) : ∀ us : List Value, us ≠ [] → us.length ≤ 6 → argsOk "object.__init__" ⟨obj :: us, []⟩
  | [], h, _ => absurd rfl h
  | [_], _, _ => by unfold argsOk; kernel_rfl
  | [_, _], _, _ => by unfold argsOk; kernel_rfl
  | [_, _, _], _, _ => by unfold argsOk; kernel_rfl
  | [_, _, _, _], _, _ => by unfold argsOk; kernel_rfl
  | [_, _, _, _, _], _, _ => by unfold argsOk; kernel_rfl
  | [_, _, _, _, _, _], _, _ => by unfold argsOk; kernel_rfl
  | _ :: _ :: _ :: _ :: _ :: _ :: _ :: _, _, h => by simp at h
section
variable {prog : Program} {w : World} {A : Around} {E : Value → Shared → Prop} {s : Shared}
abbrev its0 (n : Nat) (N : Nat) : List Value := (List.range N).map fun p => .ref (n + p)
theorem wp_iterAll {ls : List (Addr × Array Value)} {Q : List Value → Shared → Prop} (hl : ∀ r ∈ ls, s.heap.IsList r.1 r.2)
    (h : ∀ h', h'.objs.size = s.heap.objs.size + ls.length → (∀ (p : Nat) (r : Addr × Array Value), ls[p]? = some r → h'.IsListIter (s.heap.objs.size + p) r.1 0) → (∀ c o, s.heap.get? c = some o → h'.get? c = some o) → Q (its0 s.heap.objs.size ls.length) { s with heap := h' }) :
    wpAny (model prog w) A (Builtin.SmallTypes.iterAll (ls.map fun r => .ref r.1)) Q E s := by
  unfold Builtin.SmallTypes.iterAll
  refine wpAny_bind ?_
  refine wpAny_forIn_list _ (fun rest b s' => ∃ j h, b = (its0 s.heap.objs.size j).toArray ∧ s' = { s with heap := h } ∧ j ≤ ls.length ∧ rest = (ls.map fun r => Value.ref r.1).drop j ∧ h.objs.size = s.heap.objs.size + j ∧
    (∀ (p : Nat) (r : Addr × Array Value), p < j → ls[p]? = some r → h.IsListIter (s.heap.objs.size + p) r.1 0) ∧ (∀ c o, s.heap.get? c = some o → h.get? c = some o)) _ ?_ ?_ _ _ ?_
  · rintro x rest b s' ⟨j, h0, rfl, rfl, hj, hr, hsz, hit, hk⟩
    have hjl : j < (ls.map fun r => Value.ref r.1).length := by
      by_cases hl : j < (ls.map fun r => Value.ref r.1).length
      · exact hl
      · rw [List.drop_eq_nil_of_le (by omega)] at hr
        cases hr
    rw [List.drop_eq_getElem_cons hjl] at hr
    injection hr with hr1 hr2
    rw [List.length_map] at hjl
    rw [List.getElem_map] at hr1
    subst hr1
    have hm : ls[j] ∈ ls := List.getElem_mem hjl
    have hL : h0.IsList ls[j].1 ls[j].2 := (hl _ hm).at fun o e => hk _ o e
    refine wpAny_bind (wpAny_holding (wpAny_pyIter_list (s := { s with heap := h0 }) hL ?_))
    refine wpAny_pure ⟨j + 1, _, ?_, rfl, hjl, hr2, by rw [Heap.size_push, hsz]; omega, fun p r hp hr' => ?_, fun c o e => Heap.get?_push_of_some _ (hk c o e)⟩
    · unfold its0
      rw [List.range_succ, List.map_append, hsz]
      simp
    · by_cases e : p = j
      · subst e
        rw [List.getElem?_eq_getElem hjl] at hr'
        cases hr'
        rw [← hsz]
        exact ⟨_, Heap.get?_push_size _ rfl, rfl, rfl⟩
      · exact (hit p r (by omega) hr').at fun o e => Heap.get?_push_of_some _ e
  · rintro b s' ⟨j, h0, rfl, rfl, hj, hr, hsz, hit, hk⟩
    have hjl : j = ls.length := by
      have := congrArg List.length hr
      rw [List.length_drop, List.length_map, List.length_nil] at this
      omega
    subst hjl
    exact wpAny_pure (by simpa using h h0 hsz (fun p r hr => hit p r (List.getElem?_eq_some_iff.mp hr).1 hr) hk)
  · exact ⟨0, s.heap, rfl, rfl, Nat.zero_le _, rfl, rfl, fun p r hp => absurd hp (Nat.not_lt_zero p), fun c o e => e⟩
theorem newClass_zip (us : List Value) : Builtin.SmallTypes.newClass "zip" ⟨.type "zip" :: us, []⟩ = pure (.type "zip", us) := by
  kernel_rfl
structure NewZ (h h' : Heap) (ls : List (Addr × Array Value)) : Prop where
  z : IsZ h' (h.objs.size + ls.length + 2) (h.objs.size + ls.length) (h.objs.size + ls.length + 1) .none false
  ti : IsT h' (h.objs.size + ls.length) (its0 h.objs.size ls.length)
  to_ : IsT h' (h.objs.size + ls.length + 1) (List.replicate ls.length .none)
  it : ∀ (p : Nat) (r : Addr × Array Value), ls[p]? = some r → h'.IsListIter (h.objs.size + p) r.1 0
  sz : h'.objs.size = h.objs.size + ls.length + 3
  kp : ∀ c o, h.get? c = some o → h'.get? c = some o
theorem meets_zipN (ls : List (Addr × Array Value)) (hN : ls.length ≤ 6) :
    Meets (Builtin.«zip.__new__» ⟨.type "zip" :: ls.map (fun r => .ref r.1), []⟩) (fun _ R s => (∀ r ∈ ls, s.heap.IsList r.1 r.2) ∧ ∀ h', NewZ s.heap h' ls →
      R (.ok (.ret (.ref (s.heap.objs.size + ls.length + 2)))) { s with heap := h' }) :=
  .of_wp fun prog w A R s h => by
    obtain ⟨hl, h⟩ := h
    have hsub := sub_zip
    have q : ∀ {A' : Around} {E : Value → Shared → Prop} {Q : List Value → Shared → Prop}, (∀ h', h'.objs.size = s.heap.objs.size + ls.length → (∀ (p : Nat) (r : Addr × Array Value), ls[p]? = some r → h'.IsListIter (s.heap.objs.size + p) r.1 0) → (∀ c o, s.heap.get? c = some o → h'.get? c = some o) → Q (its0 s.heap.objs.size ls.length) { s with heap := h' }) →
      wpAny (model prog w) A' (Builtin.SmallTypes.iterAll (ls.map fun r => .ref r.1)) Q E s := fun z => wp_iterAll hl z
    generalize hus : (ls.map fun r => Value.ref r.1) = us at *
    unfold Builtin.«zip.__new__»
    refine wpAny_bind (wpAny_of_eq (newClass_zip us) ?_)
    show wpAny _ _ (do
      let its ← Builtin.SmallTypes.iterAll us
      let a ← newTuple its
      let b ← newTuple (List.map (fun x => Value.none) its)
      let c ← Builtin.SmallTypes.newRecord (.type "zip") (Builtin.SmallTypes.ownedTupleFields ++ [Value.bool false, a, b])
      ret c) _ _ _
    refine wpAny_bind (q fun h1 hs1 hi1 hk1 => ?_)
    have hs24 : sizeLine = 2 ^ 24 := rfl
    refine wpAny_bind (wpAny_newTuple (s := { s with heap := h1 }) ?_ (by rw [List.length_map, List.length_range]; omega))
    refine wpAny_bind (wpAny_newTuple ?_ (by rw [List.length_map, List.length_map, List.length_range]; omega))
    have k2 : ∀ c o, h1.get? c = some o → (h1.push { cls := .type "tuple", data := .seq (its0 s.heap.objs.size ls.length).toArray }).get? c = some o := fun c o e => Heap.get?_push_of_some _ e
    have z2 : (h1.push { cls := .type "tuple", data := .seq (its0 s.heap.objs.size ls.length).toArray }).objs.size = s.heap.objs.size + ls.length + 1 := by rw [Heap.size_push, hs1]
    have t2 : IsT (h1.push { cls := .type "tuple", data := .seq (its0 s.heap.objs.size ls.length).toArray }) h1.objs.size (its0 s.heap.objs.size ls.length) := Heap.get?_push_size _ rfl
    generalize hH2 : h1.push { cls := .type "tuple", data := .seq (its0 s.heap.objs.size ls.length).toArray } = h2 at *
    have e3 : (its0 s.heap.objs.size ls.length).map (fun _ => Value.none) = List.replicate ls.length .none := by
      rw [List.map_map]
      apply List.ext_getElem
      · simp
      · intro i i1 i2
        simp
    rw [e3]
    have k3 : ∀ c o, h2.get? c = some o → (h2.push { cls := .type "tuple", data := .seq (List.replicate ls.length Value.none).toArray }).get? c = some o := fun c o e => Heap.get?_push_of_some _ e
    have z3 : (h2.push { cls := .type "tuple", data := .seq (List.replicate ls.length Value.none).toArray }).objs.size = s.heap.objs.size + ls.length + 2 := by rw [Heap.size_push, z2]
    have t3 : IsT (h2.push { cls := .type "tuple", data := .seq (List.replicate ls.length Value.none).toArray }) h2.objs.size (List.replicate ls.length .none) := Heap.get?_push_size _ rfl
    generalize hH3 : h2.push { cls := .type "tuple", data := .seq (List.replicate ls.length Value.none).toArray } = h3 at *
    unfold Builtin.SmallTypes.newRecord
    refine wpAny_bind (wpAny_newObj_type ?_ (show (5 : Nat) ≤ sizeLine + 2 by omega))
    refine wpAny_pure ⟨_, rfl, ?_⟩
    have eh1 : h1.objs.size = s.heap.objs.size + ls.length := hs1
    rw [eh1] at t2
    rw [z2] at t3
    have k4 : ∀ (o : Obj) c o', h3.get? c = some o' → (h3.push o).get? c = some o' := fun o c o' e => Heap.get?_push_of_some _ e
    show R (.ok (.ret (.ref h3.objs.size))) { s with heap := h3.push { cls := .type "zip", data := .fields #[.none, .bool false, .bool false, .ref h1.objs.size, .ref h2.objs.size] } }
    rw [z3]
    refine h _ ⟨?_, k4 _ _ _ (k3 _ _ t2), k4 _ _ _ t3, fun p r hr => (hi1 p r hr).at fun o e => k4 _ _ _ (k3 _ _ (k2 _ _ e)), by rw [Heap.size_push, z3], fun c o e => k4 _ _ _ (k3 _ _ (k2 _ _ (hk1 c o e)))⟩
    have t4 : IsZ (h3.push { cls := .type "zip", data := .fields #[.none, .bool false, .bool false, .ref h1.objs.size, .ref h2.objs.size] }) h3.objs.size h1.objs.size h2.objs.size .none false := Heap.get?_push_size _ rfl
    rw [z3] at t4
    rw [eh1, z2] at t4 ⊢
    exact t4
theorem call_zipN {ls : List (Addr × Array Value)} {Q : Value → Shared → Prop} (hne : ls ≠ []) (hN : ls.length ≤ 6) (hl : ∀ r ∈ ls, s.heap.IsList r.1 r.2) (h : ∀ h', NewZ s.heap h' ls → Q (.ref (s.heap.objs.size + ls.length + 2)) { s with heap := h' }) :
    wpAny (model prog w) A (call (.type "zip") (ls.map fun r => .ref r.1)) Q E s := by
  have h1 : (ls.map fun r => Value.ref r.1) ≠ [] := fun z => hne (List.map_eq_nil_iff.mp z)
  have h2 : (ls.map fun r => Value.ref r.1).length ≤ 6 := by rw [List.length_map]; exact hN
  exact callType_new F.called_zip (by decide) (typeCallN _ h1 h2) (newCallN _ h1 h2) (fun obj => argsN obj _ h1 h2) F.entry_zip_new (meets_zipN ls hN) ⟨hl, fun h' z => ⟨⟨_, z.z, rfl⟩, h h' z⟩⟩
end
end RZN
namespace RZN
open PySem PySem.Spec PyProof.Rows L2
def ItzS (K : PySem.W.Frag) (as : List Addr) : It :=
  ⟨fun i H => ∃ xss : List (List V), xss.length = as.length ∧ ∀ (p : Nat) (a : Addr) (xs : List V), as[p]? = some a → xss[p]? = some xs → SqL K H a xs ∧ i < xs.length,
    fun i H v H' => ∃ T us, v = .ref T ∧ H T = none ∧ H' = upd H T (.tup us) ∧ us.length = as.length ∧ ∀ (p : Nat) (a : Addr) (xs : List V), as[p]? = some a → SqL K H a xs → xs[i]? = us[p]?,
    fun i H => ∃ xss : List (List V), xss.length = as.length ∧ (∀ (p : Nat) (a : Addr) (xs : List V), as[p]? = some a → xss[p]? = some xs → SqL K H a xs) ∧ ∃ xs ∈ xss, xs.length ≤ i⟩
structure ApS (z TI TO : Addr) (zs : List (Addr × Addr)) : Prop where
  TIz : TI ≠ z
  TOz : TO ≠ z
  TITO : TI ≠ TO
  iz : ∀ r ∈ zs, r.1 ≠ z ∧ r.1 ≠ TI ∧ r.1 ≠ TO
  ii : ∀ (p q : Nat) (r r' : Addr × Addr), zs[p]? = some r → zs[q]? = some r' → p ≠ q → r.1 ≠ r'.1
  lz : ∀ r ∈ zs, r.2 ≠ z ∧ r.2 ≠ TO
  li : ∀ r ∈ zs, ∀ r' ∈ zs, r.2 ≠ r'.1
abbrev zsOf (rows : List Row) : List (Addr × Addr) := rows.map fun r => (r.1, r.2.1)
theorem ApS.n {z TI TO : Addr} {rows : List Row} (D : ApS z TI TO (zsOf rows)) : ApN z TI TO rows := by
  have m : ∀ {r : Row}, r ∈ rows → (r.1, r.2.1) ∈ zsOf rows := fun h => List.mem_map.mpr ⟨_, h, rfl⟩
  have g : ∀ {p : Nat} {r : Row}, rows[p]? = some r → (zsOf rows)[p]? = some (r.1, r.2.1) := fun h => by rw [List.getElem?_map, h]; rfl
  exact ⟨D.TIz, D.TOz, D.TITO, fun r h => D.iz _ (m h), fun p q r r' h1 h2 h => D.ii p q _ _ (g h1) (g h2) h, fun r h => D.lz _ (m h), fun r h r' h' => D.li _ (m h) _ (m h')⟩
section
variable {X : Cx} {pins : List (Addr × Obj)} {σ : L2.St} {H : Hp} {s : Shared}
theorem rows_of (I : Inv X pins σ H s) : ∀ (zs : List (Addr × Addr)) (xss : List (List V)), xss.length = zs.length → (∀ (p : Nat) (r : Addr × Addr) (xs : List V), zs[p]? = some r → xss[p]? = some xs → SqL X.K H r.2 xs) →
    ∃ rows : List Row, zsOf rows = zs ∧ ∀ (p : Nat) (r : Row) (xs : List V), rows[p]? = some r → xss[p]? = some xs → s.heap.IsList r.2.1 r.2.2 ∧ Vals xs r.2.2.toList
  | [], [], _, _ => ⟨[], rfl, fun p r xs h => by simp at h⟩
  | [], _ :: _, h, _ => by simp at h
  | _ :: _, [], h, _ => by simp at h
  | r :: zs, xs :: xss, h, k => by
    obtain ⟨its, rv, pl, _⟩ := I.list (k 0 r xs rfl rfl)
    obtain ⟨rows, e, g⟩ := rows_of I zs xss (by simpa using h) fun p r xs h1 h2 => k (p + 1) r xs (by simpa using h1) (by simpa using h2)
    refine ⟨(r.1, r.2, its.toArray) :: rows, by show (r.1, r.2) :: zsOf rows = _; rw [e], fun p r' xs' h1 h2 => ?_⟩
    cases p with
    | zero =>
      simp at h1 h2
      subst h1 h2
      exact ⟨pl.isList, by simpa using rv⟩
    | succ p => exact g p r' xs' (by simpa using h1) (by simpa using h2)
theorem col_of {i : Nat} : ∀ (rows : List Row) (xss : List (List V)), xss.length = rows.length → (∀ (p : Nat) (r : Row) (xs : List V), rows[p]? = some r → xss[p]? = some xs → Vals xs r.2.2.toList ∧ i < xs.length) →
    ∃ (us : List Value) (vs : List V), us.length = rows.length ∧ Vals vs us ∧ vs.length = xss.length ∧ (∀ (p : Nat) (r : Row), rows[p]? = some r → r.2.2[i]? = us[p]?) ∧ ∀ (p : Nat) (xs : List V), xss[p]? = some xs → xs[i]? = vs[p]?
  | [], [], _, _ => ⟨[], [], rfl, .nil, rfl, fun p r h => by simp at h, fun p r h => by simp at h⟩
  | [], _ :: _, h, _ => by simp at h
  | _ :: _, [], h, _ => by simp at h
  | r :: rows, xs :: xss, h, k => by
    obtain ⟨us, vs, e1, e2, e3, e4, e5⟩ := col_of rows xss (by simpa using h) fun p r xs h1 h2 => k (p + 1) r xs (by simpa using h1) (by simpa using h2)
    obtain ⟨k1, k2⟩ := k 0 r xs rfl rfl
    obtain ⟨u, hu, ru⟩ := k1.get (show xs[i]? = some xs[i] by simp [k2])
    refine ⟨u :: us, xs[i] :: vs, by simp [e1], .cons ru e2, by simp [e3], fun p r' hp => ?_, fun p xs' hp => ?_⟩
    · cases p with
      | zero =>
        simp at hp
        subst hp
        simpa using hu
      | succ p => simpa using e4 p r' (by simpa using hp)
    · cases p with
      | zero =>
        simp at hp
        subst hp
        simp [k2]
      | succ p => simpa using e5 p xs' (by simpa using hp)
end
section
variable {P : Program} {w : World} {K : PySem.W.Frag}
structure StS (h : Heap) (z TI TO : Addr) (zs : List (Addr × Addr)) (i : Nat) : Prop where
  ex : ∃ f0 f1 olds, IsZ h z TI TO f0 f1 ∧ (f0 = .none ∨ ∃ T : Addr, f0 = rawInt T) ∧ IsT h TO olds ∧ olds.length = zs.length
  ti : IsT h TI (zs.map fun r => .ref r.1)
  it : ∀ r ∈ zs, h.IsListIter r.1 r.2 i
abbrev fpS (z TI TO : Addr) (zs : List (Addr × Addr)) : List Addr := z :: TI :: TO :: zs.map (·.1)
theorem turn_zipS {y : Str} {q : Pos} {z TI TO : Addr} {zs : List (Addr × Addr)} (hne : zs ≠ []) (hl : zs.length ≤ 1000) (D : ApS z TI TO zs) :
    Turn P w K (.Name y q) (ItzS K (zs.map (·.2))) (fpS z TI TO zs) z (fun i h => StS h z TI TO zs i) where
  mem := by simp
  obj := fun i h st c hc => by
    obtain ⟨f0, f1, olds, hz, _, hTO, _⟩ := st.ex
    have hTI := st.ti
    rcases List.mem_cons.mp hc with e | hc
    · rw [e]; exact ⟨_, hz, fun v q => nomatch q⟩
    · rcases List.mem_cons.mp hc with e | hc
      · rw [e]; exact ⟨_, hTI, fun v q => nomatch q⟩
      · rcases List.mem_cons.mp hc with e | hc
        · rw [e]; exact ⟨_, hTO, fun v q => nomatch q⟩
        · obtain ⟨r, hr, rfl⟩ := List.mem_map.mp hc
          obtain ⟨o, e, _, d⟩ := st.it r hr
          exact ⟨o, e, fun v q => by rw [d] at q; cases q⟩
  keep := fun i h h' st k => by
    obtain ⟨f0, f1, olds, hz, hf, hTO, hol⟩ := st.ex
    exact ⟨⟨f0, f1, olds, k z (by simp) _ hz, hf, k TO (by simp) _ hTO, hol⟩, k TI (by simp) _ st.ti, fun r hr => (st.it r hr).at fun o e => k r.1 (by simp only [List.mem_cons, List.mem_map]; exact .inr (.inr (.inr ⟨r, hr, rfl⟩))) o e⟩
  item := by
    intro X hP hw hK hc i pins s σ H E I hf st hg
    subst hP hw hK
    obtain ⟨f0, f1, olds, hz, hf0, hTO, hol⟩ := st.ex
    obtain ⟨xss, hlen, hx⟩ := hg
    rw [List.length_map] at hlen
    obtain ⟨rows, er, hrows⟩ := rows_of I zs xss hlen fun p r xs h1 h2 => (hx p r.2 xs (by rw [List.getElem?_map, h1]; rfl) h2).1
    have hrl : rows.length = zs.length := by rw [← er, List.length_map]
    have gz : ∀ {p : Nat} {r : Row}, rows[p]? = some r → zs[p]? = some (r.1, r.2.1) := fun h => by rw [← er, List.getElem?_map, h]; rfl
    obtain ⟨us, vs, e1, e2, e3, e4, e5⟩ := col_of (i := i) rows xss (by rw [hrl]; exact hlen) fun p r xs h1 h2 => ⟨(hrows p r xs h1 h2).2, (hx p r.2.1 xs (by rw [List.getElem?_map, gz h1]; rfl) h2).2⟩
    have D' : ApN z TI TO rows := ApS.n (by rw [er]; exact D)
    have hTI : IsT s.heap TI (refsI rows) := by
      have e : refsI rows = zs.map fun r => Value.ref r.1 := by
        rw [← er, List.map_map]
        rfl
      rw [e]
      exact st.ti
    have rne : rows ≠ [] := fun e => hne (List.eq_nil_of_length_eq_zero (by rw [← hrl, e]; rfl))
    have hP : Pass s.heap rows i 0 := ⟨fun p r hp => by
        rw [if_neg (Nat.not_lt_zero p)]
        exact st.it _ (List.mem_of_getElem? (gz hp)), fun r hr => by
        obtain ⟨p, hp⟩ := List.mem_iff_getElem?.mp hr
        have hplt : p < xss.length := by
          rw [hlen, ← hrl]
          exact (List.getElem?_eq_some_iff.mp hp).1
        exact (hrows p r xss[p] hp (by simp [hplt])).1⟩
    refine pyNext_zipN_item D' rne (by rw [hrl]; exact hl) hz hf0 hTI hTO (by rw [hrl]; exact hol) hP e1 e4 fun h' f0' f1' olds' z' hf' TI' TO' hol' P' hT hsz hk => ⟨_, rfl, wpAny_pure ?_⟩
    have sl : sizeLine = 2 ^ 24 := rfl
    have vl : vs.length ≤ sizeLine := by rw [e3, hlen]; omega
    have new : ObjOk X.prog X.w (upd H s.heap.objs.size (.tup vs)) h' s.heap.objs.size (.tup vs) := ⟨vl, us, e2, ⟨_, hT, rfl, _, rfl⟩⟩
    have mem1 : ∀ r ∈ rows, r.1 ∈ fpS z TI TO zs := fun r hr => by
      simp only [List.mem_cons, List.mem_map]
      exact .inr (.inr (.inr ⟨(r.1, r.2.1), by rw [← er]; exact List.mem_map.mpr ⟨r, hr, rfl⟩, rfl⟩))
    have I1 : Inv X pins σ (upd H s.heap.objs.size (.tup vs)) { s with heap := h' } :=
      I.turnedNew (t' := s.toks) (ch := fpS z TI TO zs) (fun c o hb q => hk c o (fun e => hb (by simp [e])) (fun e => hb (by simp [e])) (fun r hr e => hb (e ▸ mem1 r hr)) q) hf (Nat.le_refl _) new
    refine ⟨.ref s.heap.objs.size, _, I1, rfl, ⟨_, vs, rfl, I.hok.fresh (Nat.le_refl _), rfl, by rw [e3, hlen, List.length_map], fun p a xs hp hS => ?_⟩, ⟨⟨f0', f1', olds', z', hf', TO', by rw [hol', hrl]⟩, ?_, fun r hr => ?_⟩, fun c hcm => ?_⟩
    · rw [List.getElem?_map] at hp
      obtain ⟨r, hr, rfl⟩ := Option.map_eq_some_iff.mp hp
      have hplt : p < xss.length := by
        rw [hlen]
        exact (List.getElem?_eq_some_iff.mp hr).1
      have q1 := (hx p r.2 xss[p] (by rw [List.getElem?_map, hr]; rfl) (by simp [hplt])).1
      rw [I.list_inj hS q1]
      exact e5 p xss[p] (by simp [hplt])
    · have e : refsI rows = zs.map fun r => Value.ref r.1 := by
        rw [← er, List.map_map]
        rfl
      rw [← e]
      exact TI'
    · rw [← er] at hr
      obtain ⟨r', hr', rfl⟩ := List.mem_map.mp hr
      obtain ⟨p, hp⟩ := List.mem_iff_getElem?.mp hr'
      have := P'.it p r' hp
      rw [if_neg (Nat.not_lt_zero p)] at this
      exact this
    · have hlt : c < s.heap.objs.size := by
        rcases List.mem_cons.mp hcm with e | hcm
        · rw [e]; exact Heap.lt_size hz
        · rcases List.mem_cons.mp hcm with e | hcm
          · rw [e]; exact Heap.lt_size hTI
          · rcases List.mem_cons.mp hcm with e | hcm
            · rw [e]; exact Heap.lt_size hTO
            · obtain ⟨r, hr, rfl⟩ := List.mem_map.mp hcm
              obtain ⟨o, e, _⟩ := st.it r hr
              exact Heap.lt_size e
      rw [upd_ne (Nat.ne_of_lt hlt)]
      exact (hf c hcm).1
  done := by
    intro X hP hw hK hc i pins s σ H E I hf st hg
    subst hP hw hK
    obtain ⟨f0, f1, olds, hz, hf0, hTO, hol⟩ := st.ex
    obtain ⟨xss, hlen, hx, xs0, hx0, hle⟩ := hg
    rw [List.length_map] at hlen
    obtain ⟨rows, er, hrows⟩ := rows_of I zs xss hlen fun p r xs h1 h2 => hx p r.2 xs (by rw [List.getElem?_map, h1]; rfl) h2
    have hrl : rows.length = zs.length := by rw [← er, List.length_map]
    have gz : ∀ {p : Nat} {r : Row}, rows[p]? = some r → zs[p]? = some (r.1, r.2.1) := fun h => by rw [← er, List.getElem?_map, h]; rfl
    have D' : ApN z TI TO rows := ApS.n (by rw [er]; exact D)
    have hTI : IsT s.heap TI (refsI rows) := by
      have e : refsI rows = zs.map fun r => Value.ref r.1 := by
        rw [← er, List.map_map]
        rfl
      rw [e]
      exact st.ti
    have rne : rows ≠ [] := fun e => hne (List.eq_nil_of_length_eq_zero (by rw [← hrl, e]; rfl))
    have hP : Pass s.heap rows i 0 := ⟨fun p r hp => by
        rw [if_neg (Nat.not_lt_zero p)]
        exact st.it _ (List.mem_of_getElem? (gz hp)), fun r hr => by
        obtain ⟨p, hp⟩ := List.mem_iff_getElem?.mp hr
        have hplt : p < xss.length := by
          rw [hlen, ← hrl]
          exact (List.getElem?_eq_some_iff.mp hp).1
        exact (hrows p r xss[p] hp (by simp [hplt])).1⟩
    have mem1 : ∀ r ∈ rows, r.1 ∈ fpS z TI TO zs := fun r hr => by
      simp only [List.mem_cons, List.mem_map]
      exact .inr (.inr (.inr ⟨(r.1, r.2.1), by rw [← er]; exact List.mem_map.mpr ⟨r, hr, rfl⟩, rfl⟩))
    obtain ⟨p, hp⟩ := List.mem_iff_getElem?.mp hx0
    have hplt : p < rows.length := by
      rw [hrl, ← hlen]
      exact (List.getElem?_eq_some_iff.mp hp).1
    have hv := (hrows p rows[p] xs0 (by simp [hplt]) hp).2.length
    refine pyNext_zipN_end (I.ok.hd hc) D' rne (by rw [hrl]; exact hl) hz hf0 hTI hTO (by rw [hrl]; exact hol) hP ⟨rows[p], List.getElem_mem hplt, ?_⟩ fun h' hk => ⟨rfl, I.turnedL (t' := s.toks) (ch := fpS z TI TO zs) (fun c o hb q =>
      hk c o (fun e => hb (by simp [e])) (fun e => hb (by simp [e])) (fun r hr e => hb (e ▸ mem1 r hr)) q) hf⟩
    rw [Array.getElem?_eq_none_iff]
    have ha : rows[p].2.2.toList.length = rows[p].2.2.size := by simp
    omega
  self := fun A i s Q E st h => by
    obtain ⟨f0, f1, olds, hz, _⟩ := st.ex
    have hT : s.TypeIs (.ref z) "zip" := ⟨_, hz, rfl⟩
    refine wpAny_pyIter_slot hT F.slot_zip_iter (wpAny_call_entry F.slot_zip_iter hT F.entry_zip_iter ?_ (F.args_zip_iter_1 _))
    show wpAny _ _ (ret (.ref z)) _ _ s
    exact wpAny_pure ⟨_, rfl, "zip", _, hT, F.slot_zip_next.lookup, h⟩
end
def iZipS (K : PySem.W.Frag) (te : TE) : TI := fun σ H R => te σ H fun x H1 => ∃ (p : Addr) (as : List Addr) (xss : List (List V)), x = .ref p ∧ (SqT K H1 p (as.map V.ref) ∨ SqL K H1 p (as.map V.ref)) ∧ as ≠ [] ∧ as.length ≤ 6 ∧ xss.length = as.length ∧
  (∀ (q : Nat) (a : Addr) (ys : List V), as[q]? = some a → xss[q]? = some ys → SqL K H1 a ys) ∧ R (ItzS K as) H1
abbrev zsN (b : Nat) (as : List Addr) : List (Addr × Addr) := as.zipIdx.map fun q => (b + q.2, q.1)
theorem zsN_get {b : Nat} {as : List Addr} {p : Nat} {r : Addr × Addr} (h : (zsN b as)[p]? = some r) : r.1 = b + p ∧ as[p]? = some r.2 := by
  rw [List.getElem?_map, List.getElem?_zipIdx] at h
  obtain ⟨q, h1, rfl⟩ := Option.map_eq_some_iff.mp h
  obtain ⟨a, h2, rfl⟩ := Option.map_eq_some_iff.mp h1
  exact ⟨by simp, h2⟩
theorem vals_refs : ∀ {as : List Addr} {us : List Value}, Vals (as.map V.ref) us → us = as.map Value.ref
  | [], _, .nil => rfl
  | _ :: _, _, .cons r t => by
    obtain rfl := r
    rw [vals_refs t]
    rfl
theorem lists_of {X : Cx} {pins : List (Addr × Obj)} {σ : L2.St} {H : Hp} {s : Shared} (I : Inv X pins σ H s) : ∀ (as : List Addr) (xss : List (List V)), xss.length = as.length → (∀ (q : Nat) (a : Addr) (ys : List V), as[q]? = some a → xss[q]? = some ys → SqL X.K H a ys) →
    ∃ ls : List (Addr × Array Value), ls.map (·.1) = as ∧ ∀ r ∈ ls, s.heap.IsList r.1 r.2
  | [], [], _, _ => ⟨[], rfl, fun r h => by cases h⟩
  | [], _ :: _, h, _ => by simp at h
  | _ :: _, [], h, _ => by simp at h
  | a :: as, ys :: xss, h, k => by
    obtain ⟨its, rv, pl, _⟩ := I.list (k 0 a ys rfl rfl)
    obtain ⟨ls, e, g⟩ := lists_of I as xss (by simpa using h) fun q a ys h1 h2 => k (q + 1) a ys (by simpa using h1) (by simpa using h2)
    refine ⟨(a, its.toArray) :: ls, by simp [e], fun r hr => ?_⟩
    rcases List.mem_cons.mp hr with rfl | hr
    · exact pl.isList
    · exact g r hr
theorem pi_zipS {X : Cx} {e : Expr} {te : TE} {p q sp pos : Pos} {y : Str} (hg : Gl X "zip") (hm : X.mg "zip" = none) (he : PE X e te) :
    PI X (.Name y q) (.Call (.Name "zip" p) [.Starred e sp] [] pos) (iZipS X.K te) := by
  refine ⟨fun pins s σ H R I h => ?_⟩
  refine Call_ (ld_blt I hg hm PyProof.Rows.boot_zip ?_)
  refine PySem.W.ks_call (P := fun _ => True) rfl (fun h _ => ⟨.machine, .inr (.inl rfl), fun A Q E s _ q => wpAny_pure q⟩) (PySem.W.ks_lone (thn (he.run pins s σ H _ I h) fun v s1 ⟨x, H1, I1, rx, a, as, xss, ex, hsq, hne, h6, hlen, hls, hR⟩ => ?_))
  subst ex
  obtain rfl : v = Value.ref a := rx
  refine StX.star_any I1 hsq fun us s2 I2 rv => ⟨trivial, ?_⟩
  rw [vals_refs rv]
  obtain ⟨ls, el, hl⟩ := lists_of I2 as xss hlen hls
  have eu : as.map Value.ref = ls.map fun r => Value.ref r.1 := by
    rw [← el, List.map_map]
    rfl
  have ell : ls.length = as.length := by rw [← el, List.length_map]
  show wpAny _ _ (call (.type "zip") (as.map Value.ref)) _ _ _
  rw [eu]
  refine call_zipN (fun e => hne (by rw [← el, e]; rfl)) (by rw [ell]; exact h6) hl fun h' N => ?_
  have alt : ∀ a ∈ as, a < s2.heap.objs.size := fun a ha => by
    rw [← el] at ha
    obtain ⟨r, hr, rfl⟩ := List.mem_map.mp ha
    obtain ⟨o, ho, _⟩ := hl r hr
    exact Heap.lt_size ho
  rw [ell]
  obtain ⟨z1, z2, z3, z4, z5, z6⟩ := N
  rw [ell] at z1 z2 z3 z5
  generalize hb : s2.heap.objs.size = b at *
  have gm : ∀ {r : Addr × Addr}, r ∈ zsN b as → ∃ p, p < as.length ∧ r.1 = b + p ∧ as[p]? = some r.2 := fun hr => by
    obtain ⟨p, hp⟩ := List.mem_iff_getElem?.mp hr
    obtain ⟨g1, g2⟩ := zsN_get hp
    exact ⟨p, (List.getElem?_eq_some_iff.mp g2).1, g1, g2⟩
  have zl : (zsN b as).length = as.length := by simp
  have D : ApS (b + as.length + 2) (b + as.length) (b + as.length + 1) (zsN b as) := by
    have N : ∀ {x y : Nat}, x < y → x ≠ y := fun h => Nat.ne_of_lt h
    refine ⟨N (by omega), N (by omega) , N (by omega), fun r hr => ?_, fun p q r r' h1 h2 h => ?_, fun r hr => ?_, fun r hr r' hr' => ?_⟩
    · obtain ⟨p, g0, g1, g2⟩ := gm hr
      rw [g1]
      exact ⟨N (by omega), N (by omega), N (by omega)⟩
    · rw [(zsN_get h1).1, (zsN_get h2).1]
      exact fun e => h (Nat.add_left_cancel e)
    · obtain ⟨p, g0, g1, g2⟩ := gm hr
      have h0 : r.2 < b := alt _ (List.mem_of_getElem? g2)
      exact ⟨N (Nat.lt_of_lt_of_le h0 (by omega)), N (Nat.lt_of_lt_of_le h0 (by omega))⟩
    · obtain ⟨p, g0, g1, g2⟩ := gm hr
      obtain ⟨p', g0', g1', g2'⟩ := gm hr'
      have h0 : r.2 < b := alt _ (List.mem_of_getElem? g2)
      rw [g1']
      exact N (Nat.lt_of_lt_of_le h0 (by omega))
  have hz : IsZ h' (b + as.length + 2) (b + as.length) (b + as.length + 1) .none false := z1
  have hT : ({ s2 with heap := h' } : Shared).TypeIs (.ref (b + as.length + 2)) "zip" := ⟨_, hz, rfl⟩
  refine wpAny_pyIter_slot hT F.slot_zip_iter (wpAny_call_entry F.slot_zip_iter hT F.entry_zip_iter ?_ (F.args_zip_iter_1 _))
  show wpAny _ _ (ret (.ref (b + as.length + 2))) _ _ _
  refine wpAny_pure ⟨_, rfl, "zip", _, hT, F.slot_zip_next.lookup, ?_⟩
  have I3 : Inv X pins σ H1 { s2 with heap := h' } := I2.kept (t' := s2.toks) z6
  have e2 : (zsN b as).map (·.2) = as := by
    rw [List.map_map]
    show as.zipIdx.map (fun q => q.1) = as
    simp
  have T := turn_zipS (P := X.prog) (w := X.w) (K := X.K) (y := y) (q := q) (zs := zsN b as) (fun e => hne (List.eq_nil_of_length_eq_zero (by rw [← zl, e]; rfl))) (by rw [zl]; omega) D
  rw [e2] at T
  refine ⟨b + as.length + 2, _, _, _, H1, rfl, I3, T, ⟨⟨_, _, _, hz, .inl rfl, z3, by rw [List.length_replicate, zl]⟩, ?_, fun r hr => ?_⟩, fun c hcm => ?_, hR⟩
  · have e3 : ((zsN b as).map fun r => Value.ref r.1) = its0 b as.length := by
      rw [List.map_map]
      apply List.ext_getElem
      · simp
      · intro i i1 i2
        simp
    rw [e3]
    exact z2
  · obtain ⟨p, g0, g1, g2⟩ := gm hr
    rw [← el, List.getElem?_map] at g2
    obtain ⟨r', hr', e4⟩ := Option.map_eq_some_iff.mp g2
    have := z4 p r' hr'
    rw [g1, ← e4]
    exact this
  · have hle : b ≤ c := by
      rcases List.mem_cons.mp hcm with e | hcm
      · rw [e]
        omega
      · rcases List.mem_cons.mp hcm with e | hcm
        · rw [e]
          omega
        · rcases List.mem_cons.mp hcm with e | hcm
          · rw [e]
            omega
          · obtain ⟨r, hr, rfl⟩ := List.mem_map.mp hcm
            obtain ⟨p, g0, g1, g2⟩ := gm hr
            rw [g1]
            omega
    exact I2.fpOk (by rw [hb]; exact hle) (I2.hok.fresh (by rw [hb]; exact hle))
end RZN
namespace T
open PySem PySem.Spec PyProof.Rows L2
inductive D where
  | non | bl (b : Bool) | int (i : Int) | str (x : Str)
  | tup (ds : List D) | lst (ds : List D) | fro (ds : List D) | dic (ks : List Key) (ds : List D) | wdic (ks : List Str) (ds : List D)
  | cell (k : Nat) | ins (C : Nat) (fs : List Str) (ds : List D)
  | fn (i : Nat) | cls (i : Nat) | ty (n : String)
mutual
def sameD : D → D → Bool
  | .non, .non => true
  | .bl a, .bl b => a == b
  | .int a, .int b => decide (a = b)
  | .str a, .str b => decide (a = b)
  | .tup a, .tup b => sameDs a b
  | .lst a, .lst b => sameDs a b
  | .fro a, .fro b => sameDs a b
  | .dic k a, .dic j b => decide (k = j) && sameDs a b
  | .wdic k a, .wdic j b => decide (k = j) && sameDs a b
  | .cell a, .cell b => decide (a = b)
  | .ins C f a, .ins E g b => decide (C = E) && decide (f = g) && sameDs a b
  | .fn a, .fn b => decide (a = b)
  | .cls a, .cls b => decide (a = b)
  | .ty a, .ty b => decide (a = b)
  | _, _ => false
def sameDs : List D → List D → Bool
  | [], [] => true
  | a :: as, b :: bs => sameD a b && sameDs as bs
  | _, _ => false
end
mutual
theorem sameD_iff : ∀ (a b : D), sameD a b = true ↔ a = b
  | .non, b => by cases b <;> simp [sameD]
  | .bl a, b => by cases b <;> simp [sameD]
  | .int a, b => by cases b <;> simp [sameD]
  | .str a, b => by cases b <;> simp [sameD]
  | .tup a, b => by cases b <;> simp [sameD, sameDs_iff a]
  | .lst a, b => by cases b <;> simp [sameD, sameDs_iff a]
  | .fro a, b => by cases b <;> simp [sameD, sameDs_iff a]
  | .dic k a, b => by cases b <;> simp [sameD, sameDs_iff a]
  | .wdic k a, b => by cases b <;> simp [sameD, sameDs_iff a]
  | .cell a, b => by cases b <;> simp [sameD]
  | .ins C f a, b => by cases b <;> simp [sameD, sameDs_iff a, and_assoc]
  | .fn a, b => by cases b <;> simp [sameD]
  | .cls a, b => by cases b <;> simp [sameD]
  | .ty a, b => by cases b <;> simp [sameD]
theorem sameDs_iff : ∀ (a b : List D), sameDs a b = true ↔ a = b
  | [], b => by cases b <;> simp [sameDs]
  | x :: a, b => by
    cases b with
    | nil => simp [sameDs]
    | cons y b => simp [sameDs, sameD_iff x, sameDs_iff a]
end
inductive Cell where
  | lst (ds : List D) | ins (C : Nat) (fs : List Str) (ds : List D) | dic (ks : List Key) (ds : List D)
abbrev Sto := List Cell
abbrev Env := List (Option D)
inductive R (α : Type) where
  | ok (a : α) (μ : Sto) | exc (C : Nat) (ds : List D) (μ : Sto) | bad
def R.bind {α β : Type} (r : R α) (f : α → Sto → R β) : R β := match r with
  | .ok a μ => f a μ
  | .exc C ds μ => .exc C ds μ
  | .bad => .bad
@[simp] theorem R.bind_ok {α β : Type} (a : α) (μ : Sto) (f : α → Sto → R β) : (R.ok a μ).bind f = f a μ := rfl
@[simp] theorem R.bind_bad {α β : Type} (f : α → Sto → R β) : (R.bad : R α).bind f = .bad := rfl
@[simp] theorem R.bind_exc {α β : Type} (C : Nat) (ds : List D) (μ : Sto) (f : α → Sto → R β) : (R.exc C ds μ : R α).bind f = .exc C ds μ := rfl
theorem R.bind_eq_ok {α β : Type} {r : R α} {f : α → Sto → R β} {b : β} {μ : Sto} (h : r.bind f = .ok b μ) : ∃ a μ1, r = .ok a μ1 ∧ f a μ1 = .ok b μ := by
  cases r with
  | ok a μ1 => exact ⟨a, μ1, rfl, h⟩
  | exc C ds m => cases h
  | bad => cases h
structure Gx where
  K : PySem.W.Frag
  w : World
  cad : Nat → Addr
  fad : Nat → Addr
  /-- the fields of an exception of a class -/
  xf : Nat → List Str
  /-- places that nothing here speaks of (a list that a comprehension fills) -/
  z : List Addr
def Gx.non (G : Gx) (ι : List Addr) (p : Addr) : Prop := p ∉ ι ∧ p ∉ G.z
def WrL (K : PySem.W.Frag) (a : Addr) (xs : List V) : Prop :=
  ∃ (o : Obj) (its : Array Value) (n : Nat), K.lookup a = some o ∧ o.cls = .type "list" ∧ o.dict = none ∧ o.data = .seq its n ∧ its.size ≤ sizeLine ∧ Vals xs its.toList
def WrT (K : PySem.W.Frag) (a : Addr) (xs : List V) : Prop :=
  ∃ (o : Obj) (its : Array Value) (n : Nat), K.lookup a = some o ∧ o.cls = .type "tuple" ∧ o.data = .seq its n ∧ its.size ≤ sizeLine ∧ Vals xs its.toList
def TupAt (G : Gx) (ι : List Addr) (H : Hp) (p : Addr) (vs : List V) : Prop := vs.length ≤ sizeLine ∧ ((Rd H p (.tup vs) ∧ G.non ι p) ∨ WrT G.K p vs)
def LstAt (G : Gx) (ι : List Addr) (H : Hp) (p : Addr) (vs : List V) : Prop := vs.length ≤ sizeLine ∧ ((Rd H p (.lst vs) ∧ G.non ι p) ∨ WrL G.K p vs)
theorem TupAt.sq {G : Gx} {ι : List Addr} {H : Hp} {p : Addr} {vs : List V} (h : TupAt G ι H p vs) : SqT G.K H p vs := h.2.elim (fun z => .inl z.1) .inr
theorem LstAt.sq {G : Gx} {ι : List Addr} {H : Hp} {p : Addr} {vs : List V} (h : LstAt G ι H p vs) : SqL G.K H p vs := h.2.elim (fun z => .inl z.1) .inr
def WD (G : Gx) (p : Addr) (ks : List Str) (vs : List V) : Prop := ∃ es n, KDict G.K G.w p es n ∧
  ∀ z, ∃ r, PySem.W.nsIn G.K p z = some r ∧ RelO ((ks.zip vs).lookup z) r
mutual
def Rel (G : Gx) (ι : List Addr) (H : Hp) (v : V) : D → Prop
  | .non => v = .non
  | .bl b => v = .bl b
  | .int i => v = .int i
  | .str x => v = .str x
  | .tup ds => ∃ p vs, v = .ref p ∧ TupAt G ι H p vs ∧ Rels G ι H vs ds
  | .lst ds => ∃ p vs, v = .ref p ∧ (vs.length ≤ sizeLine ∧ H p = some (.lst vs) ∧ G.non ι p) ∧ Rels G ι H vs ds
  | .fro ds => ∃ p vs, v = .ref p ∧ LstAt G ι H p vs ∧ Rels G ι H vs ds
  | .dic ks ds => ∃ p vs, v = .ref p ∧ (Rd H p (.dK (ks.zip vs)) ∧ G.non ι p) ∧ Rels G ι H vs ds ∧ ks.length = ds.length ∧ ks.Nodup
  | .wdic ks ds => ∃ p vs, v = .ref p ∧ WD G p ks vs ∧ Rels G ι H vs ds ∧ ks.length = ds.length
  | .cell k => ∃ a, ι[k]? = some a ∧ v = .ref a
  | .ins C fs ds => ∃ p dx vs, v = .ref p ∧ G.non ι p ∧ H p = some (.ins (G.cad C) dx (fs.zip vs)) ∧ Rels G ι H vs ds ∧ fs.length = ds.length
  | .fn i => v = .ref (G.fad i)
  | .cls i => v = .ref (G.cad i)
  | .ty n => v = .ty n
def Rels (G : Gx) (ι : List Addr) (H : Hp) : List V → List D → Prop
  | [], [] => True
  | v :: vs, d :: ds => Rel G ι H v d ∧ Rels G ι H vs ds
  | _, _ => False
end
structure Ext (ι : List Addr) (H : Hp) (ι' : List Addr) (H' : Hp) : Prop where
  pre : ∃ new, ι' = ι ++ new ∧ ∀ a ∈ new, H a = none
  keep : ∀ a o, H a = some o → a ∉ ι → H' a = some o
  live : ∀ a, a ∈ ι → H a ≠ none → H' a ≠ none
theorem Ext.refl (ι : List Addr) (H : Hp) : Ext ι H ι H := ⟨⟨[], by simp, by simp⟩, fun _ _ h _ => h, fun _ _ h => h⟩
theorem Ext.nin {ι ι' : List Addr} {H H' : Hp} (e : Ext ι H ι' H') {a : Addr} {o : HO} (h : H a = some o) (n : a ∉ ι) : a ∉ ι' := by
  obtain ⟨new, rfl, hn⟩ := e.pre
  intro z
  rcases List.mem_append.mp z with z | z
  · exact n z
  · rw [hn a z] at h
    cases h
theorem Ext.trans {ι ι1 ι2 : List Addr} {H H1 H2 : Hp} (e : Ext ι H ι1 H1) (f : Ext ι1 H1 ι2 H2) : Ext ι H ι2 H2 := by
  obtain ⟨n1, rfl, h1⟩ := id e.pre
  obtain ⟨n2, rfl, h2⟩ := id f.pre
  refine ⟨⟨n1 ++ n2, by simp, fun a ha => ?_⟩, fun a o h n => f.keep a o (e.keep a o h n) (e.nin h n), fun a m h => f.live a (List.mem_append_left _ m) (e.live a m h)⟩
  rcases List.mem_append.mp ha with z | z
  · exact h1 a z
  · have q := h2 a z
    cases r : H a with
    | none => rfl
    | some o =>
      by_cases m : a ∈ ι
      · exact absurd q (e.live a m (by rw [r]; exact fun z => by cases z))
      · rw [e.keep a o r m] at q
        cases q
theorem Ext.same {ι : List Addr} {H H' : Hp} (k : ∀ a o, H a = some o → H' a = some o) : Ext ι H ι H' :=
  ⟨⟨[], by simp, by simp⟩, fun a o h _ => k a o h, fun a _ h => by
    cases q : H a with
    | none => exact absurd q h
    | some o =>
      rw [k a o q]
      exact fun z => by cases z⟩
theorem Ext.new {ι : List Addr} {H : Hp} {p : Addr} {o : HO} (h : H p = none) : Ext ι H ι (upd H p o) := Ext.same fun a u q => by
  rw [upd_ne (ne_of_none q h)]
  exact q
theorem Ext.free {ι ι' : List Addr} {H H' : Hp} (e : Ext ι H ι' H') {p : Addr} (h : H' p = none) (hl : ∀ a ∈ ι, H a ≠ none) : H p = none := by
  cases r : H p with
  | none => rfl
  | some o =>
    by_cases m : p ∈ ι
    · exact absurd h (e.live p m (hl p m))
    · rw [e.keep p o r m] at h
      cases h
theorem Ext.idx {ι ι' : List Addr} {H H' : Hp} (e : Ext ι H ι' H') {k : Nat} {a : Addr} (h : ι[k]? = some a) : ι'[k]? = some a := by
  obtain ⟨new, rfl, _⟩ := e.pre
  rw [List.getElem?_append_left (List.getElem?_eq_some_iff.mp h).1]
  exact h
section
variable {G : Gx} {ι ι' : List Addr} {H H' : Hp}
theorem Rd.ext (e : Ext ι H ι' H') {p : Addr} {u : HO} (h : Rd H p u) (n : G.non ι p) : Rd H' p u ∧ G.non ι' p := by
  rcases h with h | ⟨o, h⟩
  · exact ⟨.inl (e.keep _ _ h n.1), e.nin h n.1, n.2⟩
  · exact ⟨.inr ⟨o, e.keep _ _ h n.1⟩, e.nin h n.1, n.2⟩
theorem TupAt.ext (e : Ext ι H ι' H') {p : Addr} {vs : List V} (h : TupAt G ι H p vs) : TupAt G ι' H' p vs := ⟨h.1, h.2.elim (fun z => .inl (Rd.ext e z.1 z.2)) .inr⟩
theorem LstAt.ext (e : Ext ι H ι' H') {p : Addr} {vs : List V} (h : LstAt G ι H p vs) : LstAt G ι' H' p vs := ⟨h.1, h.2.elim (fun z => .inl (Rd.ext e z.1 z.2)) .inr⟩
mutual
theorem Rel.ext (e : Ext ι H ι' H') : ∀ (d : D) (v : V), Rel G ι H v d → Rel G ι' H' v d
  | .non, _, h => h
  | .bl _, _, h => h
  | .int _, _, h => h
  | .str _, _, h => h
  | .tup ds, _, h => by
    obtain ⟨p, vs, e1, h1, h2⟩ := h
    exact ⟨p, vs, e1, h1.ext e, Rels.ext e ds vs h2⟩
  | .lst ds, _, h => by
    obtain ⟨p, vs, e1, ⟨h0, h1, n⟩, h2⟩ := h
    exact ⟨p, vs, e1, ⟨h0, e.keep _ _ h1 n.1, e.nin h1 n.1, n.2⟩, Rels.ext e ds vs h2⟩
  | .fro ds, _, h => by
    obtain ⟨p, vs, e1, h1, h2⟩ := h
    exact ⟨p, vs, e1, h1.ext e, Rels.ext e ds vs h2⟩
  | .dic ks ds, _, h => by
    obtain ⟨p, vs, e1, h1, h2, h3⟩ := h
    exact ⟨p, vs, e1, Rd.ext e h1.1 h1.2, Rels.ext e ds vs h2, h3⟩
  | .wdic ks ds, _, h => by
    obtain ⟨p, vs, e1, h1, h2, h3⟩ := h
    exact ⟨p, vs, e1, h1, Rels.ext e ds vs h2, h3⟩
  | .cell k, _, h => by
    obtain ⟨a, h1, h2⟩ := h
    exact ⟨a, e.idx h1, h2⟩
  | .ins C fs ds, _, h => by
    obtain ⟨p, dx, vs, e1, n, h1, h2, h3⟩ := h
    exact ⟨p, dx, vs, e1, ⟨e.nin h1 n.1, n.2⟩, e.keep _ _ h1 n.1, Rels.ext e ds vs h2, h3⟩
  | .fn _, _, h => h
  | .cls _, _, h => h
  | .ty _, _, h => h
theorem Rels.ext (e : Ext ι H ι' H') : ∀ (ds : List D) (vs : List V), Rels G ι H vs ds → Rels G ι' H' vs ds
  | [], [], h => h
  | [], _ :: _, h => by simp [Rels] at h
  | _ :: _, [], h => by simp [Rels] at h
  | d :: ds, v :: vs, h => by
    have h : Rel G ι H v d ∧ Rels G ι H vs ds := by simpa [Rels] using h
    have : Rel G ι' H' v d ∧ Rels G ι' H' vs ds := ⟨Rel.ext e d v h.1, Rels.ext e ds vs h.2⟩
    simpa [Rels] using this
end
@[simp] theorem rels_nil : Rels G ι H [] [] = True := by simp [Rels]
@[simp] theorem rels_cons {v : V} {vs : List V} {d : D} {ds : List D} : Rels G ι H (v :: vs) (d :: ds) = (Rel G ι H v d ∧ Rels G ι H vs ds) := by simp [Rels]
theorem rels_nil_iff {vs : List V} : Rels G ι H vs [] ↔ vs = [] := by cases vs <;> simp [Rels]
theorem rels_cons_iff {vs : List V} {d : D} {ds : List D} : Rels G ι H vs (d :: ds) ↔ ∃ v r, vs = v :: r ∧ Rel G ι H v d ∧ Rels G ι H r ds := by
  cases vs with
  | nil => simp [Rels]
  | cons v r =>
    rw [rels_cons]
    constructor
    · intro h
      exact ⟨v, r, rfl, h⟩
    · rintro ⟨v', r', e, h⟩
      cases e
      exact h
theorem Rels.len : ∀ {vs : List V} {ds : List D}, Rels G ι H vs ds → vs.length = ds.length
  | [], [], _ => rfl
  | [], _ :: _, h => by simp [Rels] at h
  | _ :: _, [], h => by simp [Rels] at h
  | v :: vs, d :: ds, h => by
    rw [rels_cons] at h
    simp [Rels.len h.2]
theorem Rels.get : ∀ {vs : List V} {ds : List D} {i : Nat} {d : D}, Rels G ι H vs ds → ds[i]? = some d → ∃ v, vs[i]? = some v ∧ Rel G ι H v d
  | [], [], _, _, _, h => by simp at h
  | [], _ :: _, _, _, h, _ => by simp [Rels] at h
  | _ :: _, [], _, _, h, _ => by simp [Rels] at h
  | v :: vs, d :: ds, 0, d', h, e => by
    rw [rels_cons] at h
    simp at e
    subst e
    exact ⟨v, rfl, h.1⟩
  | v :: vs, d :: ds, i + 1, d', h, e => by
    rw [rels_cons] at h
    obtain ⟨w, h1, h2⟩ := Rels.get (i := i) (d := d') h.2 (by simpa using e)
    exact ⟨w, by simpa using h1, h2⟩
theorem Rels.getV : ∀ {vs : List V} {ds : List D} {i : Nat} {v : V}, Rels G ι H vs ds → vs[i]? = some v → ∃ d, ds[i]? = some d ∧ Rel G ι H v d
  | [], [], _, _, _, h => by simp at h
  | [], _ :: _, _, _, h, _ => by simp [Rels] at h
  | _ :: _, [], _, _, h, _ => by simp [Rels] at h
  | v :: vs, d :: ds, 0, v', h, e => by
    rw [rels_cons] at h
    simp at e
    subst e
    exact ⟨d, rfl, h.1⟩
  | v :: vs, d :: ds, i + 1, v', h, e => by
    rw [rels_cons] at h
    obtain ⟨w, h1, h2⟩ := Rels.getV (i := i) (v := v') h.2 (by simpa using e)
    exact ⟨w, by simpa using h1, h2⟩
theorem Rels.append : ∀ {vs : List V} {ds : List D} {ws : List V} {es : List D}, Rels G ι H vs ds → Rels G ι H ws es → Rels G ι H (vs ++ ws) (ds ++ es)
  | [], [], _, _, _, h => h
  | [], _ :: _, _, _, h, _ => by simp [Rels] at h
  | _ :: _, [], _, _, h, _ => by simp [Rels] at h
  | v :: vs, d :: ds, ws, es, h, k => by
    rw [rels_cons] at h
    rw [List.cons_append, List.cons_append, rels_cons]
    exact ⟨h.1, Rels.append h.2 k⟩
theorem Rels.take : ∀ {vs : List V} {ds : List D} (n : Nat), Rels G ι H vs ds → Rels G ι H (vs.take n) (ds.take n)
  | _, _, 0, _ => by simp
  | [], [], _ + 1, _ => by simp
  | [], _ :: _, _, h => by simp [Rels] at h
  | _ :: _, [], _, h => by simp [Rels] at h
  | v :: vs, d :: ds, n + 1, h => by
    rw [rels_cons] at h
    rw [List.take_succ_cons, List.take_succ_cons, rels_cons]
    exact ⟨h.1, Rels.take n h.2⟩
theorem Rels.drop : ∀ {vs : List V} {ds : List D} (n : Nat), Rels G ι H vs ds → Rels G ι H (vs.drop n) (ds.drop n)
  | _, _, 0, h => h
  | [], [], _ + 1, _ => by simp
  | [], _ :: _, _, h => by simp [Rels] at h
  | _ :: _, [], _, h => by simp [Rels] at h
  | v :: vs, d :: ds, n + 1, h => by
    rw [rels_cons] at h
    rw [List.drop_succ_cons, List.drop_succ_cons]
    exact Rels.drop n h.2
theorem Rels.set {v : V} {d : D} (r : Rel G ι H v d) : ∀ {vs : List V} {ds : List D} (n : Nat), Rels G ι H vs ds → Rels G ι H (vs.set n v) (ds.set n d)
  | [], [], _, _ => by simp
  | [], _ :: _, _, h => by simp [Rels] at h
  | _ :: _, [], _, h => by simp [Rels] at h
  | w :: vs, e :: ds, 0, h => by
    rw [rels_cons] at h
    rw [List.set_cons_zero, List.set_cons_zero, rels_cons]
    exact ⟨r, h.2⟩
  | w :: vs, e :: ds, n + 1, h => by
    rw [rels_cons] at h
    rw [List.set_cons_succ, List.set_cons_succ, rels_cons]
    exact ⟨h.1, Rels.set r n h.2⟩
theorem Rels.erase : ∀ {vs : List V} {ds : List D} (n : Nat), Rels G ι H vs ds → Rels G ι H (vs.eraseIdx n) (ds.eraseIdx n)
  | [], [], _, _ => by simp
  | [], _ :: _, _, h => by simp [Rels] at h
  | _ :: _, [], _, h => by simp [Rels] at h
  | w :: vs, e :: ds, 0, h => by
    rw [rels_cons] at h
    simpa using h.2
  | w :: vs, e :: ds, n + 1, h => by
    rw [rels_cons] at h
    rw [List.eraseIdx_cons_succ, List.eraseIdx_cons_succ, rels_cons]
    exact ⟨h.1, Rels.erase n h.2⟩
end
def CellAt (G : Gx) (ι : List Addr) (H : Hp) (a : Addr) : Cell → Prop
  | .lst ds => ∃ vs, H a = some (.lst vs) ∧ Rels G ι H vs ds ∧ vs.length ≤ sizeLine
  | .ins C fs ds => ∃ dx vs, H a = some (.ins (G.cad C) dx (fs.zip vs)) ∧ Rels G ι H vs ds ∧ fs.length = ds.length
  | .dic ks ds => ∃ vs, H a = some (.dK (ks.zip vs)) ∧ Rels G ι H vs ds ∧ ks.length = ds.length ∧ ks.Nodup
structure SOk (G : Gx) (ι : List Addr) (H : Hp) (μ : Sto) : Prop where
  len : ι.length = μ.length
  nd : ι.Nodup
  zl : ∀ a ∈ G.z, H a ≠ none ∧ a ∉ ι
  at_ : ∀ (k : Nat) (c : Cell), μ[k]? = some c → ∃ a, ι[k]? = some a ∧ CellAt G ι H a c
theorem CellAt.there {G : Gx} {ι : List Addr} {H : Hp} {a : Addr} {c : Cell} (h : CellAt G ι H a c) : H a ≠ none := by
  cases c with
  | lst ds =>
    obtain ⟨vs, h, _⟩ := h
    rw [h]
    exact fun z => by cases z
  | ins C fs ds =>
    obtain ⟨dx, vs, h, _⟩ := h
    rw [h]
    exact fun z => by cases z
  | dic ks ds =>
    obtain ⟨vs, h, _⟩ := h
    rw [h]
    exact fun z => by cases z
theorem SOk.live {G : Gx} {ι : List Addr} {H : Hp} {μ : Sto} (S : SOk G ι H μ) : ∀ a ∈ ι, H a ≠ none := fun a ha => by
  obtain ⟨k, hk, e⟩ := List.getElem_of_mem ha
  have hk' : k < μ.length := by rw [← S.len]; exact hk
  obtain ⟨b, hb, c⟩ := S.at_ k μ[k] (by simp [hk'])
  have : b = a := by
    have e2 : ι[k]? = some a := by rw [List.getElem?_eq_getElem hk, e]
    rw [e2] at hb
    exact (Option.some.inj hb).symm
  subst this
  exact c.there
theorem SOk.fresh {G : Gx} {ι : List Addr} {H : Hp} {μ : Sto} (S : SOk G ι H μ) {p : Addr} (h : H p = none) : G.non ι p := ⟨fun m => S.live p m h, fun m => (S.zl p m).1 h⟩
theorem CellAt.same {G : Gx} {ι : List Addr} {H H' : Hp} {a : Addr} {c : Cell} (k : ∀ a o, H a = some o → H' a = some o) (h : CellAt G ι H a c) : CellAt G ι H' a c := by
  have e : Ext ι H ι H' := Ext.same k
  cases c with
  | lst ds =>
    obtain ⟨vs, h, r, z⟩ := h
    exact ⟨vs, k _ _ h, Rels.ext e _ _ r, z⟩
  | ins C fs ds =>
    obtain ⟨dx, vs, h, r, z⟩ := h
    exact ⟨dx, vs, k _ _ h, Rels.ext e _ _ r, z⟩
  | dic ks ds =>
    obtain ⟨vs, h, r, z⟩ := h
    exact ⟨vs, k _ _ h, Rels.ext e _ _ r, z⟩
theorem SOk.same {G : Gx} {ι : List Addr} {H H' : Hp} {μ : Sto} (k : ∀ a o, H a = some o → H' a = some o) (S : SOk G ι H μ) : SOk G ι H' μ :=
  have zl : ∀ a ∈ G.z, H' a ≠ none ∧ a ∉ ι := fun a m => by
    refine ⟨fun q => ?_, (S.zl a m).2⟩
    cases r : H a with
    | none => exact (S.zl a m).1 r
    | some o =>
      rw [k a o r] at q
      cases q
  ⟨S.len, S.nd, zl, fun j c e => let ⟨a, h1, h2⟩ := S.at_ j c e; ⟨a, h1, h2.same k⟩⟩
theorem SOk.new {G : Gx} {ι : List Addr} {H : Hp} {μ : Sto} {p : Addr} {o : HO} (S : SOk G ι H μ) (h : H p = none) : SOk G ι (upd H p o) μ := S.same fun a u q => by
  rw [upd_ne (ne_of_none q h)]
  exact q
theorem Ext.cell {ι : List Addr} {H : Hp} {p : Addr} {o : HO} (h : H p = none) : Ext ι H (ι ++ [p]) (upd H p o) :=
  ⟨⟨[p], rfl, fun a ha => by
      have e : a = p := by simpa using ha
      rw [e]
      exact h⟩, (Ext.new (ι := ι) h).keep, (Ext.new (ι := ι) h).live⟩
theorem SOk.push {G : Gx} {ι : List Addr} {H : Hp} {μ : Sto} {p : Addr} {o : HO} {c : Cell} (S : SOk G ι H μ) (h : H p = none) (hc : CellAt G (ι ++ [p]) (upd H p o) p c) : SOk G (ι ++ [p]) (upd H p o) (μ ++ [c]) := by
  have e : Ext ι H (ι ++ [p]) (upd H p o) := Ext.cell h
  have kp : ∀ a o', H a = some o' → upd H p o a = some o' := fun a u q => by
    rw [upd_ne (ne_of_none q h)]
    exact q
  have zl : ∀ a ∈ G.z, upd H p o a ≠ none ∧ a ∉ ι ++ [p] := fun a m => by
    constructor
    · intro q
      cases r : H a with
      | none => exact (S.zl a m).1 r
      | some o' =>
        rw [kp a o' r] at q
        cases q
    · intro q
      rcases List.mem_append.mp q with q | q
      · exact (S.zl a m).2 q
      · have e1 : a = p := by simpa using q
        exact (S.zl a m).1 (e1 ▸ h)
  refine ⟨by simp [S.len], ?_, zl, fun k c' hk => ?_⟩
  · rw [List.nodup_append]
    refine ⟨S.nd, by simp, fun a ha b hb => ?_⟩
    have eb : b = p := by simpa using hb
    subst eb
    exact fun z => (S.fresh h).1 (z ▸ ha)
  · by_cases hl : k < μ.length
    · rw [List.getElem?_append_left hl] at hk
      obtain ⟨a, h1, h2⟩ := S.at_ k c' hk
      refine ⟨a, e.idx h1, ?_⟩
      cases c' with
      | lst ds =>
        obtain ⟨vs, h, r, z⟩ := h2
        exact ⟨vs, kp _ _ h, Rels.ext e _ _ r, z⟩
      | ins C fs ds =>
        obtain ⟨dx, vs, h, r, z⟩ := h2
        exact ⟨dx, vs, kp _ _ h, Rels.ext e _ _ r, z⟩
      | dic ks ds =>
        obtain ⟨vs, h, r, z⟩ := h2
        exact ⟨vs, kp _ _ h, Rels.ext e _ _ r, z⟩
    · have hl' : μ.length ≤ k := Nat.le_of_not_lt hl
      rw [List.getElem?_append_right hl'] at hk
      have hk0 : k = μ.length := by
        have := (List.getElem?_eq_some_iff.mp hk).1
        simp at this
        omega
      subst hk0
      simp at hk
      subst hk
      exact ⟨p, by rw [← S.len]; simp, hc⟩
theorem SOk.ext_write {G : Gx} {ι : List Addr} {H : Hp} {μ : Sto} {k : Nat} {a : Addr} {o : HO} (S : SOk G ι H μ) (hk : ι[k]? = some a) : Ext ι H ι (upd H a o) := by
  refine ⟨⟨[], by simp, by simp⟩, fun b u q n => ?_, fun b m q => ?_⟩
  · rw [upd_ne]
    · exact q
    · intro z
      subst z
      exact n (List.mem_of_getElem? hk)
  · by_cases e : b = a
    · subst e
      rw [upd_same]
      exact fun z => by cases z
    · rw [upd_ne e]
      exact q
theorem SOk.write {G : Gx} {ι : List Addr} {H : Hp} {μ : Sto} {k : Nat} {a : Addr} {o : HO} {c : Cell} (S : SOk G ι H μ) (hk : ι[k]? = some a) (hc : CellAt G ι (upd H a o) a c) : SOk G ι (upd H a o) (μ.set k c) := by
  have e : Ext ι H ι (upd H a o) := S.ext_write hk
  refine ⟨by simp [S.len], S.nd, fun b m => ⟨fun q => by
      have hb : b ≠ a := fun e1 => (S.zl b m).2 (e1 ▸ List.mem_of_getElem? hk)
      rw [upd_ne hb] at q
      exact (S.zl b m).1 q, (S.zl b m).2⟩, fun j c' hj => ?_⟩
  by_cases hjk : j = k
  · subst hjk
    have hl : j < μ.length := by
      have := (List.getElem?_eq_some_iff.mp hj).1
      simpa using this
    rw [List.getElem?_set_self hl] at hj
    cases hj
    exact ⟨a, hk, hc⟩
  · rw [List.getElem?_set_ne (Ne.symm hjk)] at hj
    obtain ⟨b, h1, h2⟩ := S.at_ j c' hj
    have hne : b ≠ a := by
      intro z
      subst z
      obtain ⟨l1, e1⟩ := List.getElem?_eq_some_iff.mp h1
      obtain ⟨l2, e2⟩ := List.getElem?_eq_some_iff.mp hk
      exact hjk ((List.getElem_inj S.nd).mp (e1.trans e2.symm))
    refine ⟨b, h1, ?_⟩
    cases c' with
    | lst ds =>
      obtain ⟨vs, h, r, z⟩ := h2
      exact ⟨vs, by rw [upd_ne hne]; exact h, Rels.ext e _ _ r, z⟩
    | ins C fs ds =>
      obtain ⟨dx, vs, h, r, z⟩ := h2
      exact ⟨dx, vs, by rw [upd_ne hne]; exact h, Rels.ext e _ _ r, z⟩
    | dic ks ds =>
      obtain ⟨vs, h, r, z⟩ := h2
      exact ⟨vs, by rw [upd_ne hne]; exact h, Rels.ext e _ _ r, z⟩
structure EOk (G : Gx) (ι : List Addr) (H : Hp) (σ : L2.St) (ρ : Env) : Prop where
  len : ρ.length = σ.length
  at_ : ∀ (i : Nat) (d : D), ρ[i]? = some (some d) → ∃ v, σ[i]? = some (some v) ∧ Rel G ι H v d
theorem EOk.ext {G : Gx} {ι ι' : List Addr} {H H' : Hp} {σ : L2.St} {ρ : Env} (e : Ext ι H ι' H') (h : EOk G ι H σ ρ) : EOk G ι' H' σ ρ :=
  ⟨h.len, fun i d q => let ⟨v, h1, h2⟩ := h.at_ i d q; ⟨v, h1, Rel.ext e d v h2⟩⟩
theorem EOk.set {G : Gx} {ι : List Addr} {H : Hp} {σ : L2.St} {ρ : Env} {v : V} {d : D} (h : EOk G ι H σ ρ) (r : Rel G ι H v d) (i : Nat) : EOk G ι H (σ.set i (some v)) (ρ.set i (some d)) := by
  refine ⟨by simp [h.len], fun j e q => ?_⟩
  by_cases hj : j = i
  · subst hj
    have hl : j < ρ.length := by
      have := (List.getElem?_eq_some_iff.mp q).1
      simpa using this
    rw [List.getElem?_set_self hl] at q
    cases q
    rw [List.getElem?_set_self (by rw [← h.len]; exact hl)]
    exact ⟨v, rfl, r⟩
  · rw [List.getElem?_set_ne (Ne.symm hj)] at q
    rw [List.getElem?_set_ne (Ne.symm hj)]
    exact h.at_ j e q
def wipeE (ρ : Env) : List Nat → Env
  | [] => ρ
  | v :: vs => (wipeE ρ vs).set v none
theorem EOk.wipe {G : Gx} {ι : List Addr} {H : Hp} {σ : L2.St} {ρ : Env} (h : EOk G ι H σ ρ) : ∀ vs : List Nat, EOk G ι H (L2.wipe σ vs) (wipeE ρ vs)
  | [] => h
  | v :: vs => by
    have q := EOk.wipe h vs
    show EOk G ι H ((L2.wipe σ vs).set v none) ((wipeE ρ vs).set v none)
    refine ⟨by simp [q.len], fun j e z => ?_⟩
    by_cases hj : j = v
    · subst hj
      have hl : j < (wipeE ρ vs).length := by
        have := (List.getElem?_eq_some_iff.mp z).1
        simpa using this
      rw [List.getElem?_set_self hl] at z
      cases z
    · rw [List.getElem?_set_ne (Ne.symm hj)] at z
      rw [List.getElem?_set_ne (Ne.symm hj)]
      exact q.at_ j e z
end T
namespace T
open PySem PySem.Spec PyProof.Rows L2
def XAt (G : Gx) (ι : List Addr) (H : Hp) (C : Nat) (ds : List D) (od : Option Addr) : Prop :=
  (ds = [] ∧ od = none) ∨ ∃ a vs, od = some a ∧ G.non ι a ∧ H a = some (.xd ((G.xf C).zip vs)) ∧ Rels G ι H vs ds ∧ (G.xf C).length = ds.length
def PostX {α β : Type} (G : Gx) (Rl : List Addr → Hp → β → α → Prop) (E : XK) (ι : List Addr) (H : Hp) : R α → (β → Hp → Prop) → Prop
  | .ok a μ, Q => ∀ b H' ι', Ext ι H ι' H' → SOk G ι' H' μ → Rl ι' H' b a → Q b H'
  | .exc C ds μ, _ => ∀ od H' ι', Ext ι H ι' H' → SOk G ι' H' μ → XAt G ι' H' C ds od → E (.ref (G.cad C)) od H'
  | .bad, _ => False
def TX {α β : Type} (G : Gx) (Rl : List Addr → Hp → β → α → Prop) (E : XK) (F : Env → Sto → R α) : L2.St → Hp → (β → Hp → Prop) → Prop := fun σ H Q => ∃ ι ρ μ, EOk G ι H σ ρ ∧ SOk G ι H μ ∧ PostX G Rl E ι H (F ρ μ) Q
abbrev Post (G : Gx) (E : XK) (ι : List Addr) (H : Hp) (r : R D) (Q : VK) : Prop := PostX G (Rel G) E ι H r Q
abbrev TEv (G : Gx) (E : XK) (F : Env → Sto → R D) : TE := TX G (Rel G) E F
abbrev TAv (G : Gx) (E : XK) (F : Env → Sto → R (List D)) : TA := TX G (Rels G) E F
abbrev TBv (G : Gx) (E : XK) (F : Env → Sto → R Bool) : TT := TX G (fun _ _ b a => b = a) E F
section
variable {α β γ δ : Type} {G : Gx} {E : XK} {ι ι1 : List Addr} {H H1 : Hp} {σ : L2.St} {ρ : Env} {μ : Sto} {Rl : List Addr → Hp → β → α → Prop} {Rm : List Addr → Hp → δ → γ → Prop}
theorem PostX.mono {r : R α} {Q : β → Hp → Prop} (e : Ext ι H ι1 H1) (p : PostX G Rl E ι H r Q) : PostX G Rl E ι1 H1 r Q := by
  cases r with
  | ok d m => exact fun v H' ι' x s r => p v H' ι' (e.trans x) s r
  | exc C ds m => exact fun od H' ι' x s r => p od H' ι' (e.trans x) s r
  | bad => exact p
theorem PostX.bind {r : R α} {f : α → Sto → R γ} {Q : δ → Hp → Prop} (p : PostX G Rm E ι H (r.bind f) Q) {Q' : β → Hp → Prop}
    (k : ∀ a μ1 b H1 ι1, r = .ok a μ1 → Ext ι H ι1 H1 → SOk G ι1 H1 μ1 → Rl ι1 H1 b a → PostX G Rm E ι1 H1 (f a μ1) Q → Q' b H1) : PostX G Rl E ι H r Q' := by
  cases r with
  | ok d m => exact fun v H' ι' x s r => k d m v H' ι' rfl x s r (PostX.mono x p)
  | exc C ds m => exact p
  | bad => exact p
theorem PostX.imp {r : R α} {Q Q' : β → Hp → Prop} (p : PostX G Rl E ι H r Q) (k : ∀ v H', Q v H' → Q' v H') : PostX G Rl E ι H r Q' := by
  cases r with
  | ok d m => exact fun v H' ι' x s r => k v H' (p v H' ι' x s r)
  | exc C ds m => exact p
  | bad => exact p
theorem PostX.here {a : α} {b : β} {Q : β → Hp → Prop} (p : PostX G Rl E ι H (.ok a μ) Q) (s : SOk G ι H μ) (r : Rl ι H b a) : Q b H := p b H ι (Ext.refl _ _) s r
theorem Post.bind {r : R D} {f : D → Sto → R D} {Q : VK} (p : Post G E ι H (r.bind f) Q) {Q' : VK}
    (k : ∀ a μ1 v H1 ι1, r = .ok a μ1 → Ext ι H ι1 H1 → SOk G ι1 H1 μ1 → Rel G ι1 H1 v a → Post G E ι1 H1 (f a μ1) Q → Q' v H1) : Post G E ι H r Q' := PostX.bind p k
theorem Post.val {d : D} {v : V} {Q : VK} (p : Post G E ι H (.ok d μ) Q) (s : SOk G ι H μ) (r : Rel G ι H v d) : Q v H := p v H ι (Ext.refl _ _) s r
end
theorem _root_.L2.PE.weak {X : Cx} {e : Expr} {t t' : TE} (h : PE X e t) (k : ∀ σ H Q, t' σ H Q → t σ H Q) : PE X e t' := ⟨fun pins s σ H Q I q => h.run pins s σ H Q I (k σ H Q q)⟩
theorem _root_.L2.PT.weak {X : Cx} {e : Expr} {t t' : TT} (h : PT X e t) (k : ∀ σ H Q, t' σ H Q → t σ H Q) : PT X e t' := ⟨fun pins s σ H Q I q => h.run pins s σ H Q I (k σ H Q q)⟩
theorem _root_.L2.PS.weak {X : Cx} {e : Stmt} {t t' : TS} (h : PS X e t) (k : ∀ D σ H, t' D σ H → t D σ H) : PS X e t' := ⟨fun pins s σ H D I q => h.run pins s σ H D I (k D σ H q)⟩
theorem _root_.L2.PSs.weak {X : Cx} {e : List Stmt} {t t' : TS} (h : PSs X e t) (k : ∀ D σ H, t' D σ H → t D σ H) : PSs X e t' := ⟨fun pins s σ H D I q => h.run pins s σ H D I (k D σ H q)⟩
theorem _root_.L2.PA.weak {X : Cx} {e : List Expr} {t t' : TA} (h : PA X e t) (k : ∀ σ H Q, t' σ H Q → t σ H Q) : PA X e t' := ⟨fun pos pins s σ H Q I q => h.run pos pins s σ H Q I (k σ H Q q)⟩
theorem OpR.or {X : Cx} {f : Value → Value → PySem.Sem Value} {r r' : R2} (h : OpR X f r) (h' : OpR X f r') : OpR X f (fun x y H Q => r x y H Q ∨ r' x y H Q) := by
  intro pins s σ H x y v u Q I rx ry q
  rcases q with q | q
  · exact h pins s σ H x y v u Q I rx ry q
  · exact h' pins s σ H x y v u Q I rx ry q
theorem CallR.or {X : Cx} {f : Value} {r r' : List V → Hp → VK → Prop} (h : CallR X f r) (h' : CallR X f r') : CallR X f (fun x H Q => r x H Q ∨ r' x H Q) := by
  intro pins s σ H xs us Q I rx q
  rcases q with q | q
  · exact h pins s σ H xs us Q I rx q
  · exact h' pins s σ H xs us Q I rx q
def lstOf (μ : Sto) : D → Option (List D)
  | .lst ds => some ds
  | .cell k => match μ[k]? with
    | some (.lst ds) => some ds
    | _ => none
  | _ => none
def seqOf (μ : Sto) : D → Option (List D)
  | .lst ds => some ds
  | .fro ds => some ds
  | .tup ds => some ds
  | .cell k => match μ[k]? with
    | some (.lst ds) => some ds
    | _ => none
  | _ => none
section
variable {G : Gx} {ι : List Addr} {H : Hp} {μ : Sto} {v : V} {d : D} {ds : List D}
theorem lst_ok (S : SOk G ι H μ) (r : Rel G ι H v d) (e : lstOf μ d = some ds) : ∃ p vs, v = .ref p ∧ H p = some (.lst vs) ∧ Rels G ι H vs ds ∧ vs.length ≤ sizeLine := by
  cases d with
  | lst es =>
    cases e
    obtain ⟨p, vs, h1, ⟨h0, h2, _⟩, h3⟩ := r
    exact ⟨p, vs, h1, h2, h3, h0⟩
  | cell k =>
    obtain ⟨a, h1, h2⟩ := r
    unfold lstOf at e
    cases hk : μ[k]? with
    | none => simp [hk] at e
    | some c =>
      cases c with
      | lst es =>
        simp [hk] at e
        subst e
        obtain ⟨b, hb, vs, h3, h4, h5⟩ := S.at_ k _ hk
        rw [h1] at hb
        cases hb
        exact ⟨a, vs, h2, h3, h4, h5⟩
      | ins C fs es => simp [hk] at e
      | dic ks es => simp [hk] at e
  | _ => cases e
theorem seq_ok (S : SOk G ι H μ) (r : Rel G ι H v d) (e : seqOf μ d = some ds) : ∃ p vs, v = .ref p ∧ (SqL G.K H p vs ∨ SqT G.K H p vs) ∧ Rels G ι H vs ds ∧ vs.length ≤ sizeLine := by
  cases d with
  | lst es =>
    obtain ⟨p, vs, h1, h2, h3, h4⟩ := lst_ok S r (ds := ds) e
    exact ⟨p, vs, h1, .inl (SqL.of h2), h3, h4⟩
  | cell k =>
    obtain ⟨p, vs, h1, h2, h3, h4⟩ := lst_ok S r (ds := ds) e
    exact ⟨p, vs, h1, .inl (SqL.of h2), h3, h4⟩
  | fro es =>
    cases e
    obtain ⟨p, vs, h1, h2, h3⟩ := r
    exact ⟨p, vs, h1, .inl h2.sq, h3, h2.1⟩
  | tup es =>
    cases e
    obtain ⟨p, vs, h1, h2, h3⟩ := r
    exact ⟨p, vs, h1, .inr h2.sq, h3, h2.1⟩
  | _ => cases e
theorem tup_ok (r : Rel G ι H v (.tup ds)) : ∃ p vs, v = .ref p ∧ SqT G.K H p vs ∧ Rels G ι H vs ds ∧ vs.length ≤ sizeLine := by
  obtain ⟨p, vs, h1, h2, h3⟩ := r
  exact ⟨p, vs, h1, h2.sq, h3, h2.1⟩
theorem Post.newL {E : XK} {Q : VK} {p : Addr} {vs : List V} (q : Post G E ι H (.ok (.lst ds) μ) Q) (S : SOk G ι H μ) (h : H p = none) (r : Rels G ι H vs ds) (z : vs.length ≤ sizeLine) : Q (.ref p) (upd H p (.lst vs)) :=
  q _ _ ι (Ext.new h) (S.new h) ⟨p, vs, rfl, ⟨z, upd_same, S.fresh h⟩, Rels.ext (Ext.new h) _ _ r⟩
theorem Post.newT {E : XK} {Q : VK} {p : Addr} {vs : List V} (q : Post G E ι H (.ok (.tup ds) μ) Q) (S : SOk G ι H μ) (h : H p = none) (r : Rels G ι H vs ds) (z : vs.length ≤ sizeLine) : Q (.ref p) (upd H p (.tup vs)) :=
  q _ _ ι (Ext.new h) (S.new h) ⟨p, vs, rfl, ⟨z, .inl ⟨.inl upd_same, S.fresh h⟩⟩, Rels.ext (Ext.new h) _ _ r⟩
theorem Post.newC {E : XK} {Q : VK} {p : Addr} {vs : List V} (q : Post G E ι H (.ok (.cell μ.length) (μ ++ [.lst ds])) Q) (S : SOk G ι H μ) (h : H p = none) (r : Rels G ι H vs ds) (z : vs.length ≤ sizeLine) : Q (.ref p) (upd H p (.lst vs)) := by
  have e : Ext ι H (ι ++ [p]) (upd H p (.lst vs)) := Ext.cell h
  refine q _ _ (ι ++ [p]) e (S.push h ⟨vs, upd_same, Rels.ext e _ _ r, z⟩) ⟨p, ?_, rfl⟩
  rw [← S.len]
  simp
end
mutual
def toPy : D → Option PyData
  | .non => some .none
  | .bl b => some (.bool b)
  | .int i => some (.int i)
  | .str x => some (.str x)
  | .tup ds => (toPys ds).map .tuple
  | .lst ds => (toPys ds).map .list
  | .fro ds => (toPys ds).map .list
  | _ => none
def toPys : List D → Option (List PyData)
  | [] => some []
  | d :: ds => (toPy d).bind fun x => (toPys ds).map (x :: ·)
end
def toPyC (μ : Sto) : D → Option PyData
  | .cell k => match μ[k]? with
    | some (.lst ds) => (toPys ds).map .list
    | _ => none
  | d => toPy d
section
variable {G : Gx} {ι : List Addr} {H : Hp} {μ : Sto}
mutual
theorem toPy_ok : ∀ (d : D) (v : V) (x : PyData), Rel G ι H v d → toPy d = some x → Dp G.K H v x
  | .non, _, _, r, e => by
    cases e
    cases r
    exact .non
  | .bl b, _, _, r, e => by
    cases e
    cases r
    exact .bl b
  | .int b, _, _, r, e => by
    cases e
    cases r
    exact .int b
  | .str b, _, _, r, e => by
    cases e
    cases r
    exact .str b
  | .tup ds, _, _, r, e => by
    obtain ⟨p, vs, rfl, h1, h2⟩ := r
    simp only [toPy, Option.map_eq_some_iff] at e
    obtain ⟨xs, e1, rfl⟩ := e
    exact .tup h1.sq (toPys_ok ds vs xs h2 e1)
  | .lst ds, _, _, r, e => by
    obtain ⟨p, vs, rfl, ⟨_, h1, _⟩, h2⟩ := r
    simp only [toPy, Option.map_eq_some_iff] at e
    obtain ⟨xs, e1, rfl⟩ := e
    exact .lst (SqL.of h1) (toPys_ok ds vs xs h2 e1)
  | .fro ds, _, _, r, e => by
    obtain ⟨p, vs, rfl, h1, h2⟩ := r
    simp only [toPy, Option.map_eq_some_iff] at e
    obtain ⟨xs, e1, rfl⟩ := e
    exact .lst h1.sq (toPys_ok ds vs xs h2 e1)
  | .dic _ _, _, _, _, e => by simp [toPy] at e
  | .wdic _ _, _, _, _, e => by simp [toPy] at e
  | .cell _, _, _, _, e => by simp [toPy] at e
  | .ins _ _ _, _, _, _, e => by simp [toPy] at e
  | .fn _, _, _, _, e => by simp [toPy] at e
  | .cls _, _, _, _, e => by simp [toPy] at e
  | .ty _, _, _, _, e => by simp [toPy] at e
theorem toPys_ok : ∀ (ds : List D) (vs : List V) (xs : List PyData), Rels G ι H vs ds → toPys ds = some xs → DpAll G.K H vs xs
  | [], [], _, _, e => by
    simp only [toPys, Option.some.injEq] at e
    subst e
    exact .nil
  | [], _ :: _, _, r, _ => by simp [Rels] at r
  | _ :: _, [], _, r, _ => by simp [Rels] at r
  | d :: ds, v :: vs, xs, r, e => by
    rw [rels_cons] at r
    simp only [toPys, Option.bind_eq_some_iff, Option.map_eq_some_iff] at e
    obtain ⟨x, e1, ys, e2, rfl⟩ := e
    exact .cons (toPy_ok d v x r.1 e1) (toPys_ok ds vs ys r.2 e2)
end
theorem toPyC_ok (S : SOk G ι H μ) {d : D} {v : V} {x : PyData} (r : Rel G ι H v d) (e : toPyC μ d = some x) : Dp G.K H v x := by
  cases d with
  | cell k =>
    unfold toPyC at e
    cases hk : μ[k]? with
    | none => simp [hk] at e
    | some c =>
      cases c with
      | lst ds =>
        simp only [hk, Option.map_eq_some_iff] at e
        obtain ⟨xs, e1, rfl⟩ := e
        obtain ⟨p, vs, rfl, h1, h2, _⟩ := lst_ok (ds := ds) S r (by simp [lstOf, hk])
        exact .lst (SqL.of h1) (toPys_ok ds vs xs h2 e1)
      | ins _ _ _ => simp [hk] at e
      | dic _ _ => simp [hk] at e
  | _ => exact toPy_ok _ v x r e
end
def Sim2 (G : Gx) (E : XK) (r : R2) (g : D → D → Sto → R D) : Prop :=
  ∀ ι H μ v w x y Q, SOk G ι H μ → Rel G ι H v x → Rel G ι H w y → Post G E ι H (g x y μ) Q → r v w H Q
def Sim1 (G : Gx) (E : XK) (r : V → Hp → VK → Prop) (g : D → Sto → R D) : Prop :=
  ∀ ι H μ v x Q, SOk G ι H μ → Rel G ι H v x → Post G E ι H (g x μ) Q → r v H Q
def f2 (g : D → D → Sto → R D) (Fa Fb : Env → Sto → R D) : Env → Sto → R D := fun ρ μ => (Fa ρ μ).bind fun x μ1 => (Fb ρ μ1).bind fun y μ2 => g x y μ2
def f1 (g : D → Sto → R D) (Fa : Env → Sto → R D) : Env → Sto → R D := fun ρ μ => (Fa ρ μ).bind g
theorem tev2 {G : Gx} {E : XK} {r : R2} {g : D → D → Sto → R D} {Fa Fb : Env → Sto → R D} (hs : Sim2 G E r g) : ∀ σ H Q, TEv G E (f2 g Fa Fb) σ H Q → tOp r (TEv G E Fa) (TEv G E Fb) σ H Q := by
  rintro σ H Q ⟨ι, ρ, μ, e, s, p⟩
  refine ⟨ι, ρ, μ, e, s, Post.bind p fun x μ1 v H1 ι1 _ x1 s1 r1 p1 => ?_⟩
  refine ⟨ι1, ρ, μ1, e.ext x1, s1, Post.bind p1 fun y μ2 w H2 ι2 _ x2 s2 r2 p2 => ?_⟩
  exact hs ι2 H2 μ2 v w x y Q s2 (Rel.ext x2 _ _ r1) r2 p2
theorem tev1 {G : Gx} {E : XK} {r : V → Hp → VK → Prop} {g : D → Sto → R D} {Fa : Env → Sto → R D} (hs : Sim1 G E r g) : ∀ σ H Q, TEv G E (f1 g Fa) σ H Q → tUn r (TEv G E Fa) σ H Q := by
  rintro σ H Q ⟨ι, ρ, μ, e, s, p⟩
  exact ⟨ι, ρ, μ, e, s, Post.bind p fun x μ1 v H1 ι1 _ x1 s1 r1 p1 => hs ι1 H1 μ1 v x Q s1 r1 p1⟩
section
variable {G : Gx} {E : XK} {X : Cx} {a b : Expr} {Fa Fb : Env → Sto → R D} {pos : Pos} {g : D → D → Sto → R D} {g1 : D → Sto → R D}
theorem pd_bin {op : Operator} {r : R2} (ho : OpR X (binaryOp op) r) (hs : Sim2 G E r g) (ha : PE X a (TEv G E Fa)) (hb : PE X b (TEv G E Fb)) : PE X (.BinOp a op b pos) (TEv G E (f2 g Fa Fb)) := (pe_op ho ha hb).weak (tev2 hs)
theorem pd_un {op : UnaryOp} {r : V → Hp → VK → Prop} (ho : UnR X (unaryOp op) r) (hs : Sim1 G E r g1) (ha : PE X a (TEv G E Fa)) : PE X (.UnaryOp op a pos) (TEv G E (f1 g1 Fa)) := (pe_un ho ha).weak (tev1 hs)
theorem pd_cmp {op : CmpOp} {r : R2} (ho : OpR X (compareOp op) r) (hs : Sim2 G E r g) (hm : behindInMarks op b = false) (ha : PE X a (TEv G E Fa)) (hb : PE X b (TEv G E Fb)) : PE X (.Compare a [op] [b] pos) (TEv G E (f2 g Fa Fb)) :=
  (pe_cmpR ho ha hb hm).weak (tev2 hs)
end
inductive BOp where
  | add | sub | mul | fdiv | mod | pow
  deriving DecidableEq
def fits (n : Nat) : Bool := decide (n ≤ sizeLine)
def addD (x y : D) (μ : Sto) : R D :=
  match x, y with
  | .int i, .int j => .ok (.int (i + j)) μ
  | .bl i, .int j => .ok (.int ((if i = true then 1 else 0) + j)) μ
  | .str i, .str j => if fits (i.length + j.length) then .ok (.str (i ++ j)) μ else .bad
  | .tup a, .tup b => if fits (a.length + b.length) then .ok (.tup (a ++ b)) μ else .bad
  | x, y => match lstOf μ x, lstOf μ y with
    | some a, some b => if fits (a.length + b.length) then .ok (.lst (a ++ b)) μ else .bad
    | _, _ => .bad
def subD (x y : D) (μ : Sto) : R D := match x, y with
  | .int i, .int j => .ok (.int (i - j)) μ
  | _, _ => .bad
def mulOk (i j : Int) : Bool := decide (-(2 ^ 64) < i ∧ i < 2 ^ 64) || decide (-(2 ^ 64) < j ∧ j < 2 ^ 64) || decide (i.natAbs.log2 + j.natAbs.log2 < 1000000)
def repS (a : Str) (k : Int) : Str := ⟨(List.replicate k.toNat a.cps).foldl (· ++ ·) #[]⟩
def mulD (x y : D) (μ : Sto) : R D := match x, y with
  | .int i, .int j => if mulOk i j then .ok (.int (i * j)) μ else .bad
  | .int i, .bl j => .ok (.int (i * if j = true then 1 else 0)) μ
  | .lst a, .int k => if decide (0 ≤ k ∧ k < 2 ^ 62) && fits (a.length * k.toNat) then .ok (.lst (List.replicate k.toNat a).flatten) μ else .bad
  | .tup a, .int k => if decide (2 ≤ k ∧ k ≤ 1000) && !a.isEmpty && decide (a.length ≤ 1000) then .ok (.tup (List.replicate k.toNat a).flatten) μ else if decide (-1000 ≤ k ∧ k ≤ 1000) then (if a.isEmpty || k == 1 then .ok (.tup a) μ else if decide (k ≤ 0) then .ok (.tup []) μ else .bad) else .bad
  | .str a, .int k => if decide (-(2 ^ 62) < k ∧ k < 2 ^ 62) && fits (a.length * k.toNat) then .ok (.str (repS a k)) μ else .bad
  | _, _ => .bad
def fdivD (x y : D) (μ : Sto) : R D := match x, y with
  | .int i, .int j => if decide (0 < j) && decide (j.natAbs.log2 < 9000) then .ok (.int (i / j)) μ else .bad
  | _, _ => .bad
def modD (x y : D) (μ : Sto) : R D := match x, y with
  | .int i, .int j => if decide (j ≠ 0) then .ok (.int (i.fmod j)) μ else .bad
  | _, _ => .bad
def powD (x y : D) (μ : Sto) : R D := match x, y with
  | .int i, .int j => if decide (0 ≤ j ∧ j ≤ 1000000 ∧ i.natAbs < 2 ^ 64) then .ok (.int (i ^ j.toNat)) μ else .bad
  | _, _ => .bad
def binD : BOp → D → D → Sto → R D
  | .add => addD | .sub => subD | .mul => mulD | .fdiv => fdivD | .mod => modD | .pow => powD
end T
namespace T
open PySem PySem.Spec PyProof.Rows L2
theorem mul_same (l : Addr) (its : Array Value) (n : Nat) (dd : Option Addr) (sl : Array (Option Value)) (x : Int) (u : Tok) (b0 : (decide (x < -(2 ^ 63)) || decide (x ≥ 2 ^ 63)) = false) (b1 : (its.isEmpty || x == 1) = true) :
    Meets (Builtin.«tuple.__mul__» ⟨[.ref l, .int x u], []⟩) (fun _ R s => s.heap.get? l = some { cls := .type "tuple", dict := dd, data := .seq its n, slots := sl } ∧ R (.ok (.ret (Value.ref l))) s) :=
  .of_wp fun prog w A R s h => by
    obtain ⟨hp, g, d, tk, os⟩ := s
    obtain ⟨hl, h⟩ := h
    have f1 := AutoSeq1.idx_int
    wp_walk using wpAny_loadPart' hl
    repeat (first
      | (refine wpAny_ite_false (decide_eq_false (by rw [b0]; exact Bool.false_ne_true)) ?_; wp_walk using wpAny_loadPart' hl)
      | (refine wpAny_ite_true (decide_eq_true b1) ?_; wp_walk using wpAny_loadPart' hl)
      | (refine wpAny_ite_true (decide_eq_true (by rfl)) ?_; wp_walk using wpAny_loadPart' hl))
    exact ⟨_, rfl, h⟩
theorem mul_none (l : Addr) (its : Array Value) (n : Nat) (dd : Option Addr) (sl : Array (Option Value)) (x : Int) (u : Tok) (b0 : (decide (x < -(2 ^ 63)) || decide (x ≥ 2 ^ 63)) = false) (b1 : (its.isEmpty || x == 1) = false) (b2 : (decide (x ≤ 0) || its.isEmpty) = true) :
    Meets (Builtin.«tuple.__mul__» ⟨[.ref l, .int x u], []⟩) (fun _ R s => s.heap.get? l = some { cls := .type "tuple", dict := dd, data := .seq its n, slots := sl } ∧
      R (.ok (.ret (Value.ref s.heap.objs.size))) { s with heap := s.heap.push { cls := Value.type "tuple", data := Data.seq #[] }, toks := s.toks }) :=
  .of_wp fun prog w A R s h => by
    obtain ⟨hp, g, d, tk, os⟩ := s
    obtain ⟨hl, h⟩ := h
    have f1 := AutoSeq1.idx_int
    wp_walk using wpAny_loadPart' hl
    repeat (first
      | (refine wpAny_ite_false (decide_eq_false (by rw [b0]; exact Bool.false_ne_true)) ?_; wp_walk using wpAny_loadPart' hl)
      | (refine wpAny_ite_false (decide_eq_false (by rw [b1]; exact Bool.false_ne_true)) ?_; wp_walk using wpAny_loadPart' hl)
      | (refine wpAny_ite_true (decide_eq_true b2) ?_; wp_walk using wpAny_loadPart' hl))
    exact ⟨_, rfl, h⟩
def rRepU (K : PySem.W.Frag) : R2 := fun x y H Q => ∃ l k xs, x = .ref l ∧ y = .int k ∧ SqT K H l xs ∧ -1000 ≤ k ∧ k ≤ 1000 ∧ (((xs = [] ∨ k = 1) ∧ Q (.ref l) H) ∨ (xs ≠ [] ∧ k ≤ 0 ∧ ∀ p, H p = none → Q (.ref p) (upd H p (.tup []))))
theorem op_repU {X : Cx} : OpR X (binaryOp .Mult) (rRepU X.K) := by
  intro pins s σ H x y v u Q I rx ry h
  obtain ⟨l, k, xs, rfl, rfl, hT, h1, h2, q⟩ := h
  cases rx
  obtain ⟨t, rfl⟩ := ry
  obtain ⟨its, r, ⟨⟨cls, dd, data, sl⟩, ho, hc, n, hd⟩, hs⟩ := I.tuple hT
  simp only at hc hd
  subst hc hd
  have hle : its.length = xs.length := r.length.symm
  have b0 : (decide (k < -(2 ^ 63)) || decide (k ≥ 2 ^ 63)) = false := by
    rw [decide_eq_false (by omega), decide_eq_false (by omega)]
    rfl
  refine wpAny_binaryOp_repeat_ref (T := "tuple") (U := "int") (by decide) ⟨_, ho, rfl⟩ (fun s' => typeIs_int s' k t) noFill_tuple_mul F.fills_int_mul F.slot_int_rmul repeat_tuple F.slot_int_index.lookup
    (call_meets F.slot_int_rmul (typeIs_int s k t) F.entry_int_rmul (F.args_int_rmul_2 _ _) (int_rmul_tuple k t l its.toArray n dd sl) ⟨ho, rfl, ⟨_, ho, rfl⟩, ?_⟩)
  rcases q with ⟨he, q⟩ | ⟨hne, hk, q⟩
  · have b1 : (its.toArray.isEmpty || k == 1) = true := by
      rcases he with he | he
      · subst he
        have : its = [] := List.eq_nil_of_length_eq_zero hle
        subst this
        rfl
      · subst he
        simp
    exact call_meets F.slot_tuple_mul ⟨_, ho, rfl⟩ F.entry_tuple_mul (F.args_tuple_mul_2 _ _) (mul_same l its.toArray n dd sl k t b0 b1) ⟨ho, ⟨.ref l, H, I, rfl, q⟩⟩
  · have hn : its ≠ [] := fun e => hne (by
      rw [e] at hle
      exact List.eq_nil_of_length_eq_zero hle.symm)
    have hi : its.toArray.isEmpty = false := by
      cases its with
      | nil => exact absurd rfl hn
      | cons a b => rfl
    have b1 : (its.toArray.isEmpty || k == 1) = false := by
      rw [hi, Bool.false_or]
      exact beq_eq_false_iff_ne.mpr (by omega)
    have b2 : (decide (k ≤ 0) || its.toArray.isEmpty) = true := by
      rw [decide_eq_true hk]
      rfl
    refine call_meets F.slot_tuple_mul ⟨_, ho, rfl⟩ F.entry_tuple_mul (F.args_tuple_mul_2 _ _) (mul_none l its.toArray n dd sl k t b0 b1 b2) ⟨ho, ?_⟩
    refine ⟨.ref s.heap.objs.size, _, I.laid (t' := s.toks) (o := .tup []) (fun b ob q => Heap.get?_push_of_some _ q) (Nat.le_refl _) ?_, rfl, q _ (I.hok.fresh (Nat.le_refl _))⟩
    exact ⟨by rw [List.length_nil]; exact Nat.zero_le _, [], .nil, IsTup.new _ _⟩
end T
namespace T
open PySem PySem.Spec PyProof.Rows L2
section
variable {G : Gx} {E : XK}
theorem fits_iff {n : Nat} : fits n = true ↔ n ≤ sizeLine := by unfold fits; simp
theorem Rels.ints : ∀ {ds : List D} {vs : List V} {ns : List Int} {ι : List Addr} {H : Hp}, Rels G ι H vs (ns.map D.int) → vs = ns.map V.int
  | _, [], [], _, _, _ => rfl
  | _, [], _ :: _, _, _, h => by simp [Rels] at h
  | _, _ :: _, [], _, _, h => by simp [Rels] at h
  | ds, v :: vs, n :: ns, ι, H, h => by
    rw [List.map_cons, rels_cons] at h
    have h1 : v = V.int n := h.1
    rw [List.map_cons, h1, Rels.ints (ds := ds) h.2]
theorem rels_flatten {ι : List Addr} {H : Hp} {vs : List V} {ds : List D} (r : Rels G ι H vs ds) : ∀ k : Nat, Rels G ι H (List.replicate k vs).flatten (List.replicate k ds).flatten
  | 0 => by simp
  | k + 1 => by
    rw [List.replicate_succ, List.replicate_succ, List.flatten_cons, List.flatten_cons]
    exact r.append (rels_flatten r k)
theorem len_rep {α : Type} (xs : List α) (k : Nat) : (List.replicate k xs).flatten.length = xs.length * k := by
  induction k with
  | zero => simp
  | succ k ih => rw [List.replicate_succ, List.flatten_cons, List.length_append, ih, Nat.mul_succ, Nat.add_comm]
theorem gives_bool_neg (b : Bool) : Gives (Builtin.«int.__neg__» ⟨[.bool b], []⟩) (.int (-(if b = true then (1 : Int) else 0))) :=
  .of_wp fun M A E s Q h => by obtain ⟨hp, g, d, tk, os⟩ := s; wp_walk; exact ⟨_, rfl, h⟩
theorem neg_boolM {prog : Program} {w : World} {A : Around} {E : Value → Shared → Prop} {s : Shared} {b : Bool} {Q : Value → Shared → Prop} (h : Q (.int (-(if b = true then (1 : Int) else 0)) s.toks) { s with toks := s.toks + 1 }) : wpAny (model prog w) A (unaryOp .USub (.bool b)) Q E s :=
  unaryOp_gives (op := .USub) (T := "bool") rfl rfl F.slot_bool_neg F.entry_int_neg (F.args_int_neg_1 _) (gives_bool_neg b) h
theorem op_add_bi {X : Cx} : OpR X (binaryOp .Add) (fun x y H Q => ∃ k j, x = .bl k ∧ y = .int j ∧ Q (.int ((if k = true then (1 : Int) else 0) + j)) H) := by
  intro pins s σ H x y v u Q I rx ry h
  obtain ⟨k, j, rfl, rfl, q⟩ := h
  obtain ⟨t, rfl⟩ := ry
  cases rx
  exact PySem.IntBool.add_bool_int ⟨.int ((if k = true then (1 : Int) else 0) + j), H, I.tok _, ⟨_, rfl⟩, q⟩
theorem op_mul_ib {X : Cx} : OpR X (binaryOp .Mult) (fun x y H Q => ∃ i k, x = .int i ∧ y = .bl k ∧ Q (.int (i * if k = true then (1 : Int) else 0)) H) := by
  intro pins s σ H x y v u Q I rx ry h
  obtain ⟨i, k, rfl, rfl, q⟩ := h
  obtain ⟨t, rfl⟩ := rx
  cases ry
  exact PySem.IntBool.mul_int_bool ⟨.int (i * if k = true then (1 : Int) else 0), H, I.tok _, ⟨_, rfl⟩, q⟩
def rNegA : V → Hp → VK → Prop := fun x H Q => (∃ i, x = .int i ∧ Q (.int (-i)) H) ∨ ∃ b, x = .bl b ∧ Q (.int (-(if b = true then (1 : Int) else 0))) H
theorem un_negA {X : Cx} : UnR X (unaryOp .USub) rNegA := by
  intro pins s σ H x v Q I rx h
  rcases h with ⟨i, rfl, q⟩ | ⟨b, rfl, q⟩
  · exact un_neg pins s σ H (.int i) v Q I rx ⟨i, rfl, q⟩
  · cases rx
    exact neg_boolM ⟨.int (-(if b = true then (1 : Int) else 0)), H, I.tok _, ⟨_, rfl⟩, q⟩
def rAddA (K : PySem.W.Frag) : R2 := fun x y H Q => rI0 (fun i j => .int (i + j)) x y H Q ∨ (∃ i j, x = .str i ∧ y = .str j ∧ i.length + j.length ≤ sizeLine ∧ Q (.str (i ++ j)) H) ∨ rCat x y H Q ∨ rCatA K x y H Q ∨ (∃ k j, x = .bl k ∧ y = .int j ∧ Q (.int ((if k = true then (1 : Int) else 0) + j)) H)
theorem or_addA {X : Cx} : OpR X (binaryOp .Add) (rAddA X.K) := OpR.or op_add (OpR.or op_add_str (OpR.or op_cat (OpR.or op_catA op_add_bi)))
theorem cat_sim {ι : List Addr} {H : Hp} {μ : Sto} {v w : V} {x y : D} {Q : VK} {a b : List D} (S : SOk G ι H μ) (r1 : Rel G ι H v x) (r2 : Rel G ι H w y) (ea : lstOf μ x = some a) (eb : lstOf μ y = some b)
    (p : Post G E ι H (if fits (a.length + b.length) then .ok (.lst (a ++ b)) μ else .bad) Q) : rCat v w H Q := by
  obtain ⟨l, xs, rfl, h1, h2, h3⟩ := lst_ok S r1 ea
  obtain ⟨m, ys, rfl, k1, k2, k3⟩ := lst_ok S r2 eb
  cases hf : fits (a.length + b.length) with
  | false =>
    rw [hf] at p
    exact p.elim
  | true =>
    rw [hf] at p
    have z := fits_iff.mp hf
    rw [← h2.len, ← k2.len] at z
    exact ⟨l, m, xs, ys, rfl, rfl, h1, k1, z, fun q hq => Post.newL p S hq (h2.append k2) (by rw [List.length_append]; exact z)⟩
theorem sim_add : Sim2 G E (rAddA G.K) addD := by
  intro ι H μ v w x y Q S r1 r2 p
  have lists : (match lstOf μ x, lstOf μ y with
    | some a, some b => if fits (a.length + b.length) then R.ok (.lst (a ++ b)) μ else .bad
    | _, _ => .bad) = addD x y μ → rAddA G.K v w H Q := fun e => by
    rw [← e] at p
    cases ea : lstOf μ x with
    | none =>
      rw [ea] at p
      exact p.elim
    | some a =>
      cases eb : lstOf μ y with
      | none =>
        rw [ea, eb] at p
        exact p.elim
      | some b =>
        rw [ea, eb] at p
        exact .inr (.inr (.inl (cat_sim S r1 r2 ea eb p)))
  cases x with
  | int i =>
    cases y with
    | int j =>
      cases r1
      cases r2
      exact .inl ⟨i, j, rfl, rfl, Post.val p S rfl⟩
    | _ => exact lists rfl
  | bl i =>
    cases y with
    | int j =>
      cases r1
      cases r2
      exact .inr (.inr (.inr (.inr ⟨i, j, rfl, rfl, Post.val p S rfl⟩)))
    | _ => exact lists rfl
  | str i =>
    cases y with
    | str j =>
      cases r1
      cases r2
      cases hf : fits (i.length + j.length) with
      | false =>
        simp only [addD, hf] at p
        exact p.elim
      | true =>
        simp only [addD, hf] at p
        exact .inr (.inl ⟨i, j, rfl, rfl, fits_iff.mp hf, Post.val p S rfl⟩)
    | _ => exact lists rfl
  | tup a =>
    cases y with
    | tup b =>
      obtain ⟨l, xs, rfl, h1, h2, h3⟩ := tup_ok r1
      obtain ⟨m, ys, rfl, k1, k2, k3⟩ := tup_ok r2
      cases hf : fits (a.length + b.length) with
      | false =>
        simp only [addD, hf] at p
        exact p.elim
      | true =>
        simp only [addD, hf] at p
        have z := fits_iff.mp hf
        rw [← h2.len, ← k2.len] at z
        refine .inr (.inr (.inr (.inl ⟨l, m, xs, ys, rfl, rfl, h1, k1, z, fun hx => ?_, fun _ hy => ?_, fun _ _ q hq => Post.newT p S hq (h2.append k2) (by rw [List.length_append]; exact z)⟩)))
        · subst hx
          have ha : a = [] := List.eq_nil_of_length_eq_zero h2.len.symm
          subst ha
          exact Post.val p S r2
        · subst hy
          have hb : b = [] := List.eq_nil_of_length_eq_zero k2.len.symm
          subst hb
          rw [List.append_nil] at p
          exact Post.val p S r1
    | _ => exact lists rfl
  | _ => exact lists rfl
theorem sim_int {C : Int → Int → Prop} {f : Int → Int → V} {g : D → D → Sto → R D} (h : ∀ i j μ, (∃ d, g (.int i) (.int j) μ = .ok d μ ∧ C i j ∧ ∀ ι H, Rel G ι H (f i j) d) ∨ g (.int i) (.int j) μ = .bad)
    (hb : ∀ x y μ, (∃ i j, x = .int i ∧ y = .int j) ∨ g x y μ = .bad) : Sim2 G E (rI C f) g := by
  intro ι H μ v w x y Q S r1 r2 p
  rcases hb x y μ with ⟨i, j, rfl, rfl⟩ | e
  · cases r1
    cases r2
    rcases h i j μ with ⟨d, e, c, r⟩ | e
    · rw [e] at p
      exact ⟨i, j, rfl, rfl, c, Post.val p S (r ι H)⟩
    · rw [e] at p
      exact p.elim
  · rw [e] at p
    exact p.elim
theorem sim_sub : Sim2 G E (rI (fun _ _ => True) fun i j => .int (i - j)) subD :=
  sim_int (fun i j μ => .inl ⟨_, rfl, trivial, fun _ _ => rfl⟩) fun x y μ => by cases x <;> cases y <;> first | exact .inl ⟨_, _, rfl, rfl⟩ | exact .inr rfl
theorem or_sub {X : Cx} : OpR X (binaryOp .Sub) (rI (fun _ _ => True) fun i j => .int (i - j)) := opI fun _ _ _ _ _ _ _ _ q => sub_int q
theorem sim_fdiv : Sim2 G E (rI CDivW fun i j => .int (i / j)) fdivD := by
  refine sim_int (fun i j μ => ?_) fun x y μ => by cases x <;> cases y <;> first | exact .inl ⟨_, _, rfl, rfl⟩ | exact .inr rfl
  cases h : (decide (0 < j) && decide (j.natAbs.log2 < 9000)) with
  | true =>
    refine .inl ⟨.int (i / j), by simp only [fdivD, h, if_true], ?_, fun _ _ => rfl⟩
    simp only [Bool.and_eq_true, decide_eq_true_eq] at h
    exact h
  | false => exact .inr (by simp only [fdivD, h]; rfl)
theorem sim_mod : Sim2 G E (rI (fun _ j => j ≠ 0) fun i j => .int (i.fmod j)) modD := by
  refine sim_int (fun i j μ => ?_) fun x y μ => by cases x <;> cases y <;> first | exact .inl ⟨_, _, rfl, rfl⟩ | exact .inr rfl
  by_cases h : j ≠ 0
  · exact .inl ⟨.int (i.fmod j), by simp [modD, h], h, fun _ _ => rfl⟩
  · exact .inr (by simp [modD, h])
theorem sim_pow : Sim2 G E (rI CPow fun i j => .int (i ^ j.toNat)) powD := by
  refine sim_int (fun i j μ => ?_) fun x y μ => by cases x <;> cases y <;> first | exact .inl ⟨_, _, rfl, rfl⟩ | exact .inr rfl
  by_cases h : 0 ≤ j ∧ j ≤ 1000000 ∧ i.natAbs < 2 ^ 64
  · exact .inl ⟨.int (i ^ j.toNat), by simp only [powD, decide_eq_true h, if_true], h, fun _ _ => rfl⟩
  · exact .inr (by simp only [powD, decide_eq_false h]; rfl)
def rMulS : R2 := fun x y H Q => ∃ a k, x = .str a ∧ y = .int k ∧ (-(2 ^ 62) < k ∧ k < 2 ^ 62) ∧ a.length * k.toNat ≤ sizeLine ∧ Q (.str (repS a k)) H
theorem or_mulS {X : Cx} : OpR X (binaryOp .Mult) rMulS := by
  intro pins s σ H x y v u Q I rx ry h
  obtain ⟨a, k, rfl, rfl, hk, hz, q⟩ := h
  obtain ⟨t, rfl⟩ := rx
  obtain ⟨t', rfl⟩ := ry
  have hs := sizeLine_eq
  refine PySem.P.mul_str ?_ (fun h1 h2 => ?_) (fun h1 h2 => ?_) ?_
  · have a1 : ¬ k < -(2 ^ 63 : Int) := by omega
    have a2 : ¬ k ≥ 2 ^ 63 := by omega
    rw [decide_eq_false a1, decide_eq_false a2]
    rfl
  · have h3 : (0 : Int) < k := by omega
    have h4 : (a.length : Int) * k ≤ 16777216 := by
      have e : ((a.length * k.toNat : Nat) : Int) = (a.length : Int) * k := by
        rw [Int.natCast_mul, Int.toNat_of_nonneg (by omega)]
      rw [← e]
      omega
    have h5 : (a.length : Int) ≤ (2 ^ 63 - 1) / k := by
      rw [Int.le_ediv_iff_mul_le h3]
      omega
    omega
  · exact decide_eq_false (by omega)
  · by_cases h1 : k < 1
    · rw [if_pos h1]
      have e : repS a k = Str.empty := by
        have : k.toNat = 0 := by omega
        unfold repS
        rw [this]
        rfl
      rw [e] at q
      exact ⟨by decide, ⟨.str Str.empty, H, I.tok _, ⟨_, rfl⟩, q⟩⟩
    · rw [if_neg h1]
      by_cases h2 : (k == 1 || a.length == 0) = true
      · rw [if_pos h2]
        have e : repS a k = a := by
          obtain ⟨cps⟩ := a
          have h3 : k = 1 ∨ cps.size = 0 := by simpa [Str.length] using h2
          unfold repS
          rcases h3 with h3 | h3
          · subst h3
            show (⟨(List.replicate 1 cps).foldl (· ++ ·) #[]⟩ : Str) = _
            simp
          · have : cps = #[] := Array.eq_empty_of_size_eq_zero h3
            subst this
            have z : ∀ n : Nat, (List.replicate n (#[] : Array Nat)).foldl (· ++ ·) #[] = #[] := by
              intro n
              induction n with
              | zero => rfl
              | succ n ih =>
                rw [List.replicate_succ, List.foldl_cons]
                simpa using ih
            show (⟨(List.replicate k.toNat #[]).foldl (· ++ ·) #[]⟩ : Str) = _
            rw [z]
        rw [e] at q
        exact ⟨.str a, H, I, ⟨_, rfl⟩, q⟩
      · rw [if_neg h2]
        exact ⟨by
          unfold Str.length
          have hb : ∀ (n : Nat) (acc : Array Nat), ((List.replicate n a.cps).foldl (· ++ ·) acc).size = acc.size + a.cps.size * n := by
            intro n
            induction n with
            | zero => intro acc; simp
            | succ n ih =>
              intro acc
              rw [List.replicate_succ, List.foldl_cons, ih, Array.size_append, Nat.mul_succ]
              omega
          show ((List.replicate k.toNat a.cps).foldl (· ++ ·) #[]).size ≤ _
          rw [hb]
          have : a.cps.size * k.toNat ≤ sizeLine := hz
          simp
          first | omega | exact this, ⟨.str (repS a k), H, I.tok _, ⟨_, rfl⟩, q⟩⟩
def rMulA (K : PySem.W.Frag) : R2 := fun x y H Q => rI CMul (fun i j => .int (i * j)) x y H Q ∨ rI CMulW (fun i j => .int (i * j)) x y H Q ∨ rRep x y H Q ∨ rMulS x y H Q ∨ (rRepT K x y H Q ∨ rRepU K x y H Q) ∨ (∃ i k, x = .int i ∧ y = .bl k ∧ Q (.int (i * if k = true then (1 : Int) else 0)) H)
theorem or_mul {X : Cx} : OpR X (binaryOp .Mult) (rMulA X.K) := OpR.or op_mul (OpR.or op_mulW (OpR.or op_rep (OpR.or or_mulS (OpR.or (OpR.or op_repT op_repU) op_mul_ib))))
theorem ite_ok {c : Bool} {r : R D} {ι : List Addr} {H : Hp} {Q : VK} (p : Post G E ι H (if c = true then r else .bad) Q) : c = true ∧ Post G E ι H r Q := by
  cases c with
  | true => exact ⟨rfl, p⟩
  | false => exact p.elim
theorem sim_mul : Sim2 G E (rMulA G.K) mulD := by
  intro ι H μ v w x y Q S r1 r2 p
  cases y with
  | int k =>
    have ew : w = .int k := r2
    subst ew
    cases x with
    | int i =>
      have ev : v = .int i := r1
      subst ev
      obtain ⟨hc, p⟩ := ite_ok (show Post G E ι H (if mulOk i k = true then .ok (.int (i * k)) μ else .bad) Q from p)
      have q := Post.val (v := V.int (i * k)) p S rfl
      unfold mulOk at hc
      rw [Bool.or_eq_true, Bool.or_eq_true] at hc
      rcases hc with (hc | hc) | hc
      · exact .inl ⟨i, k, rfl, rfl, .inl (of_decide_eq_true hc), q⟩
      · exact .inl ⟨i, k, rfl, rfl, .inr (of_decide_eq_true hc), q⟩
      · exact .inr (.inl ⟨i, k, rfl, rfl, (show i.natAbs.log2 + k.natAbs.log2 < 1000000 from of_decide_eq_true hc), q⟩)
    | str a =>
      have ev : v = .str a := r1
      subst ev
      obtain ⟨hc, p⟩ := ite_ok (show Post G E ι H (if (decide (-(2 ^ 62) < k ∧ k < 2 ^ 62) && fits (a.length * k.toNat)) = true then .ok (.str (repS a k)) μ else .bad) Q from p)
      rw [Bool.and_eq_true] at hc
      exact .inr (.inr (.inr (.inl ⟨a, k, rfl, rfl, of_decide_eq_true hc.1, fits_iff.mp hc.2, Post.val p S rfl⟩)))
    | lst a =>
      obtain ⟨l, xs, rfl, ⟨h0, h1, h2⟩, h3⟩ := r1
      obtain ⟨hc, p⟩ := ite_ok (show Post G E ι H (if (decide (0 ≤ k ∧ k < 2 ^ 62) && fits (a.length * k.toNat)) = true then .ok (.lst (List.replicate k.toNat a).flatten) μ else .bad) Q from p)
      rw [Bool.and_eq_true] at hc
      have hk := of_decide_eq_true hc.1
      have hz := fits_iff.mp hc.2
      rw [← h3.len] at hz
      exact .inr (.inr (.inl ⟨l, k, xs, rfl, rfl, h1, by omega, by omega, hz, fun q hq => Post.newL p S hq (rels_flatten h3 _) (by rw [len_rep]; exact hz)⟩))
    | tup a =>
      obtain ⟨l, xs, rfl, h1, h2, h3⟩ := tup_ok r1
      have p : Post G E ι H (if (decide (2 ≤ k ∧ k ≤ 1000) && !a.isEmpty && decide (a.length ≤ 1000)) = true then .ok (.tup (List.replicate k.toNat a).flatten) μ else if decide (-1000 ≤ k ∧ k ≤ 1000) = true then (if (a.isEmpty || k == 1) = true then .ok (.tup a) μ else if decide (k ≤ 0) = true then .ok (.tup []) μ else .bad) else .bad) Q := p
      have hs := sizeLine_eq
      have hea : xs = [] → a = [] := fun e => by
        subst e
        exact List.eq_nil_of_length_eq_zero h2.len.symm
      have hae : a = [] → xs = [] := fun e => by
        subst e
        exact List.eq_nil_of_length_eq_zero h2.len
      cases hc : (decide (2 ≤ k ∧ k ≤ 1000) && !a.isEmpty && decide (a.length ≤ 1000)) with
      | true =>
        rw [hc, if_pos rfl] at p
        rw [Bool.and_eq_true, Bool.and_eq_true] at hc
        have hk := of_decide_eq_true hc.1.1
        have hz := of_decide_eq_true hc.2
        refine .inr (.inr (.inr (.inr (.inl (.inl ⟨l, k, xs, rfl, rfl, h1, fun e => ?_, hk.1, hk.2, by rw [h2.len]; exact hz, fun q hq => Post.newT p S hq (rels_flatten h2 _) ?_⟩)))))
        · have := hea e
          subst this
          simp at hc
        · rw [len_rep, h2.len, hs]
          have : a.length * k.toNat ≤ 1000 * 1000 := Nat.mul_le_mul hz (by omega)
          omega
      | false =>
        rw [hc, if_neg Bool.false_ne_true] at p
        obtain ⟨hk, p⟩ := ite_ok p
        have hk := of_decide_eq_true hk
        refine .inr (.inr (.inr (.inr (.inl (.inr ⟨l, k, xs, rfl, rfl, h1, hk.1, hk.2, ?_⟩)))))
        cases he : (a.isEmpty || k == 1) with
        | true =>
          rw [he, if_pos rfl] at p
          refine .inl ⟨?_, Post.val p S r1⟩
          rw [Bool.or_eq_true] at he
          rcases he with he | he
          · exact .inl (hae (List.isEmpty_iff.mp he))
          · exact .inr (by simpa using he)
        | false =>
          rw [he, if_neg Bool.false_ne_true] at p
          obtain ⟨hk0, p⟩ := ite_ok p
          rw [Bool.or_eq_false_iff] at he
          refine .inr ⟨fun e => ?_, of_decide_eq_true hk0, fun q hq => Post.newT p S hq (by simp) (Nat.zero_le _)⟩
          have := hea e
          subst this
          simp at he
    | _ => exact p.elim
  | bl k =>
    cases x with
    | int i =>
      cases r1
      cases r2
      exact .inr (.inr (.inr (.inr (.inr ⟨i, k, rfl, rfl, Post.val p S rfl⟩))))
    | _ => exact p.elim
  | _ => cases x <;> exact p.elim
def rBin (K : PySem.W.Frag) : BOp → R2
  | .add => rAddA K | .sub => rI (fun _ _ => True) fun i j => .int (i - j) | .mul => rMulA K | .fdiv => rI CDivW fun i j => .int (i / j) | .mod => rI (fun _ j => j ≠ 0) fun i j => .int (i.fmod j) | .pow => rI CPow fun i j => .int (i ^ j.toNat)
def BOp.op : BOp → Operator
  | .add => .Add | .sub => .Sub | .mul => .Mult | .fdiv => .FloorDiv | .mod => .Mod | .pow => .Pow
theorem or_bin {X : Cx} : ∀ o : BOp, OpR X (binaryOp o.op) (rBin X.K o)
  | .add => or_addA | .sub => or_sub | .mul => or_mul | .fdiv => op_fdivW | .mod => op_modN | .pow => op_pow
theorem sim_bin : ∀ o : BOp, Sim2 G E (rBin G.K o) (binD o)
  | .add => sim_add | .sub => sim_sub | .mul => sim_mul | .fdiv => sim_fdiv | .mod => sim_mod | .pow => sim_pow
def cbinD (o : BOp) (x y : D) (μ : Sto) : R D := match o with
  | .add => (match lstOf μ x, lstOf μ y with
    | some a, some b => if fits (a.length + b.length) then .ok (.cell μ.length) (μ ++ [.lst (a ++ b)]) else .bad
    | _, _ => .bad)
  | .mul => (match x, y with
    | .lst a, .int k => if decide (0 ≤ k ∧ k < 2 ^ 62) && fits (a.length * k.toNat) then .ok (.cell μ.length) (μ ++ [.lst (List.replicate k.toNat a).flatten]) else .bad
    | _, _ => .bad)
  | _ => .bad
theorem sim_cbin (o : BOp) : Sim2 G E (rBin G.K o) (cbinD o) := by
  intro ι H μ v w x y Q S r1 r2 p
  cases o with
  | add =>
    cases ea : lstOf μ x with
    | none =>
      simp only [cbinD, ea] at p
      exact p.elim
    | some a =>
      cases eb : lstOf μ y with
      | none =>
        simp only [cbinD, ea, eb] at p
        exact p.elim
      | some b =>
        simp only [cbinD, ea, eb] at p
        obtain ⟨hf, p⟩ := ite_ok p
        have hz := fits_iff.mp hf
        obtain ⟨l, xs, rfl, h1, h2, h3⟩ := lst_ok S r1 ea
        obtain ⟨m, ys, rfl, k1, k2, k3⟩ := lst_ok S r2 eb
        rw [← h2.len, ← k2.len] at hz
        exact .inr (.inr (.inl ⟨l, m, xs, ys, rfl, rfl, h1, k1, hz, fun q hq => Post.newC p S hq (h2.append k2) (by rw [List.length_append]; exact hz)⟩))
  | mul =>
    cases y with
    | int k =>
      cases x with
      | lst a =>
        have ew : w = .int k := r2
        subst ew
        obtain ⟨l, xs, rfl, ⟨h0, h1, h2⟩, h3⟩ := r1
        obtain ⟨hc, p⟩ := ite_ok (show Post G E ι H (if (decide (0 ≤ k ∧ k < 2 ^ 62) && fits (a.length * k.toNat)) = true then .ok (.cell μ.length) (μ ++ [.lst (List.replicate k.toNat a).flatten]) else .bad) Q from p)
        rw [Bool.and_eq_true] at hc
        have hk := of_decide_eq_true hc.1
        have hz := fits_iff.mp hc.2
        rw [← h3.len] at hz
        exact .inr (.inr (.inl ⟨l, k, xs, rfl, rfl, h1, by omega, by omega, hz, fun q hq => Post.newC p S hq (rels_flatten h3 _) (by rw [len_rep]; exact hz)⟩))
      | _ => exact p.elim
    | _ => cases x <;> exact p.elim
  | _ => exact p.elim
inductive COp where
  | lt | le | gt | ge | eq | ne | isin | notin | is_ | isnot
  deriving DecidableEq
def ltS (i j : Str) : Bool := decide (i.cps.toList < j.cps.toList)
def ltD (x y : D) (μ : Sto) : R D := match x, y with
  | .int i, .int j => .ok (.bl (decide (i < j))) μ
  | .str i, .str j => .ok (.bl (ltS i j)) μ
  | _, _ => .bad
def leD (x y : D) (μ : Sto) : R D := match x, y with
  | .int i, .int j => .ok (.bl (decide (i ≤ j))) μ
  | .str i, .str j => .ok (.bl (!ltS j i)) μ
  | _, _ => .bad
def gtD (x y : D) (μ : Sto) : R D := match x, y with
  | .int i, .int j => .ok (.bl (decide (j < i))) μ
  | .str i, .str j => .ok (.bl (ltS j i)) μ
  | _, _ => .bad
def geD (x y : D) (μ : Sto) : R D := match x, y with
  | .int i, .int j => .ok (.bl (decide (j ≤ i))) μ
  | .str i, .str j => .ok (.bl (!ltS i j)) μ
  | _, _ => .bad
def eqB (μ : Sto) (x y : D) : Option Bool := match toPyC μ x, toPyC μ y with
  | some a, some b => if SeqAt.shaped a && SeqAt.shaped b then some (PyData.eqv a b) else none
  | _, _ => none
def eqD (x y : D) (μ : Sto) : R D := match eqB μ x y with
  | some b => .ok (.bl b) μ
  | none => .bad
def neD (x y : D) (μ : Sto) : R D := match eqB μ x y with
  | some b => .ok (.bl (!b)) μ
  | none => .bad
def flatD : D → Bool
  | .non => true | .bl _ => true | .int _ => true | .str _ => true | _ => false
def eqF : D → D → Bool
  | .non, .non => true
  | .bl a, .bl b => a == b
  | .bl a, .int b => (if a then 1 else 0) == b
  | .int a, .bl b => a == (if b then 1 else 0)
  | .int a, .int b => a == b
  | .str a, .str b => a == b
  | _, _ => false
def lookK : List Key → List D → Key → Option D
  | k :: ks, d :: ds, j => if k = j then some d else lookK ks ds j
  | _, _, _ => none
def keyD : D → Option Key
  | .str z => some (.inr z)
  | .int i => some (.inl i)
  | _ => none
def inB (μ : Sto) (x y : D) : Option Bool := match y with
  | .str z => (match x with
    | .str a => (match a.cps.toList with
      | [c] => some (decide (c ∈ z.cps.toList))
      | _ => none)
    | _ => none)
  | .dic ks ds => (keyD x).map fun k => (lookK ks ds k).isSome
  | .tup ds => if flatD x && ds.all flatD then some (ds.any fun z => eqF z x) else none
  | y => (match toPyC μ x, toPyC μ y with
    | some a, some (.list bs) => if SeqAt.shaped a && SeqAt.shaped (.list bs) then some (bs.any fun z => PyData.eqv z a) else none
    | _, _ => none)
def inD (x y : D) (μ : Sto) : R D := match inB μ x y with
  | some b => .ok (.bl b) μ
  | none => .bad
def notinD (x y : D) (μ : Sto) : R D := match inB μ x y with
  | some b => .ok (.bl (!b)) μ
  | none => .bad
def isNon : D → Bool
  | .non => true | _ => false
def isB (x y : D) : Option Bool := match y with
  | .non => some (isNon x)
  | .bl b => (match x with
    | .bl a => some (decide (a = b))
    | _ => none)
  | _ => none
def isD (x y : D) (μ : Sto) : R D := match isB x y with
  | some b => .ok (.bl b) μ
  | none => .bad
def isnotD (x y : D) (μ : Sto) : R D := match isB x y with
  | some b => .ok (.bl (!b)) μ
  | none => .bad
def cmpD : COp → D → D → Sto → R D
  | .lt => ltD | .le => leD | .gt => gtD | .ge => geD | .eq => eqD | .ne => neD | .isin => inD | .notin => notinD | .is_ => isD | .isnot => isnotD
section
variable {ι : List Addr} {H : Hp} {μ : Sto} {v w : V} {x y : D} {Q : VK}
theorem ord_sim {rl : Int → Int → Bool} {sl : Str → Str → Bool} {g : D → D → Sto → R D} (h1 : ∀ i j μ, g (.int i) (.int j) μ = .ok (.bl (rl i j)) μ) (h2 : ∀ i j μ, g (.str i) (.str j) μ = .ok (.bl (sl i j)) μ)
    (h3 : ∀ x y μ, (∃ i j, x = .int i ∧ y = .int j) ∨ (∃ i j, x = .str i ∧ y = .str j) ∨ g x y μ = .bad) :
    Sim2 G E (fun x y H Q => rI0 (fun i j => .bl (rl i j)) x y H Q ∨ ∃ i j, x = .str i ∧ y = .str j ∧ Q (.bl (sl i j)) H) g := by
  intro ι H μ v w x y Q S r1 r2 p
  rcases h3 x y μ with ⟨i, j, rfl, rfl⟩ | ⟨i, j, rfl, rfl⟩ | e
  · cases r1
    cases r2
    rw [h1] at p
    exact .inl ⟨i, j, rfl, rfl, Post.val p S rfl⟩
  · cases r1
    cases r2
    rw [h2] at p
    exact .inr ⟨i, j, rfl, rfl, Post.val p S rfl⟩
  · rw [e] at p
    exact p.elim
abbrev rOrd (rl : Int → Int → Bool) (sl : Str → Str → Bool) : R2 := fun x y H Q => rI0 (fun i j => .bl (rl i j)) x y H Q ∨ ∃ i j, x = .str i ∧ y = .str j ∧ Q (.bl (sl i j)) H
theorem eq_sim (hp : ∀ b, eqB μ x y = some b → Q (.bl b) H) (S : SOk G ι H μ) (r1 : Rel G ι H v x) (r2 : Rel G ι H w y) (hs : (eqB μ x y).isSome = true) : rEqD G.K v w H Q := by
  cases ea : toPyC μ x with
  | none => simp [eqB, ea] at hs
  | some a =>
    cases eb : toPyC μ y with
    | none => simp [eqB, ea, eb] at hs
    | some b =>
      cases hc : (SeqAt.shaped a && SeqAt.shaped b) with
      | false => simp [eqB, ea, eb, hc] at hs
      | true =>
        have e : eqB μ x y = some (PyData.eqv a b) := by simp only [eqB, ea, eb, hc, if_true]
        rw [Bool.and_eq_true] at hc
        exact ⟨a, b, toPyC_ok S r1 ea, toPyC_ok S r2 eb, hc.1, hc.2, hp _ e⟩
theorem sim_eq : Sim2 G E (rEqD G.K) eqD := by
  intro ι H μ v w x y Q S r1 r2 p
  unfold eqD at p
  cases h : eqB μ x y with
  | none =>
    rw [h] at p
    exact p.elim
  | some b =>
    rw [h] at p
    exact eq_sim (fun c e => by
      rw [h] at e
      cases e
      exact Post.val p S rfl) S r1 r2 (by rw [h]; rfl)
theorem sim_ne : Sim2 G E (rNeD G.K) neD := by
  intro ι H μ v w x y Q S r1 r2 p
  unfold neD at p
  cases h : eqB μ x y with
  | none =>
    rw [h] at p
    exact p.elim
  | some b =>
    rw [h] at p
    obtain ⟨d, e, h1, h2, h3, h4, h5⟩ := eq_sim (Q := fun u _ => ∃ c, u = .bl c ∧ Q (.bl (!c)) H) (fun c e => by
      rw [h] at e
      cases e
      exact ⟨b, rfl, Post.val p S rfl⟩) S r1 r2 (by rw [h]; rfl)
    obtain ⟨c, hc, q⟩ := h5
    cases hc
    exact ⟨d, e, h1, h2, h3, h4, q⟩
theorem flat_V (r : Rel G ι H v x) (f : flatD x = true) : flatV v = true := by
  cases x with
  | non => cases r; rfl
  | bl b => cases r; rfl
  | int b => cases r; rfl
  | str b => cases r; rfl
  | _ => cases f
theorem flat_eq (r1 : Rel G ι H v x) (f1 : flatD x = true) (r2 : Rel G ι H w y) (f2 : flatD y = true) : eqV v w = eqF x y := by
  cases x <;> first | cases f1 | skip
  all_goals cases y <;> first | cases f2 | skip
  all_goals (cases r1; cases r2; rfl)
theorem flat_all : ∀ {ds : List D} {vs : List V}, Rels G ι H vs ds → ds.all flatD = true → vs.all flatV = true
  | [], [], _, _ => rfl
  | [], _ :: _, r, _ => by simp [Rels] at r
  | _ :: _, [], r, _ => by simp [Rels] at r
  | d :: ds, v :: vs, r, f => by
    rw [rels_cons] at r
    rw [List.all_cons, Bool.and_eq_true] at f ⊢
    exact ⟨flat_V r.1 f.1, flat_all r.2 f.2⟩
theorem flat_any (r1 : Rel G ι H v x) (f1 : flatD x = true) : ∀ {ds : List D} {vs : List V}, Rels G ι H vs ds → ds.all flatD = true → vs.any (fun y => eqV y v) = ds.any (fun y => eqF y x)
  | [], [], _, _ => rfl
  | [], _ :: _, r, _ => by simp [Rels] at r
  | _ :: _, [], r, _ => by simp [Rels] at r
  | d :: ds, v :: vs, r, f => by
    rw [rels_cons] at r
    rw [List.all_cons, Bool.and_eq_true] at f
    rw [List.any_cons, List.any_cons, flat_eq r.1 f.1 r1 f1, flat_any r1 f1 r.2 f.2]
theorem key_V {k : Key} (r : Rel G ι H v x) (e : keyD x = some k) : v = kV k := by
  cases x with
  | int i => cases e; exact r
  | str i => cases e; exact r
  | _ => cases e
theorem look_ok {k : Key} : ∀ {ks : List Key} {ds : List D} {vs : List V}, Rels G ι H vs ds → ks.length = ds.length → ∀ d, lookK ks ds k = some d → ∃ v, valV (ks.zip vs) k = some v ∧ Rel G ι H v d
  | [], _, _, _, _, _, e => by simp [lookK] at e
  | _ :: _, [], _, _, _, _, e => by simp [lookK] at e
  | j :: ks, d :: ds, [], r, _, _, _ => by simp [Rels] at r
  | j :: ks, d :: ds, v :: vs, r, l, d', e => by
    rw [rels_cons] at r
    unfold lookK at e
    by_cases h : j = k
    · rw [if_pos h] at e
      cases e
      exact ⟨v, by simp [valV, h], r.1⟩
    · rw [if_neg h] at e
      obtain ⟨u, e1, r1⟩ := look_ok r.2 (by simpa using l) d' e
      refine ⟨u, ?_, r1⟩
      rw [List.zip_cons_cons]
      unfold valV at e1 ⊢
      rw [List.find?_cons_of_neg]
      · exact e1
      · simpa using h
theorem look_no {k : Key} : ∀ {ks : List Key} {ds : List D} {vs : List V}, Rels G ι H vs ds → ks.length = ds.length → lookK ks ds k = none → valV (ks.zip vs) k = none
  | [], _, _, _, _, _ => by simp [valV]
  | _ :: _, [], _, _, l, _ => by simp at l
  | j :: ks, d :: ds, [], r, _, _ => by simp [Rels] at r
  | j :: ks, d :: ds, v :: vs, r, l, e => by
    rw [rels_cons] at r
    unfold lookK at e
    by_cases h : j = k
    · rw [if_pos h] at e
      cases e
    · rw [if_neg h] at e
      have := look_no (k := k) r.2 (by simpa using l) e
      rw [List.zip_cons_cons]
      unfold valV at this ⊢
      rw [List.find?_cons_of_neg]
      · exact this
      · simpa using h
theorem look_some {k : Key} {ks : List Key} {ds : List D} {vs : List V} (r : Rels G ι H vs ds) (l : ks.length = ds.length) : (valV (ks.zip vs) k).isSome = (lookK ks ds k).isSome := by
  cases e : lookK ks ds k with
  | none =>
    rw [look_no r l e]
    rfl
  | some d =>
    obtain ⟨v, e1, _⟩ := look_ok r l d e
    rw [e1]
    rfl
def rDIn (neg : Bool) : R2 := fun x y H Q => ∃ a o, y = .ref a ∧ DGet H a x o ∧ Q (.bl (if neg then !o.isSome else o.isSome)) H
theorem or_dIn {X : Cx} (hu : X.A.units + 1 < cLine) : OpR X (compareOp .In) (rDIn false) := by
  intro pins s σ H x y v u Q I rx ry h
  obtain ⟨a, o, rfl, g, q⟩ := h
  cases ry
  exact d_in hu I g rx fun s' I' => ⟨.bl o.isSome, H, I', rfl, q⟩
theorem or_dNotIn {X : Cx} (hu : X.A.units + 1 < cLine) : OpR X (compareOp .NotIn) (rDIn true) := by
  intro pins s σ H x y v u Q I rx ry h
  obtain ⟨a, o, rfl, g, q⟩ := h
  cases ry
  exact d_notIn hu I g rx fun s' I' => ⟨.bl (!o.isSome), H, I', rfl, q⟩
def ng (neg b : Bool) : Bool := if neg then !b else b
def rSign (neg : Bool) : R2 := fun x y H Q => ∃ (c : Nat) (z : Str), x = .str ⟨#[c]⟩ ∧ y = .str z ∧ Q (.bl (ng neg (decide (c ∈ z.cps.toList)))) H
def rInA (K : PySem.W.Frag) (neg : Bool) : R2 := fun x y H Q => rSign neg x y H Q ∨ rIn K neg x y H Q ∨ (∃ d ds, Dp K H x d ∧ Dp K H y (.list ds) ∧ SeqAt.shaped d = true ∧ SeqAt.shaped (.list ds) = true ∧ Q (.bl (ng neg (ds.any fun z => PyData.eqv z d))) H) ∨ rDIn neg x y H Q
theorem or_in {X : Cx} (hu : X.A.units + 65 < cLine) : OpR X (compareOp .In) (rInA X.K false) := OpR.or op_in_sign (OpR.or op_in_seq (OpR.or (op_inD hu) (or_dIn (by omega))))
theorem or_notin {X : Cx} (hu : X.A.units + 65 < cLine) : OpR X (compareOp .NotIn) (rInA X.K true) := OpR.or op_notIn_sign (OpR.or op_notIn_seq (OpR.or (op_notInD hu) (or_dNotIn (by omega))))
theorem in_sim (neg : Bool) (hp : ∀ b, inB μ x y = some b → Q (.bl (ng neg b)) H) (S : SOk G ι H μ) (r1 : Rel G ι H v x) (r2 : Rel G ι H w y) (hs : (inB μ x y).isSome = true) : rInA G.K neg v w H Q := by
  have rest : (match toPyC μ x, toPyC μ y with
    | some a, some (.list bs) => if SeqAt.shaped a && SeqAt.shaped (.list bs) then some (bs.any fun z => PyData.eqv z a) else none
    | _, _ => none) = inB μ x y → rInA G.K neg v w H Q := fun e => by
    rw [← e] at hs hp
    cases ea : toPyC μ x with
    | none => simp [ea] at hs
    | some a =>
      cases eb : toPyC μ y with
      | none => simp [ea, eb] at hs
      | some b =>
        cases b with
        | list bs =>
          simp only [ea, eb] at hs hp
          cases hc : (SeqAt.shaped a && SeqAt.shaped (.list bs)) with
          | false => simp [hc] at hs
          | true =>
            simp only [hc, if_true] at hp
            rw [Bool.and_eq_true] at hc
            exact .inr (.inr (.inl ⟨a, bs, toPyC_ok S r1 ea, toPyC_ok S r2 eb, hc.1, hc.2, hp _ rfl⟩))
        | _ => simp [ea, eb] at hs
  cases y with
  | str z =>
    cases r2
    cases x with
    | str a =>
      cases r1
      obtain ⟨⟨l⟩⟩ := a
      cases l with
      | nil => simp [inB] at hs
      | cons c l =>
        cases l with
        | nil => exact .inl ⟨c, z, rfl, rfl, hp _ (by simp [inB])⟩
        | cons c' l => simp [inB] at hs
    | _ => simp [inB] at hs
  | dic ks ds =>
    obtain ⟨p, vs, rfl, ⟨h2, h1⟩, h3, h4, h5⟩ := r2
    cases hk : keyD x with
    | none => simp [inB, hk] at hs
    | some k =>
      have q := hp _ (show inB μ x (.dic ks ds) = some (lookK ks ds k).isSome by simp [inB, hk])
      rw [← look_some h3 h4] at q
      rw [key_V r1 hk]
      exact .inr (.inr (.inr ⟨p, _, rfl, .inl ⟨_, k, h2, rfl, rfl⟩, q⟩))
  | tup ds =>
    cases hc : (flatD x && ds.all flatD) with
    | false => simp [inB, hc] at hs
    | true =>
      have q := hp _ (show inB μ x (.tup ds) = some (ds.any fun z => eqF z x) by simp only [inB, hc, if_true])
      rw [Bool.and_eq_true] at hc
      obtain ⟨p, vs, rfl, h1, h2, h3⟩ := tup_ok r2
      rw [← flat_any r1 hc.1 h2 hc.2] at q
      exact .inr (.inl ⟨p, vs, rfl, .inr h1, flat_V r1 hc.1, flat_all h2 hc.2, q⟩)
  | _ => exact rest rfl
theorem sim_in : Sim2 G E (rInA G.K false) inD := by
  intro ι H μ v w x y Q S r1 r2 p
  unfold inD at p
  cases h : inB μ x y with
  | none =>
    rw [h] at p
    exact p.elim
  | some b =>
    rw [h] at p
    exact in_sim false (fun c e => by
      rw [h] at e
      cases e
      exact Post.val p S rfl) S r1 r2 (by rw [h]; rfl)
theorem sim_notin : Sim2 G E (rInA G.K true) notinD := by
  intro ι H μ v w x y Q S r1 r2 p
  unfold notinD at p
  cases h : inB μ x y with
  | none =>
    rw [h] at p
    exact p.elim
  | some b =>
    rw [h] at p
    exact in_sim true (fun c e => by
      rw [h] at e
      cases e
      exact Post.val p S rfl) S r1 r2 (by rw [h]; rfl)
theorem non_V (r : Rel G ι H v x) : decide (v = .non) = isNon x := by
  cases x with
  | non => cases r; rfl
  | tup ds => obtain ⟨p, _, rfl, _⟩ := r; rfl
  | lst ds => obtain ⟨p, _, rfl, _⟩ := r; rfl
  | fro ds => obtain ⟨p, _, rfl, _⟩ := r; rfl
  | dic ks ds => obtain ⟨p, _, rfl, _⟩ := r; rfl
  | wdic ks ds => obtain ⟨p, _, rfl, _⟩ := r; rfl
  | cell k => obtain ⟨a, _, rfl⟩ := r; rfl
  | ins C fs ds => obtain ⟨p, _, _, rfl, _⟩ := r; rfl
  | _ => cases r; rfl
def rIsA (neg : Bool) : R2 := fun x y H Q => (y = .non ∧ Q (.bl (ng neg (decide (x = .non)))) H) ∨ ∃ a b, x = .bl a ∧ y = .bl b ∧ Q (.bl (ng neg (decide (a = b)))) H
theorem or_is {X : Cx} : OpR X (compareOp .Is) (rIsA false) := OpR.or op_isN op_is_bl
theorem or_isnot {X : Cx} : OpR X (compareOp .IsNot) (rIsA true) := OpR.or op_notN op_isnot_bl
theorem is_sim (neg : Bool) (hp : ∀ b, isB x y = some b → Q (.bl (ng neg b)) H) (r1 : Rel G ι H v x) (r2 : Rel G ι H w y) (hs : (isB x y).isSome = true) : rIsA neg v w H Q := by
  cases y with
  | non =>
    cases r2
    refine .inl ⟨rfl, ?_⟩
    rw [non_V r1]
    exact hp _ rfl
  | bl b =>
    cases r2
    cases x with
    | bl a =>
      cases r1
      exact .inr ⟨a, b, rfl, rfl, hp _ rfl⟩
    | _ => cases hs
  | _ => cases hs
theorem sim_is : Sim2 G E (rIsA false) isD := by
  intro ι H μ v w x y Q S r1 r2 p
  unfold isD at p
  cases h : isB x y with
  | none =>
    rw [h] at p
    exact p.elim
  | some b =>
    rw [h] at p
    exact is_sim false (fun c e => by
      rw [h] at e
      cases e
      exact Post.val p S rfl) r1 r2 (by rw [h]; rfl)
theorem sim_isnot : Sim2 G E (rIsA true) isnotD := by
  intro ι H μ v w x y Q S r1 r2 p
  unfold isnotD at p
  cases h : isB x y with
  | none =>
    rw [h] at p
    exact p.elim
  | some b =>
    rw [h] at p
    exact is_sim true (fun c e => by
      rw [h] at e
      cases e
      exact Post.val p S rfl) r1 r2 (by rw [h]; rfl)
end
def rCmp (K : PySem.W.Frag) : COp → R2
  | .lt => rOrd (fun i j => decide (i < j)) ltS
  | .le => rOrd (fun i j => decide (i ≤ j)) fun i j => !ltS j i
  | .gt => rOrd (fun i j => decide (j < i)) fun i j => ltS j i
  | .ge => rOrd (fun i j => decide (j ≤ i)) fun i j => !ltS i j
  | .eq => rEqD K | .ne => rNeD K | .isin => rInA K false | .notin => rInA K true | .is_ => rIsA false | .isnot => rIsA true
def COp.op : COp → CmpOp
  | .lt => .Lt | .le => .LtE | .gt => .Gt | .ge => .GtE | .eq => .Eq | .ne => .NotEq | .isin => .In | .notin => .NotIn | .is_ => .Is | .isnot => .IsNot
theorem or_cmp {X : Cx} (hu : X.A.units + 65 < cLine) : ∀ o : COp, OpR X (compareOp o.op) (rCmp X.K o)
  | .lt => OpR.or op_lt op_lt_str
  | .le => OpR.or op_le op_le_str
  | .gt => OpR.or op_gt op_gt_str
  | .ge => OpR.or op_ge op_ge_str
  | .eq => op_eqD (by omega) | .ne => op_neD (by omega) | .isin => or_in hu | .notin => or_notin hu | .is_ => or_is | .isnot => or_isnot
theorem sim_cmp : ∀ o : COp, Sim2 G E (rCmp G.K o) (cmpD o)
  | .lt => ord_sim (fun _ _ _ => rfl) (fun _ _ _ => rfl) fun x y μ => by cases x <;> cases y <;> first | exact .inl ⟨_, _, rfl, rfl⟩ | exact .inr (.inl ⟨_, _, rfl, rfl⟩) | exact .inr (.inr rfl)
  | .le => ord_sim (fun _ _ _ => rfl) (fun _ _ _ => rfl) fun x y μ => by cases x <;> cases y <;> first | exact .inl ⟨_, _, rfl, rfl⟩ | exact .inr (.inl ⟨_, _, rfl, rfl⟩) | exact .inr (.inr rfl)
  | .gt => ord_sim (fun _ _ _ => rfl) (fun _ _ _ => rfl) fun x y μ => by cases x <;> cases y <;> first | exact .inl ⟨_, _, rfl, rfl⟩ | exact .inr (.inl ⟨_, _, rfl, rfl⟩) | exact .inr (.inr rfl)
  | .ge => ord_sim (fun _ _ _ => rfl) (fun _ _ _ => rfl) fun x y μ => by cases x <;> cases y <;> first | exact .inl ⟨_, _, rfl, rfl⟩ | exact .inr (.inl ⟨_, _, rfl, rfl⟩) | exact .inr (.inr rfl)
  | .eq => sim_eq | .ne => sim_ne | .isin => sim_in | .notin => sim_notin | .is_ => sim_is | .isnot => sim_isnot
end
end T
namespace T
open PySem PySem.Spec PyProof.Rows L2
inductive BI where
  | len | abs | all | any | int | tuple | list | max2 | min2 | maxl | minl | sum | divmod | sorted | dict | bool | str | repr | lenset | range1 | range2 | clist | crange1
  | isty (t : String) | iscls (C : Nat)
  deriving DecidableEq
inductive ME where
  | append | pop0 | pop | index | split | join | partition | get1 | get2 | count | replace | keys
  deriving DecidableEq
inductive IK where
  | plain | range | enum | zip
  deriving DecidableEq
inductive Tg where
  | nm (i : Nat) | tp (ts : List Tg) | bad
inductive Ee where
  | bad | no
  | v (i : Nat) | k (d : D) | g (i : Nat)
  | bin (o : BOp) (a b : Ee) | cbin (o : BOp) (a b : Ee) | neg (a : Ee) | not (a : Ee)
  | cmp (o : COp) (a b : Ee) | cmp2 (o p : COp) (a b c : Ee)
  | and (a b : Ee) | or (a b : Ee) | ife (t a b : Ee)
  | tup (es : List Ee) | lst (es : List Ee) | clst (es : List Ee)
  | ix (a i : Ee) | sl (a lo hi : Ee) | rev (a : Ee)
  | call (f : Nat) (es : List Ee) | bi (b : BI) (es : List Ee) | me (m : ME) (a : Ee) (es : List Ee)
  | fld (a : Ee) (f : Str) | mk (C : Nat) (es : List Ee)
  | comp (c : Bool) (elt : Ee) (tg : Tg) (ik : IK) (its ifs : List Ee) (own : List Nat)
  | callk (f : Nat) (es ks : List Ee) (pm : List Nat)
  | meth (a : Ee) (m : Str) (es : List Ee) | prop (a : Ee) (f : Str) | isi (a : Ee) (C : Nat)
  | compS (c : Bool) (elt : Ee) (tg : Tg) (it : Ee) (own : List Nat)
  | star (t : Bool) (es : List Ee) (ss : List Bool) | calld (f : Nat) (es : List Ee) (dv : List D)
inductive Tgt where
  | nm (i : Nat) | tp (ts : List Tgt) | sub (a i : Ee) | at (a : Ee) (f : Str) | bad
inductive Ss where
  | bad | pass | ex (e : Ee) | ret (e : Ee) | retN
  | asg (t : Tgt) (e : Ee) | aug (i : Nat) (o : BOp) (e : Ee)
  | ite (t : Ee) (a b : List Ss)
  | loop (tg : Tg) (ik : IK) (its : List Ee) (body : List Ss)
  | whl (fuel : Nat) (t : Ee) (body : List Ss)
  | brk | cont
  | loopK (tg : Tg) (i : Nat) (f : Option Str) (body : List Ss)
  | fld (a : Ee) (f : Str) (e : Ee)
abbrev FnS := List D → Sto → R D
structure Tb where
  fn : Nat → FnS
  gl : Nat → D
  /-- plain attributes of a class's instances -/
  at_ : Nat → Str → Bool
  /-- what __init__ does -/
  ini : Nat → FnS
  /-- methods, getters of properties -/
  mt : Nat → Str → Option FnS
  pr : Nat → Str → Option FnS
  /-- is an instance of the first one of the second -/
  isc : Nat → Nat → Option Bool
  /-- nothing built-in is an instance -/
  isb : Nat → Bool
def R.noexc {α : Type} (r : R α) : R α := match r with
  | .exc _ _ _ => .bad
  | r => r
@[simp] theorem R.noexc_ok {α : Type} (a : α) (μ : Sto) : (R.ok a μ).noexc = .ok a μ := rfl
def truB (μ : Sto) : D → Option Bool
  | .non => some false
  | .bl b => some b
  | .int i => some (i != 0)
  | .str x => if fits x.length then some (x.length != 0) else none
  | d => (seqOf μ d).map fun ds => !ds.isEmpty
def tru {α : Type} (d : D) (μ : Sto) (f : Bool → R α) : R α := match truB μ d with
  | some b => f b
  | none => .bad
def cutG {α : Type} (xs : List α) (lo hi : Option Int) : List α := (xs.drop (HT.sIx xs.length 0 lo)).take (HT.sIx xs.length xs.length hi - HT.sIx xs.length 0 lo)
def ixD (x i : D) (μ : Sto) : R D := match x, i with
  | .str z, .int i => if fits z.length then (match atI z.cps.toList i with
    | some c => .ok (.str ⟨#[c]⟩) μ
    | none => .bad) else .bad
  | .dic ks ds, i => (match keyD i with
    | some k => (match lookK ks ds k with
      | some d => .ok d μ
      | none => .bad)
    | none => .bad)
  | x, .int i => (match seqOf μ x with
    | some ds => (match atI ds i with
      | some d => .ok d μ
      | none => .bad)
    | none => .bad)
  | _, _ => .bad
def slD (x : D) (lo hi : Option Int) (μ : Sto) : R D := match x with
  | .str z => if fits z.length then .ok (.str (cutS z lo hi)) μ else .bad
  | .tup ds => .ok (.tup (cutG ds lo hi)) μ
  | x => (match seqOf μ x with
    | some ds => .ok (.lst (cutG ds lo hi)) μ
    | none => .bad)
def revD (x : D) (μ : Sto) : R D := match x with
  | .tup _ => .bad
  | x => (match seqOf μ x with
    | some ds => .ok (.lst ds.reverse) μ
    | none => .bad)
def fldD (ok : Nat → Str → Bool) (x : D) (f : Str) (μ : Sto) : R D := match x with
  | .ins C fs ds => if ok C f then (match (fs.zip ds).lookup f with
    | some d => .ok d μ
    | none => .bad) else .bad
  | .cell k => (match μ[k]? with
    | some (.ins C fs ds) => if ok C f then (match (fs.zip ds).lookup f with
      | some d => .ok d μ
      | none => .bad) else .bad
    | _ => .bad)
  | _ => .bad
def insOf (μ : Sto) : D → Option (Nat × List Str)
  | .ins C fs _ => some (C, fs)
  | .cell k => (match μ[k]? with
    | some (.ins C fs _) => some (C, fs)
    | _ => none)
  | _ => none
def bools : List D → Option (List Bool)
  | [] => some []
  | .bl b :: r => (bools r).map (b :: ·)
  | _ :: _ => none
def intsD : List D → Option (List Int)
  | [] => some []
  | .int i :: r => (intsD r).map (i :: ·)
  | _ :: _ => none
def strsD : List D → Option (List Str)
  | [] => some []
  | .str i :: r => (strsD r).map (i :: ·)
  | _ :: _ => none
def tyOf (μ : Sto) : D → Option String
  | .non => some "NoneType" | .bl _ => some "bool" | .int _ => some "int" | .str _ => some "str" | .tup _ => some "tuple" | .lst _ => some "list" | .fro _ => some "list" | .dic _ _ => some "dict"
  | .cell k => (match μ[k]? with
    | some (.lst _) => some "list"
    | some (.dic _ _) => some "dict"
    | _ => none)
  | _ => none
def isTy (t T : String) : Bool := t == T || (t == "bool" && T == "int")
def pairs : List D → Option (List Key × List D)
  | [] => some ([], [])
  | .tup [k, d] :: r => (match keyD k, pairs r with
    | some k, some (ks, ds) => if ks.any (fun j => decide (j = k)) then none else some (k :: ks, d :: ds)
    | _, _ => none)
  | _ :: _ => none
def optR {α : Type} (o : Option α) (μ : Sto) (f : α → D) : R D := match o with
  | some a => .ok (f a) μ
  | none => .bad
def alikes (qs : List PyData) : Bool := qs.all fun a => qs.all fun b => PySem.W.alike a b
def sortableB (qs : List PyData) : Bool := (qs.all fun q => match q with
  | .tuple (_ :: _) => true
  | _ => false) || qs.all fun q => match q with
  | .none => false
  | .tuple _ => false
  | _ => true
def sortD (ds : List D) (qs : List PyData) : List D := ((ds.zip qs).mergeSort (PySem.W.dataLe false fun z : D × PyData => z.2)).map (·.1)
def biD (b : BI) (xs : List D) (μ : Sto) : R D := match b, xs with
  | .len, [.str z] => if fits z.length then .ok (.int z.length) μ else .bad
  | .len, [.dic ks _] => .ok (.int ks.length) μ
  | .len, [x] => optR (seqOf μ x) μ fun ds => .int ds.length
  | .abs, [.int i] => .ok (.int (if i < 0 then -i else i)) μ
  | .all, [x] => optR ((lstOf μ x).bind bools) μ fun bs => .bl (bs.all id)
  | .any, [x] => optR ((lstOf μ x).bind bools) μ fun bs => .bl (bs.any id)
  | .int, [.int i] => .ok (.int i) μ
  | .int, [.bl k] => .ok (.int (if k then 1 else 0)) μ
  | .tuple, [.tup ds] => .ok (.tup ds) μ
  | .tuple, [x] => optR (seqOf μ x) μ .tup
  | .list, [x] => optR (seqOf μ x) μ .lst
  | .max2, [.int i, .int j] => .ok (.int (if j > i then j else i)) μ
  | .min2, [.int i, .int j] => .ok (.int (if j < i then j else i)) μ
  | .sum, [.tup ds] => optR (intsD ds) μ fun ns => .int ns.sum
  | .sum, [x] => optR ((lstOf μ x).bind intsD) μ fun ns => .int ns.sum
  | .divmod, [.int i, .int j] => if decide (0 < j) && decide (j < 1073741824) then .ok (.tup [.int (i / j), .int (i % j)]) μ else .bad
  | .dict, [x] => optR ((lstOf μ x).bind pairs) μ fun p => .dic p.1 p.2
  | .bool, [.int i] => .ok (.bl (i != 0)) μ
  | .bool, [.bl k] => .ok (.bl k) μ
  | .repr, [.bl k] => .ok (.str (if k then "True" else "False")) μ
  | .repr, [x] => (match toPyC μ x with
    | some q => if q.showable && !q.hasDict && decide (q.depth ≤ 60) && fits q.shown.length then .ok (.str q.shown) μ else .bad
    | none => .bad)
  | .range1, [.int n] => if decide (0 ≤ n) && fits n.toNat then .ok (.lst ((List.range n.toNat).map fun (i : Nat) => .int (i : Int))) μ else .bad
  | .lenset, [x] => (match (lstOf μ x).bind intsD with
    | some ns => if decide ns.Nodup && decide (ns.length ≤ 4000) then .ok (.int ns.length) μ else .bad
    | none => .bad)
  | .isty T, [x] => optR (tyOf μ x) μ fun t => .bl (isTy t T)
  | .clist, [x] => (match seqOf μ x with
    | some ds => .ok (.cell μ.length) (μ ++ [.lst ds])
    | none => .bad)
  | .crange1, [.int n] => if decide (0 ≤ n) && fits n.toNat then .ok (.cell μ.length) (μ ++ [.lst ((List.range n.toNat).map fun (i : Nat) => .int (i : Int))]) else .bad
  | .sorted, [x] => (match lstOf μ x with
    | some ds => (match toPys ds with
      | some qs => if alikes qs && sortableB qs && qs.all (fun q => decide (q.depth ≤ 60)) then .ok (.lst (sortD ds qs)) μ else .bad
      | none => .bad)
    | none => .bad)
  | .maxl, [x] => (match (lstOf μ x).bind intsD with
    | some (n :: ns) => .ok (.int (ns.foldl (fun a b => if b > a then b else a) n)) μ
    | _ => .bad)
  | .minl, [x] => (match (lstOf μ x).bind intsD with
    | some (n :: ns) => .ok (.int (ns.foldl (fun a b => if b < a then b else a) n)) μ
    | _ => .bad)
  | _, _ => .bad
def recv (m : ME) (x : D) (μ : Sto) : Bool := match m with
  | .append | .pop0 | .pop | .index | .count => (lstOf μ x).isSome
  | .split | .join | .partition | .replace => (match x with
    | .str _ => true
    | _ => false)
  | .get1 | .get2 | .keys => (match x with
    | .dic _ _ => true
    | .wdic _ _ => true
    | _ => false)
def wr (μ : Sto) (x : D) (f : List D → Option (D × List D)) : R D := match x with
  | .cell k => (match μ[k]? with
    | some (.lst ds) => (match f ds with
      | some (d, es) => .ok d (μ.set k (.lst es))
      | none => .bad)
    | _ => .bad)
  | _ => .bad
def meD (m : ME) (x : D) (xs : List D) (μ : Sto) : R D := match m, xs with
  | .append, [d] => wr μ x fun ds => if decide (ds.length < sizeLine) then some (.non, ds ++ [d]) else none
  | .pop0, [] => wr μ x fun ds => ds.getLast?.map fun d => (d, ds.dropLast)
  | .pop, [.int i] => wr μ x fun ds => if decide (0 ≤ i) then (ds[i.toNat]?).map fun d => (d, ds.eraseIdx i.toNat) else none
  | .index, [d] => (match (lstOf μ x).bind toPys, toPyC μ d with
    | some ys, some y => if SeqAt.shaped (.list ys) && SeqAt.shaped y then (match ys.findIdx? fun z => PyData.eqv z y with
      | some j => .ok (.int j) μ
      | none => .bad) else .bad
    | _, _ => .bad)
  | .split, [.str b] => (match x with
    | .str a => if b.length != 0 && fits (a.length + 2) && fits (Txt.split a b).length then .ok (.lst ((Txt.split a b).map .str)) μ else .bad
    | _ => .bad)
  | .partition, [.str b] => (match x with
    | .str a => if b.length != 0 && fits a.length then .ok (let p := Txt.partition a b; .tup [.str p.1, .str p.2.1, .str p.2.2]) μ else .bad
    | _ => .bad)
  | .join, [d] => (match x, (seqOf μ d).bind strsD with
    | .str a, some ys => if fits ((ys.map Str.length).sum + a.length * ys.length) then .ok (.str (Txt.join a ys)) μ else .bad
    | _, _ => .bad)
  | .get1, [k] => (match x, k with
    | .dic ks ds, k => (match keyD k with
      | some k => .ok ((lookK ks ds k).getD .non) μ
      | none => .bad)
    | .wdic ks ds, .str z => .ok (((ks.zip ds).lookup z).getD .non) μ
    | _, _ => .bad)
  | _, _ => .bad
def sel {α : Type} (pm : List Nat) (xs : List α) : List α := pm.filterMap fun i => xs[i]?
mutual
def below (n : Nat) : D → Bool
  | .cell k => decide (k < n)
  | .tup ds => belows n ds
  | .lst ds => belows n ds
  | .fro ds => belows n ds
  | .dic _ ds => belows n ds
  | .wdic _ ds => belows n ds
  | .ins _ _ ds => belows n ds
  | _ => true
def belows (n : Nat) : List D → Bool
  | [] => true
  | d :: ds => below n d && belows n ds
end
def belowC (n : Nat) : Cell → Bool
  | .lst ds => belows n ds
  | .ins _ _ ds => belows n ds
  | .dic _ ds => belows n ds
def thaw1 (n : Nat) (μ : Sto) : D → Option D
  | .cell k => if k < n then some (.cell k) else (match μ[k]? with
    | some (.lst ds) => if belows n ds then some (.lst ds) else none
    | some (.ins C fs ds) => if belows n ds then some (.ins C fs ds) else none
    | some (.dic ks ds) => if belows n ds then some (.dic ks ds) else none
    | none => none)
  | d => if below n d then some d else none
def thaws (n : Nat) (μ : Sto) : List D → Option (List D)
  | [] => some []
  | d :: ds => (thaw1 n μ d).bind fun x => (thaws n μ ds).map (x :: ·)
def thaw (n : Nat) (μ : Sto) : D → Option D
  | .tup ds => if below n (.tup ds) then some (.tup ds) else (thaws n μ ds).map .tup
  | .cell k => if k < n then some (.cell k) else (match μ[k]? with
    | some (.lst ds) => if belows n ds then some (.lst ds) else none
    | some (.ins C fs ds) => if belows n ds then some (.ins C fs ds) else none
    | some (.dic ks ds) => if belows n ds then some (.dic ks ds) else none
    | none => none)
  | d => if below n d then some d else none
def leave (keep : Bool) (n : Nat) (d : D) (μ : Sto) : R D :=
  if μ.length = n then .ok d μ
  else if (μ.take n).all (belowC n) then
    (match keep, d with
    | true, .cell k => if k < n then .bad else (match μ[k]? with
      | some c => if belowC n c then .ok (.cell n) (μ.take n ++ [c]) else .bad
      | none => .bad)
    | _, d => (match thaw n μ d with
      | some d' => .ok d' (μ.take n)
      | none => .ok d μ))
  else .ok d μ
def leaveX (n : Nat) (C : Nat) (ds : List D) (μ : Sto) : R D :=
  if μ.length = n then .exc C ds μ
  else if (μ.take n).all (belowC n) && belows n ds then .exc C ds (μ.take n)
  else .bad
def mkD (ini : FnS) (C : Nat) : FnS := fun ds μ => (match ini (.cell μ.length :: ds) (μ ++ [.ins C [] []]) with
  | .ok d μ1 => (match d with
    | .non => leave false μ.length (.cell μ.length) μ1
    | _ => .bad)
  | .exc X ds μ1 => leaveX μ.length X ds μ1
  | .bad => .bad)
def srcOf (μ : Sto) (x : D) : Option (List D × List (Nat × List D)) := match x with
  | .cell k => (match μ[k]? with
    | some (.lst ds) => some (ds, [(k, ds)])
    | _ => none)
  | .str z => if fits z.length then some (z.cps.toList.map fun c => .str ⟨#[c]⟩, []) else none
  | x => (seqOf μ x).map fun ds => (ds, [])
def lists : List D → Option (List (List D))
  | [] => some []
  | .lst ds :: r => (lists r).map (ds :: ·)
  | _ :: _ => none
def colN : List (List D) → Nat
  | [] => 0
  | [r] => r.length
  | r :: s => min r.length (colN s)
def rowsOf (μ : Sto) (x : D) : Option (List (List D)) := ((seqOf μ x).bind lists).bind fun rows => if rows.length = 0 || decide (6 < rows.length) then none else some rows
def columnsD (rows : List (List D)) : List D := (List.range (colN rows)).map fun j => .tup (rows.map fun r => r.getD j .non)
def itemsOf (ik : IK) (xs : List D) (μ : Sto) : Option (List D × List (Nat × List D)) := match ik, xs with
  | .plain, [x] => srcOf μ x
  | .range, [.int n] => if decide (-(2 ^ 62) ≤ n ∧ n < 2 ^ 62) && fits n.toNat then some ((List.range n.toNat).map fun (i : Nat) => .int (i : Int), []) else none
  | .range, [.int a, .int b] => if decide ((-(2 ^ 62) ≤ a ∧ a < 2 ^ 62 ∧ -(2 ^ 62) ≤ b ∧ b < 2 ^ 62)) && fits (b - a).toNat then some ((List.range (b - a).toNat).map fun (i : Nat) => .int (a + (i : Int)), []) else none
  | .enum, [x] => (srcOf μ x).map fun p => ((List.range p.1.length).zipWith (fun i d => .tup [.int (i : Nat), d]) p.1, p.2)
  | .zip, [x, y] => (match srcOf μ x, srcOf μ y with
    | some p, some q => some (p.1.zipWith (fun a b => .tup [a, b]) q.1, p.2 ++ q.2)
    | _, _ => none)
  | _, _ => none
def still (gs : List (Nat × List D)) (μ : Sto) : Prop := ∀ p ∈ gs, μ[p.1]? = some (.lst p.2)
def stillB (gs : List (Nat × List D)) (μ : Sto) : Bool := gs.all fun p => match μ[p.1]? with
  | some (.lst ds) => sameDs ds p.2
  | _ => false
theorem stillB_iff {gs : List (Nat × List D)} {μ : Sto} : stillB gs μ = true ↔ still gs μ := by
  unfold stillB still
  rw [List.all_eq_true]
  constructor
  · intro h p hp
    have := h p hp
    split at this
    · rename_i ds hd
      rw [hd, (sameDs_iff ds p.2).mp this]
    · cases this
  · intro h p hp
    rw [h p hp]
    exact (sameDs_iff p.2 p.2).mpr rfl
instance (gs : List (Nat × List D)) (μ : Sto) : Decidable (still gs μ) := decidable_of_bool (stillB gs μ) stillB_iff
def ifStill {α : Type} (gs : List (Nat × List D)) (μ : Sto) (r : α) (b : α) : α := if still gs μ then r else b
theorem ifStill_nil {α : Type} {μ : Sto} {r b : α} : ifStill [] μ r b = r := by
  unfold ifStill
  rw [if_pos]
  intro p hp
  cases hp
theorem ifStill_of {α : Type} {gs : List (Nat × List D)} {μ : Sto} {r b : α} (h : still gs μ) : ifStill gs μ r b = r := by
  unfold ifStill
  rw [if_pos h]
mutual
def setTg (μ : Sto) : Tg → D → Env → Option Env
  | .nm i, d, ρ => some (ρ.set i (some d))
  | .tp ts, .tup ds, ρ => setTgs μ ts ds ρ
  | .tp ts, .lst ds, ρ => setTgs μ ts ds ρ
  | _, _, _ => none
def setTgs (μ : Sto) : List Tg → List D → Env → Option Env
  | [], [], ρ => some ρ
  | t :: ts, d :: ds, ρ => (setTg μ t d ρ).bind (setTgs μ ts ds)
  | _, _, _ => none
end
def compL (gs : List (Nat × List D)) (ρ : Env) (tg : Tg) (ifs : Env → Sto → R Bool) (elt : Env → Sto → R D) : List D → List D → Sto → R (List D)
  | [], acc, μ => ifStill gs μ (.ok acc μ) .bad
  | d :: ds, acc, μ => ifStill gs μ (match setTg μ tg d ρ with
    | some ρ1 => (ifs ρ1 μ).bind fun b μ1 => if b then (elt ρ1 μ1).bind fun y μ2 => compL gs ρ tg ifs elt ds (acc ++ [y]) μ2 else compL gs ρ tg ifs elt ds acc μ1
    | none => .bad) .bad
def oI (e : Ee) (r : R D) (μ : Sto) : R (Option Int) := match e with
  | .no => .ok none μ
  | _ => r.bind fun x μ1 => (match x with
    | .int i => .ok (some i) μ1
    | _ => .bad)
def methOf (Γ : Tb) (x : D) (m : Str) (μ : Sto) : Option FnS := (insOf μ x).bind fun p => if p.2.contains m then none else Γ.mt p.1 m
def propOf (Γ : Tb) (x : D) (f : Str) (μ : Sto) : Option FnS := (insOf μ x).bind fun p => Γ.pr p.1 f
def isiOf (Γ : Tb) (x : D) (C : Nat) (μ : Sto) : Option Bool := match insOf μ x with
  | some p => Γ.isc p.1 C
  | none => if Γ.isb C then (tyOf μ x).map fun _ => false else none
def starOf (s : Bool) (d : D) (μ : Sto) : Option (List D) := if s then seqOf μ d else some [d]
section
variable (Γ : Tb)
mutual
def evE : Ee → Env → Sto → R D
  | .bad, _, _ => .bad
  | .no, _, _ => .bad
  | .v i, ρ, μ => (match ρ[i]? with
    | some (some d) => .ok d μ
    | _ => .bad)
  | .k d, _, μ => .ok d μ
  | .g i, _, μ => .ok (Γ.gl i) μ
  | .bin o a b, ρ, μ => (evE a ρ μ).bind fun x μ1 => (evE b ρ μ1).bind fun y μ2 => binD o x y μ2
  | .cbin o a b, ρ, μ => (evE a ρ μ).bind fun x μ1 => (evE b ρ μ1).bind fun y μ2 => cbinD o x y μ2
  | .neg a, ρ, μ => (evE a ρ μ).bind fun x μ1 => (match x with
    | .int i => .ok (.int (-i)) μ1
    | .bl b => .ok (.int (-(if b = true then 1 else 0))) μ1
    | _ => .bad)
  | .not a, ρ, μ => (evE a ρ μ).bind fun x μ1 => tru x μ1 fun b => .ok (.bl (!b)) μ1
  | .cmp o a b, ρ, μ => (evE a ρ μ).bind fun x μ1 => (evE b ρ μ1).bind fun y μ2 => cmpD o x y μ2
  | .cmp2 o p a b c, ρ, μ => (evE a ρ μ).bind fun x μ1 => (evE b ρ μ1).bind fun y μ2 => (cmpD o x y μ2).bind fun r μ3 => (match r with
    | .bl true => (evE c ρ μ3).bind fun z μ4 => cmpD p y z μ4
    | .bl false => .ok (.bl false) μ3
    | _ => .bad)
  | .and a b, ρ, μ => (evE a ρ μ).bind fun x μ1 => tru x μ1 fun t => if t then evE b ρ μ1 else .ok x μ1
  | .or a b, ρ, μ => (evE a ρ μ).bind fun x μ1 => tru x μ1 fun t => if t then .ok x μ1 else evE b ρ μ1
  | .ife t a b, ρ, μ => (evE t ρ μ).bind fun x μ1 => tru x μ1 fun t => if t then evE a ρ μ1 else evE b ρ μ1
  | .tup es, ρ, μ => (evEs es ρ μ).bind fun ds μ1 => if fits ds.length then .ok (.tup ds) μ1 else .bad
  | .lst es, ρ, μ => (evEs es ρ μ).bind fun ds μ1 => if fits ds.length then .ok (.lst ds) μ1 else .bad
  | .clst es, ρ, μ => (evEs es ρ μ).bind fun ds μ1 => if fits ds.length then .ok (.cell μ1.length) (μ1 ++ [.lst ds]) else .bad
  | .ix a i, ρ, μ => (evE a ρ μ).bind fun x μ1 => (evE i ρ μ1).bind fun y μ2 => ixD x y μ2
  | .rev a, ρ, μ => (evE a ρ μ).bind fun x μ1 => revD x μ1
  | .sl a lo hi, ρ, μ => (evE a ρ μ).bind fun x μ1 => (oI lo (evE lo ρ μ1) μ1).bind fun l μ2 => (oI hi (evE hi ρ μ2) μ2).bind fun h μ3 => slD x l h μ3
  | .call f es, ρ, μ => (evEs es ρ μ).bind fun ds μ1 => Γ.fn f ds μ1
  | .bi b es, ρ, μ => (evEs es ρ μ).bind fun ds μ1 => biD b ds μ1
  | .me m a es, ρ, μ => (evE a ρ μ).bind fun x μ1 => if recv m x μ1 then (evEs es ρ μ1).bind fun ds μ2 => meD m x ds μ2 else .bad
  | .fld a f, ρ, μ => (evE a ρ μ).bind fun x μ1 => fldD Γ.at_ x f μ1
  | .mk C es, ρ, μ => (evEs es ρ μ).bind fun ds μ1 => mkD (Γ.ini C) C ds μ1
  | .comp c elt tg ik its ifs own, ρ, μ => (evEs its ρ μ).bind fun xs μ1 => (match itemsOf ik xs μ1 with
    | some (ds, gs) => (compL gs (wipeE ρ own) tg (evIfs ifs) (evE elt) ds [] μ1).noexc.bind fun ys μ2 => if c then .ok (.cell μ2.length) (μ2 ++ [.lst ys]) else .ok (.lst ys) μ2
    | none => .bad)
  | .callk f es ks pm, ρ, μ => (evEs es ρ μ).bind fun ds μ1 => (evEs ks ρ μ1).bind fun zs μ2 => Γ.fn f (sel pm (ds ++ zs)) μ2
  | .meth a m es, ρ, μ => (evE a ρ μ).bind fun x μ1 => (match methOf Γ x m μ1 with
    | some f => (evEs es ρ μ1).bind fun ds μ2 => f (x :: ds) μ2
    | none => .bad)
  | .prop a f, ρ, μ => (evE a ρ μ).bind fun x μ1 => (match propOf Γ x f μ1 with
    | some g => g [x] μ1
    | none => .bad)
  | .isi a C, ρ, μ => (evE a ρ μ).bind fun x μ1 => (match isiOf Γ x C μ1 with
    | some b => .ok (.bl b) μ1
    | none => .bad)
  | .compS c elt tg it own, ρ, μ => (evE it ρ μ).bind fun x μ1 => (match rowsOf μ1 x with
    | some rows => (compL [] (wipeE ρ own) tg (fun _ μ => .ok true μ) (evE elt) (columnsD rows) [] μ1).noexc.bind fun ys μ2 => if c then .ok (.cell μ2.length) (μ2 ++ [.lst ys]) else .ok (.lst ys) μ2
    | none => .bad)
  | .star t es ss, ρ, μ => (evXs es ss ρ μ).bind fun ds μ1 => if fits ds.length then .ok (if t then .tup ds else .lst ds) μ1 else .bad
  | .calld f es dv, ρ, μ => (evEs es ρ μ).bind fun ds μ1 => Γ.fn f (ds ++ dv) μ1
def evEs : List Ee → Env → Sto → R (List D)
  | [], _, μ => .ok [] μ
  | e :: es, ρ, μ => (evE e ρ μ).bind fun d μ1 => (evEs es ρ μ1).bind fun ds μ2 => .ok (d :: ds) μ2
def evXs : List Ee → List Bool → Env → Sto → R (List D)
  | [], _, _, μ => .ok [] μ
  | e :: es, s :: ss, ρ, μ => (evE e ρ μ).bind fun d μ1 => (match starOf s d μ1 with
    | some xs => (evXs es ss ρ μ1).bind fun ys μ2 => .ok (xs ++ ys) μ2
    | none => .bad)
  | _ :: _, [], _, _ => .bad
def evIfs : List Ee → Env → Sto → R Bool
  | [], _, μ => .ok true μ
  | e :: es, ρ, μ => (evE e ρ μ).bind fun d μ1 => tru d μ1 fun b => if b then evIfs es ρ μ1 else .ok false μ1
end
end
inductive F where
  | nx (ρ : Env) (μ : Sto) | rt (d : D) (μ : Sto) | bk (ρ : Env) (μ : Sto) | ct (ρ : Env) (μ : Sto) | exc (C : Nat) (ds : List D) (μ : Sto) | bad
def R.thenF {α : Type} (r : R α) (f : α → Sto → F) : F := match r with
  | .ok a μ => f a μ
  | .exc C ds μ => .exc C ds μ
  | .bad => .bad
@[simp] theorem R.thenF_ok {α : Type} (a : α) (μ : Sto) (f : α → Sto → F) : (R.ok a μ).thenF f = f a μ := rfl
def F.then (r : F) (f : Env → Sto → F) : F := match r with
  | .nx ρ μ => f ρ μ
  | r => r
@[simp] theorem F.then_nx (ρ : Env) (μ : Sto) (f : Env → Sto → F) : (F.nx ρ μ).then f = f ρ μ := rfl
@[simp] theorem F.then_rt (d : D) (μ : Sto) (f : Env → Sto → F) : (F.rt d μ).then f = .rt d μ := rfl
def forL (gs : List (Nat × List D)) (tg : Tg) (body : Env → Sto → F) : List D → Env → Sto → F
  | [], ρ, μ => ifStill gs μ (.nx ρ μ) .bad
  | d :: ds, ρ, μ => ifStill gs μ (match setTg μ tg d ρ with
    | some ρ1 => (match body ρ1 μ with
      | .nx ρ2 μ2 => forL gs tg body ds ρ2 μ2
      | .ct ρ2 μ2 => forL gs tg body ds ρ2 μ2
      | .bk ρ2 μ2 => .nx ρ2 μ2
      | r => r)
    | none => .bad) .bad
def whlL (test : Env → Sto → R Bool) (body : Env → Sto → F) : Nat → Env → Sto → F
  | 0, _, _ => .bad
  | n + 1, ρ, μ => (test ρ μ).thenF fun b μ1 => if b then (match body ρ μ1 with
      | .nx ρ2 μ2 => whlL test body n ρ2 μ2
      | .ct ρ2 μ2 => whlL test body n ρ2 μ2
      | .bk ρ2 μ2 => .nx ρ2 μ2
      | r => r) else .nx ρ μ1
def F.noexc (r : F) : F := match r with
  | .exc _ _ _ => .bad
  | r => r
def keyV : Key → D
  | .inl i => .int i
  | .inr x => .str x
def dicOf (ok : Nat → Str → Bool) (d : D) (f : Option Str) : Option (List Key) := match d, f with
  | .dic ks _, none => some ks
  | .ins C fs ds, some f => if ok C f then (match (fs.zip ds).lookup f with
    | some (.dic ks _) => some ks
    | _ => none) else none
  | _, _ => none
def putL {α : Type} (f : Str) (d : α) : List Str → List α → List Str × List α
  | g :: fs, x :: ds => if g = f then (g :: fs, d :: ds) else (g :: (putL f d fs ds).1, x :: (putL f d fs ds).2)
  | _, _ => ([f], [d])
def setFldD (ok : Nat → Str → Bool) (o : D) (f : Str) (d : D) (μ : Sto) : Option Sto := match o with
  | .cell k => (match μ[k]? with
    | some (.ins C fs ds) => if ok C f && decide (fs.length < 1000) then some (μ.set k (.ins C (putL f d fs ds).1 (putL f d fs ds).2)) else none
    | _ => none)
  | _ => none
def setItemD (o i d : D) (μ : Sto) : Option Sto := match o, i with
  | .cell k, .int j => (match μ[k]? with
    | some (.lst ds) => (ixN ds.length j).map fun n => μ.set k (.lst (ds.set n d))
    | _ => none)
  | _, _ => none
section
variable (Γ : Tb)
mutual
def setT : Tgt → D → Env → Sto → F
  | .nm i, d, ρ, μ => .nx (ρ.set i (some d)) μ
  | .tp ts, .tup ds, ρ, μ => if ds.length = ts.length then setTs ts ds ρ μ else .bad
  | .tp ts, .lst ds, ρ, μ => if ds.length = ts.length then setTs ts ds ρ μ else .bad
  | .tp ts, .cell k, ρ, μ => (match μ[k]? with
    | some (.lst ds) => if ds.length = ts.length then setTs ts ds ρ μ else .bad
    | _ => .bad)
  | .sub a i, d, ρ, μ => (evE Γ a ρ μ).thenF fun o μ1 => (evE Γ i ρ μ1).thenF fun j μ2 => (match setItemD o j d μ2 with
    | some μ3 => .nx ρ μ3
    | none => .bad)
  | .at a f, d, ρ, μ => (evE Γ a ρ μ).thenF fun o μ1 => (match setFldD Γ.at_ o f d μ1 with
    | some μ2 => .nx ρ μ2
    | none => .bad)
  | _, _, _, _ => .bad
def setTs : List Tgt → List D → Env → Sto → F
  | [], [], ρ, μ => .nx ρ μ
  | t :: ts, d :: ds, ρ, μ => (setT t d ρ μ).then fun ρ1 μ1 => setTs ts ds ρ1 μ1
  | _, _, _, _ => .bad
end
def augD (o : BOp) (i : Nat) (x y : D) (ρ : Env) (μ : Sto) : F := match o, x, y with
  | .add, .int a, .int b => .nx (ρ.set i (some (.int (a + b)))) μ
  | .sub, .int a, .int b => .nx (ρ.set i (some (.int (a - b)))) μ
  | .mul, .int a, .int b => if mulOk a b then .nx (ρ.set i (some (.int (a * b)))) μ else .bad
  | _, _, _ => .bad
def evT (e : Ee) (ρ : Env) (μ : Sto) : R Bool := (evE Γ e ρ μ).bind fun d μ1 => tru d μ1 fun b => .ok b μ1
mutual
def exS : Ss → Env → Sto → F
  | .bad, _, _ => .bad
  | .pass, ρ, μ => .nx ρ μ
  | .ex e, ρ, μ => (evE Γ e ρ μ).thenF fun _ μ1 => .nx ρ μ1
  | .ret e, ρ, μ => (evE Γ e ρ μ).thenF fun d μ1 => .rt d μ1
  | .retN, _, μ => .rt .non μ
  | .asg t e, ρ, μ => (evE Γ e ρ μ).thenF fun d μ1 => setT Γ t d ρ μ1
  | .aug i o e, ρ, μ => (match ρ[i]? with
    | some (some x) => (evE Γ e ρ μ).thenF fun y μ1 => augD o i x y ρ μ1
    | _ => .bad)
  | .ite t a b, ρ, μ => (evT Γ t ρ μ).thenF fun c μ1 => if c then exB a ρ μ1 else exB b ρ μ1
  | .loop tg ik its body, ρ, μ => (evEs Γ its ρ μ).thenF fun xs μ1 => (match itemsOf ik xs μ1 with
    | some (ds, gs) => forL gs tg (exB body) ds ρ μ1
    | none => .bad)
  | .whl n t body, ρ, μ => whlL (evT Γ t) (exB body) n ρ μ
  | .brk, ρ, μ => .bk ρ μ
  | .cont, ρ, μ => .ct ρ μ
  | .loopK tg i f body, ρ, μ => (match ρ[i]? with
    | some (some d) => (match dicOf Γ.at_ d f with
      | some ks => (forL [] tg (fun ρ μ => (exB body ρ μ).noexc) (ks.map keyV) ρ μ)
      | none => .bad)
    | _ => .bad)
  | .fld a f e, ρ, μ => (evE Γ e ρ μ).thenF fun d μ1 => (evE Γ a ρ μ1).thenF fun o μ2 => (match setFldD Γ.at_ o f d μ2 with
    | some μ3 => .nx ρ μ3
    | none => .bad)
def exB : List Ss → Env → Sto → F
  | [], ρ, μ => .nx ρ μ
  | s :: r, ρ, μ => (exS s ρ μ).then fun ρ1 μ1 => exB r ρ1 μ1
end
end
structure Df where
  ps : Nat
  N : Nat
  keep : Bool
  body : List Ss
def startE (N : Nat) (ds : List D) : Env := ds.map some ++ List.replicate (N - ds.length) none
def runD (Γ : Tb) (f : Df) : FnS := fun ds μ => if ds.length = f.ps then (match exB Γ f.body (startE f.N ds) μ with
  | .rt d μ1 => leave f.keep μ.length d μ1
  | .nx _ μ1 => leave f.keep μ.length .non μ1
  | .exc C xs μ1 => leaveX μ.length C xs μ1
  | _ => .bad) else .bad
end T
namespace T
open PySem PySem.Spec PyProof.Rows L2
section
variable {G : Gx} {E : XK} {ι : List Addr} {H : Hp} {μ : Sto} {v w : V} {x y d : D} {Q : VK}
theorem empty_eq {vs : List V} {ds : List D} (r : Rels G ι H vs ds) : (!vs.isEmpty) = !ds.isEmpty := by
  cases vs with
  | nil => cases ds with
    | nil => rfl
    | cons _ _ => simp [Rels] at r
  | cons _ _ => cases ds with
    | nil => simp [Rels] at r
    | cons _ _ => rfl
theorem tru_V {b : Bool} (S : SOk G ι H μ) (r : Rel G ι H v x) (e : truB μ x = some b) : TruV G.K v H b := by
  have sq : (seqOf μ x).map (fun ds => !ds.isEmpty) = some b → TruV G.K v H b := fun e => by
    cases h : seqOf μ x with
    | none => simp [h] at e
    | some ds =>
      rw [h] at e
      have e : (!ds.isEmpty) = b := Option.some.inj e
      obtain ⟨p, vs, rfl, h1, h2, _⟩ := seq_ok S r h
      subst e
      rw [← empty_eq h2]
      rcases h1 with h1 | h1
      · exact .inl ⟨vs, h1, rfl⟩
      · exact .inr (.inl ⟨vs, h1, rfl⟩)
  cases x with
  | non =>
    cases r
    cases e
    rfl
  | bl c =>
    cases r
    cases e
    rfl
  | int i =>
    cases r
    cases e
    rfl
  | str z =>
    cases r
    cases hf : fits z.length with
    | false => simp [truB, hf] at e
    | true =>
      simp [truB, hf] at e
      refine ⟨fits_iff.mp hf, ?_⟩
      subst e
      rw [Bool.eq_iff_iff]
      simp
  | _ => exact sq e
theorem ptx_tru {α β : Type} {Rl : List Addr → Hp → β → α → Prop} {f : Bool → R α} {Q : β → Hp → Prop} (S : SOk G ι H μ) (r : Rel G ι H v x) (p : PostX G Rl E ι H (tru x μ f) Q) : ∃ b, truB μ x = some b ∧ TruV G.K v H b ∧ PostX G Rl E ι H (f b) Q := by
  unfold tru at p
  cases h : truB μ x with
  | none =>
    rw [h] at p
    exact p.elim
  | some b =>
    rw [h] at p
    exact ⟨b, rfl, tru_V S r h, p⟩
theorem atI_rel {vs : List V} {ds : List D} {i : Int} {d : D} (r : Rels G ι H vs ds) (e : atI ds i = some d) : ∃ v, atI vs i = some v ∧ Rel G ι H v d := by
  unfold atI at e ⊢
  rw [r.len]
  cases h : ixN ds.length i with
  | none => simp [h] at e
  | some j =>
    simp only [h, Option.bind_some] at e ⊢
    exact r.get e
def rIxDk : R2 := fun x y H Q => ∃ a v, x = .ref a ∧ DGet H a y (some v) ∧ Q v H
theorem ix_dict {X : Cx} (hu : X.A.units + 1 < cLine) : IxR X rIxDk := by
  intro value slice pins s σ H x y v u Q I rx ry h hs
  obtain ⟨a, r, rfl, g, q⟩ := h
  obtain rfl : v = Value.ref a := rx
  exact tail_any (dict_typeIs I g) PySem.F.slot_dict_getitem.lookup (d_getItem hu I g ry fun w' s3 I3 rw' => ⟨r, H, I3, rw', q⟩) hs
def rIxAll (K : PySem.W.Frag) : R2 := fun x y H Q => rIx K x y H Q ∨ rIxDk x y H Q
theorem ix_all {X : Cx} (hu : X.A.units + 1 < cLine) : IxR X (rIxAll X.K) := ix_seq.or (ix_dict hu)
theorem sim_ix : Sim2 G E (rIxAll G.K) ixD := by
  intro ι H μ v w x y Q S r1 r2 p
  have sq : ∀ i, y = .int i → (match seqOf μ x with
    | some ds => (match atI ds i with
      | some d => R.ok d μ
      | none => .bad)
    | none => .bad) = ixD x y μ → rIxAll G.K v w H Q := fun i hy e => by
    subst hy
    cases r2
    rw [← e] at p
    cases h : seqOf μ x with
    | none =>
      rw [h] at p
      exact p.elim
    | some ds =>
      rw [h] at p
      cases h2 : atI ds i with
      | none =>
        simp only [h2] at p
        exact p.elim
      | some d =>
        simp only [h2] at p
        obtain ⟨q, vs, rfl, k1, k2, _⟩ := seq_ok S r1 h
        obtain ⟨u, e1, r⟩ := atI_rel k2 h2
        have z := Post.val p S r
        rcases k1 with k1 | k1
        · exact .inl (.inl ⟨q, vs, i, u, rfl, rfl, k1, e1, z⟩)
        · exact .inl (.inr (.inl ⟨q, vs, i, u, rfl, rfl, k1, e1, z⟩))
  cases x with
  | str z =>
    cases r1
    cases y with
    | int i =>
      cases r2
      obtain ⟨hf, p⟩ := ite_ok (show Post G E ι H (if fits z.length = true then (match atI z.cps.toList i with
        | some c => R.ok (.str ⟨#[c]⟩) μ
        | none => .bad) else .bad) Q from p)
      cases h : atI z.cps.toList i with
      | none =>
        rw [h] at p
        exact p.elim
      | some c =>
        rw [h] at p
        exact .inl (.inr (.inr ⟨z, i, c, rfl, rfl, fits_iff.mp hf, h, Post.val p S rfl⟩))
    | _ => exact p.elim
  | dic ks ds =>
    obtain ⟨a, vs, rfl, ⟨h1, _⟩, h2, h3, _⟩ := r1
    cases hk : keyD y with
    | none =>
      simp only [ixD, hk] at p
      exact p.elim
    | some k =>
      cases hl : lookK ks ds k with
      | none =>
        simp only [ixD, hk, hl] at p
        exact p.elim
      | some d =>
        simp only [ixD, hk, hl] at p
        obtain ⟨u, e1, r⟩ := look_ok h2 h3 d hl
        refine .inr ⟨a, u, rfl, ?_, Post.val p S r⟩
        rw [key_V r2 hk, ← e1]
        exact .inl ⟨_, k, h1, rfl, rfl⟩
  | tup ds => cases y <;> first | exact sq _ rfl rfl | exact p.elim
  | lst ds => cases y <;> first | exact sq _ rfl rfl | exact p.elim
  | fro ds => cases y <;> first | exact sq _ rfl rfl | exact p.elim
  | cell k => cases y <;> first | exact sq _ rfl rfl | exact p.elim
  | _ => cases y <;> exact p.elim
theorem cut_rel {vs : List V} {ds : List D} (r : Rels G ι H vs ds) (lo hi : Option Int) : Rels G ι H (cutV vs lo hi) (cutG ds lo hi) := by
  unfold cutV cutG
  rw [r.len]
  exact (r.drop _).take _
def rSlAll (K : PySem.W.Frag) : V → Option Int → Option Int → Hp → VK → Prop := fun x lo hi H Q => rSlS x lo hi H Q ∨ rSlL K x lo hi H Q ∨ rSlA K x lo hi H Q
theorem SlR.or {X : Cx} {r r' : V → Option Int → Option Int → Hp → VK → Prop} (h : SlR X r) (h' : SlR X r') : SlR X (fun x lo hi H Q => r x lo hi H Q ∨ r' x lo hi H Q) := by
  intro pins s σ H x v vl vu lo hi sl Q I rx hs pl pu q
  rcases q with q | q
  · exact h pins s σ H x v vl vu lo hi sl Q I rx hs pl pu q
  · exact h' pins s σ H x v vl vu lo hi sl Q I rx hs pl pu q
theorem sl_all {X : Cx} : SlR X (rSlAll X.K) := SlR.or sl_str (SlR.or sl_list sl_tupA)
theorem cut_all {α : Type} (ds : List α) (lo hi : Option Int) (h : HT.sIx ds.length 0 lo = 0 ∧ HT.sIx ds.length ds.length hi = ds.length) : cutG ds lo hi = ds := by
  unfold cutG
  rw [h.1, h.2]
  simp
theorem Rels.reverse {ι : List Addr} {H : Hp} : ∀ {vs : List V} {ds : List D}, Rels G ι H vs ds → Rels G ι H vs.reverse ds.reverse
  | [], [], h => h
  | v :: vs, d :: ds, h => by
    rw [rels_cons] at h
    rw [List.reverse_cons, List.reverse_cons]
    exact (Rels.reverse h.2).append (by rw [rels_cons]; exact ⟨h.1, by simp [Rels]⟩)
  | [], _ :: _, h => h.elim
  | _ :: _, [], h => h.elim
theorem sim_rev : Sim1 G E (fun v H Q => ∃ a xs, v = .ref a ∧ SqL G.K H a xs ∧ ∀ p, H p = none → Q (.ref p) (upd H p (.lst xs.reverse))) revD := by
  intro ι H μ v x Q S r1 p
  have p : Post G E ι H (revD x μ) Q := p
  have sq : (match seqOf μ x with
    | some ds => R.ok (.lst ds.reverse) μ
    | none => .bad) = revD x μ → (∀ ds, x ≠ .tup ds) → ∃ a xs, v = .ref a ∧ SqL G.K H a xs ∧ ∀ p, H p = none → Q (.ref p) (upd H p (.lst xs.reverse)) := fun e nt => by
    rw [← e] at p
    cases h : seqOf μ x with
    | none =>
      rw [h] at p
      exact p.elim
    | some ds =>
      rw [h] at p
      have hl : ∃ q vs, v = .ref q ∧ SqL G.K H q vs ∧ Rels G ι H vs ds ∧ vs.length ≤ sizeLine := by
        cases x with
        | tup es => exact absurd rfl (nt es)
        | lst es =>
          obtain ⟨q, vs, h1, h2, h3, h4⟩ := lst_ok S r1 (ds := ds) h
          exact ⟨q, vs, h1, SqL.of h2, h3, h4⟩
        | cell k =>
          obtain ⟨q, vs, h1, h2, h3, h4⟩ := lst_ok S r1 (ds := ds) h
          exact ⟨q, vs, h1, SqL.of h2, h3, h4⟩
        | fro es =>
          cases h
          obtain ⟨q, vs, h1, h2, h3⟩ := r1
          exact ⟨q, vs, h1, h2.sq, h3, h2.1⟩
        | _ => cases h
      obtain ⟨q, vs, rfl, h1, h2, h3⟩ := hl
      exact ⟨q, vs, rfl, h1, fun n hn => Post.newL p S hn (Rels.reverse h2) (by rw [List.length_reverse]; exact h3)⟩
  cases x with
  | tup ds => exact p.elim
  | str z => exact sq rfl (fun _ e => by cases e)
  | lst ds => exact sq rfl (fun _ e => by cases e)
  | fro ds => exact sq rfl (fun _ e => by cases e)
  | cell k => exact sq rfl (fun _ e => by cases e)
  | _ => exact p.elim
theorem sim_sl (lo hi : Option Int) : Sim1 G E (fun x H Q => rSlAll G.K x lo hi H Q) (fun x μ => slD x lo hi μ) := by
  intro ι H μ v x Q S r1 p
  have p : Post G E ι H (slD x lo hi μ) Q := p
  have sq : (match seqOf μ x with
    | some ds => R.ok (.lst (cutG ds lo hi)) μ
    | none => .bad) = slD x lo hi μ → (∀ ds, x ≠ .tup ds) → rSlAll G.K v lo hi H Q := fun e nt => by
    rw [← e] at p
    cases h : seqOf μ x with
    | none =>
      rw [h] at p
      exact p.elim
    | some ds =>
      rw [h] at p
      have hl : ∃ q vs, v = .ref q ∧ SqL G.K H q vs ∧ Rels G ι H vs ds ∧ vs.length ≤ sizeLine := by
        cases x with
        | tup es => exact absurd rfl (nt es)
        | lst es =>
          obtain ⟨q, vs, h1, h2, h3, h4⟩ := lst_ok S r1 (ds := ds) h
          exact ⟨q, vs, h1, SqL.of h2, h3, h4⟩
        | cell k =>
          obtain ⟨q, vs, h1, h2, h3, h4⟩ := lst_ok S r1 (ds := ds) h
          exact ⟨q, vs, h1, SqL.of h2, h3, h4⟩
        | fro es =>
          cases h
          obtain ⟨q, vs, h1, h2, h3⟩ := r1
          exact ⟨q, vs, h1, h2.sq, h3, h2.1⟩
        | _ => cases h
      obtain ⟨q, vs, rfl, h1, h2, h3⟩ := hl
      exact .inr (.inl ⟨q, vs, rfl, h1, fun n hn => Post.newL p S hn (cut_rel h2 lo hi) (Nat.le_trans (cutV_length vs lo hi) h3)⟩)
  cases x with
  | str z =>
    cases r1
    obtain ⟨hf, p⟩ := ite_ok (show Post G E ι H (if fits z.length = true then R.ok (.str (cutS z lo hi)) μ else .bad) Q from p)
    exact .inl ⟨z, rfl, fits_iff.mp hf, Post.val p S rfl⟩
  | tup ds =>
    obtain ⟨q, vs, rfl, h1, h2, h3⟩ := tup_ok (id r1)
    refine .inr (.inr ⟨q, vs, rfl, h1, fun hw => ?_, fun hw n hn => Post.newT p S hn (cut_rel h2 lo hi) (Nat.le_trans (cutV_length vs lo hi) h3)⟩)
    rw [h2.len] at hw
    have p : Post G E ι H (R.ok (.tup (cutG ds lo hi)) μ) Q := p
    rw [cut_all ds lo hi hw] at p
    exact Post.val p S r1
  | lst ds => exact sq rfl (fun _ e => by cases e)
  | fro ds => exact sq rfl (fun _ e => by cases e)
  | cell k => exact sq rfl (fun _ e => by cases e)
  | _ => exact p.elim
def CSim (G : Gx) (E : XK) (r : List V → Hp → VK → Prop) (g : List D → Sto → R D) : Prop :=
  ∀ ι H μ vs ds Q, SOk G ι H μ → Rels G ι H vs ds → Post G E ι H (g ds μ) Q → r vs H Q
theorem r1_of {vs : List V} (r : Rels G ι H vs [x]) : ∃ v, vs = [v] ∧ Rel G ι H v x := by
  obtain ⟨v, r', rfl, h1, h2⟩ := rels_cons_iff.mp r
  rw [rels_nil_iff.mp h2]
  exact ⟨v, rfl, h1⟩
theorem r2_of {vs : List V} (r : Rels G ι H vs [x, y]) : ∃ v w, vs = [v, w] ∧ Rel G ι H v x ∧ Rel G ι H w y := by
  obtain ⟨v, r', rfl, h1, h2⟩ := rels_cons_iff.mp r
  obtain ⟨w, rfl, h3⟩ := r1_of h2
  exact ⟨v, w, rfl, h1, h3⟩
theorem optR_ok {α : Type} {o : Option α} {f : α → D} (p : Post G E ι H (optR o μ f) Q) : ∃ a, o = some a ∧ Post G E ι H (.ok (f a) μ) Q := by
  cases o with
  | none => exact p.elim
  | some a => exact ⟨a, rfl, p⟩
theorem bools_V : ∀ {ds : List D} {vs : List V} {bs : List Bool}, Rels G ι H vs ds → bools ds = some bs → vs = bs.map V.bl
  | [], vs, _, r, e => by
    cases e
    exact rels_nil_iff.mp r
  | d :: ds, vs, bs, r, e => by
    obtain ⟨v, r', rfl, h1, h2⟩ := rels_cons_iff.mp r
    cases d with
    | bl b =>
      cases h : bools ds with
      | none => simp [bools, h] at e
      | some cs =>
        simp only [bools, h, Option.map_some, Option.some.injEq] at e
        subst e
        cases h1
        rw [List.map_cons, bools_V h2 h]
    | _ => cases e
theorem ints_V : ∀ {ds : List D} {vs : List V} {bs : List Int}, Rels G ι H vs ds → intsD ds = some bs → vs = bs.map V.int
  | [], vs, _, r, e => by
    cases e
    exact rels_nil_iff.mp r
  | d :: ds, vs, bs, r, e => by
    obtain ⟨v, r', rfl, h1, h2⟩ := rels_cons_iff.mp r
    cases d with
    | int b =>
      cases h : intsD ds with
      | none => simp [intsD, h] at e
      | some cs =>
        simp only [intsD, h, Option.map_some, Option.some.injEq] at e
        subst e
        cases h1
        rw [List.map_cons, ints_V h2 h]
    | _ => cases e
theorem strs_V : ∀ {ds : List D} {vs : List V} {bs : List Str}, Rels G ι H vs ds → strsD ds = some bs → vs = bs.map V.str
  | [], vs, _, r, e => by
    cases e
    exact rels_nil_iff.mp r
  | d :: ds, vs, bs, r, e => by
    obtain ⟨v, r', rfl, h1, h2⟩ := rels_cons_iff.mp r
    cases d with
    | str b =>
      cases h : strsD ds with
      | none => simp [strsD, h] at e
      | some cs =>
        simp only [strsD, h, Option.map_some, Option.some.injEq] at e
        subst e
        cases h1
        rw [List.map_cons, strs_V h2 h]
    | _ => cases e
theorem lst_bind {α : Type} {f : List D → Option α} {a : α} (S : SOk G ι H μ) (r : Rel G ι H v x) (e : (lstOf μ x).bind f = some a) : ∃ p vs ds, v = .ref p ∧ H p = some (.lst vs) ∧ Rels G ι H vs ds ∧ f ds = some a := by
  cases h : lstOf μ x with
  | none => simp [h] at e
  | some ds =>
    simp only [h, Option.bind_some] at e
    obtain ⟨p, vs, h1, h2, h3, _⟩ := lst_ok S r h
    exact ⟨p, vs, ds, h1, h2, h3, e⟩
def rLenA (K : PySem.W.Frag) : List V → Hp → VK → Prop := fun xs H Q => (∃ x n, xs = [x] ∧ LenV K x H n ∧ Q (.int n) H) ∨ ∃ a kvs, xs = [.ref a] ∧ Rd H a (.dK kvs) ∧ Q (.int kvs.length) H
theorem call_lenRd {X : Cx} : CallR X (.builtin "len") (fun xs H Q => ∃ a kvs, xs = [V.ref a] ∧ Rd H a (.dK kvs) ∧ Q (.int kvs.length) H) := by
  intro pins s σ H xs us Q I r h
  obtain ⟨a, kvs, rfl, ha, q⟩ := h
  obtain ⟨u, rfl, ru⟩ := vals1 r
  cases ru
  exact d_len I ha fun t s' I' => ⟨.int kvs.length, H, I', ⟨t, rfl⟩, q⟩
theorem or_len {X : Cx} : CallR X (.builtin "len") (rLenA X.K) := CallR.or call_len call_lenRd
theorem one_arg' {b : BI} {r : List V → Hp → VK → Prop} (h0 : ∀ ds μ, (∀ x, ds ≠ [x]) → biD b ds μ = .bad)
    (h : ∀ ι H μ v x Q, SOk G ι H μ → Rel G ι H v x → Post G E ι H (biD b [x] μ) Q → r [v] H Q) : CSim G E r (biD b) := by
  intro ι H μ vs ds Q S r1 p
  by_cases hx : ∃ x, ds = [x]
  · obtain ⟨x, rfl⟩ := hx
    obtain ⟨v, rfl, r2⟩ := r1_of r1
    exact h ι H μ v x Q S r2 p
  · rw [h0 ds μ fun x e => hx ⟨x, e⟩] at p
    exact p.elim
theorem two_arg' {b : BI} {r : List V → Hp → VK → Prop} (h0 : ∀ ds μ, (∀ x y, ds ≠ [x, y]) → biD b ds μ = .bad)
    (h : ∀ ι H μ v w x y Q, SOk G ι H μ → Rel G ι H v x → Rel G ι H w y → Post G E ι H (biD b [x, y] μ) Q → r [v, w] H Q) : CSim G E r (biD b) := by
  intro ι H μ vs ds Q S r1 p
  by_cases hx : ∃ x y, ds = [x, y]
  · obtain ⟨x, y, rfl⟩ := hx
    obtain ⟨v, w, rfl, r2, r3⟩ := r2_of r1
    exact h ι H μ v w x y Q S r2 r3 p
  · rw [h0 ds μ fun x y e => hx ⟨x, y, e⟩] at p
    exact p.elim
theorem sim_len : CSim G E (rLenA G.K) (biD .len) := by
  refine one_arg' (by intro ds μ h; unfold biD; split <;> first | rfl | exact absurd rfl (h _) | simp_all) fun ι H μ v x Q S r p => ?_
  have sq : Post G E ι H (optR (seqOf μ x) μ fun ds => .int ds.length) Q → rLenA G.K [v] H Q := fun p => by
    obtain ⟨ds, e, p⟩ := optR_ok p
    obtain ⟨q, vs, rfl, h1, h2, _⟩ := seq_ok S r e
    have z := Post.val (v := V.int ds.length) p S rfl
    rw [← h2.len] at z
    refine .inl ⟨_, _, rfl, ?_, z⟩
    rcases h1 with h1 | h1
    · exact .inl ⟨vs, h1, rfl⟩
    · exact .inr ⟨vs, h1, rfl⟩
  cases x with
  | str z =>
    cases r
    obtain ⟨hf, p⟩ := ite_ok (show Post G E ι H (if fits z.length = true then R.ok (.int z.length) μ else .bad) Q from p)
    exact .inl ⟨_, z.length, rfl, ⟨fits_iff.mp hf, rfl⟩, Post.val p S rfl⟩
  | dic ks ds =>
    obtain ⟨a, vs, rfl, ⟨h1, _⟩, h2, h3, _⟩ := r
    have z := Post.val (v := V.int ks.length) p S rfl
    refine .inr ⟨a, _, rfl, h1, ?_⟩
    rw [List.length_zip, h2.len, ← h3, Nat.min_self]
    exact z
  | _ => exact sq p
theorem sim_abs : CSim G E (fun xs H Q => ∃ i, xs = [.int i] ∧ Q (.int (if i < 0 then -i else i)) H) (biD .abs) := by
  refine one_arg' (by intro ds μ h; unfold biD; split <;> first | rfl | exact absurd rfl (h _) | simp_all) fun ι H μ v x Q S r p => ?_
  cases x with
  | int i =>
    cases r
    exact ⟨i, rfl, Post.val p S rfl⟩
  | _ => exact p.elim
def rShow (K : PySem.W.Frag) : List V → Hp → VK → Prop := fun xs H Q => ∃ v q, xs = [v] ∧ Dp K H v q ∧ q.showable = true ∧ q.hasDict = false ∧ q.depth ≤ 60 ∧ q.shown.length ≤ sizeLine ∧ Q (.str q.shown) H
theorem cr_show {X : Cx} (gd : X.A.guards = some []) (hu : X.A.units + 65 < cLine) : CallR X (.builtin "repr") (rShow X.K) := by
  intro pins s σ H xs us Q I r h
  obtain ⟨v, q, rfl, hd, h1, h2, h3, h4, hq⟩ := h
  obtain ⟨u, rfl, ru⟩ := vals1 r
  obtain ⟨as, rr⟩ := Dp.reads I q v u hd ru
  cases hd with
  | non =>
    cases ru
    exact PySem.P.repr_of_none ⟨.str _, H, I.tok _, ⟨_, rfl⟩, hq⟩
  | bl b =>
    cases ru
    exact PySem.P.repr_of_bool ⟨.str _, H, I.tok _, ⟨_, rfl⟩, by cases b <;> exact hq⟩
  | int i =>
    obtain ⟨t, rfl⟩ := ru
    exact PySem.P.repr_of_int (of_decide_eq_true (show decide (i.natAbs.log2 < 1920) = true from h1)) ⟨.str _, H, I.tok _, ⟨_, rfl⟩, hq⟩
  | str x =>
    obtain ⟨t, rfl⟩ := ru
    exact PySem.P.repr_of_str ⟨.str _, H, I.tok _, ⟨_, rfl⟩, hq⟩ h4
  | lst hs ha =>
    cases ru
    exact repr_of_reads' rr h1 (PyData.noDict_hsm h2) gd (by omega) (fun _ _ e => e) (fun h' u tk hk => ⟨.str _, H, I.kept fun b o eo => hk b o eo, ⟨_, rfl⟩, hq⟩) h4
  | tup hs ha =>
    cases ru
    exact repr_of_reads' rr h1 (PyData.noDict_hsm h2) gd (by omega) (fun _ _ e => e) (fun h' u tk hk => ⟨.str _, H, I.kept fun b o eo => hk b o eo, ⟨_, rfl⟩, hq⟩) h4
theorem sim_repr : CSim G E (rShow G.K) (biD .repr) := by
  refine one_arg' (by intro ds μ h; unfold biD; split <;> first | rfl | exact absurd rfl (h _) | simp_all) fun ι H μ v x Q S r p => ?_
  have key : Post G E ι H (match toPyC μ x with
    | some q => if q.showable && !q.hasDict && decide (q.depth ≤ 60) && fits q.shown.length then .ok (.str q.shown) μ else .bad
    | none => .bad) Q → rShow G.K [v] H Q := fun p => by
    cases e : toPyC μ x with
    | none =>
      rw [e] at p
      exact p.elim
    | some q =>
      simp only [e] at p
      obtain ⟨hc, p⟩ := ite_ok p
      simp only [Bool.and_eq_true, decide_eq_true_eq] at hc
      exact ⟨v, q, rfl, toPyC_ok S r e, hc.1.1.1, by simpa using hc.1.1.2, hc.1.2, fits_iff.mp hc.2, Post.val p S rfl⟩
  cases x with
  | bl b => exact ⟨v, .bool b, rfl, toPyC_ok S r rfl, rfl, rfl, Nat.zero_le _, by
      cases b
      · exact fits_iff.mp (by decide +kernel)
      · exact fits_iff.mp (by decide +kernel), by
      cases b
      · exact Post.val p S rfl
      · exact Post.val p S rfl⟩
  | _ => exact key p
theorem sim_all : CSim G E (rAll G.K) (biD .all) := by
  refine one_arg' (by intro ds μ h; unfold biD; split <;> first | rfl | exact absurd rfl (h _) | simp_all) fun ι H μ v x Q S r p => ?_
  obtain ⟨bs, e, p⟩ := optR_ok p
  obtain ⟨q, vs, ds, rfl, h1, h2, h3⟩ := lst_bind S r e
  rw [bools_V h2 h3] at h1
  exact ⟨q, bs, rfl, SqL.of h1, Post.val p S rfl⟩
theorem sim_any : CSim G E (rAny G.K) (biD .any) := by
  refine one_arg' (by intro ds μ h; unfold biD; split <;> first | rfl | exact absurd rfl (h _) | simp_all) fun ι H μ v x Q S r p => ?_
  obtain ⟨bs, e, p⟩ := optR_ok p
  obtain ⟨q, vs, ds, rfl, h1, h2, h3⟩ := lst_bind S r e
  rw [bools_V h2 h3] at h1
  exact ⟨q, bs, rfl, SqL.of h1, Post.val p S rfl⟩
def rSumA (K : PySem.W.Frag) : List V → Hp → VK → Prop := fun vs H Q => ∃ (a : Addr) (ns : List Int), vs = [V.ref a] ∧ (SqL K H a (ns.map V.int) ∨ SqT K H a (ns.map V.int)) ∧ Q (.int ns.sum) H
theorem sum_rawT {prog : Program} {w : World} {A : Around} {E : Value → Shared → Prop} {s : Shared} {l : Addr} {its : List Value} {ns : List Int} {Q : Value → Shared → Prop} (hh : A.handled = none) (hl : s.heap.IsTuple l its.toArray) (hi : IntsAre its ns)
    (h : ∀ h' tk t', (∀ b o, s.heap.get? b = some o → h'.get? b = some o) → Q (.int ns.sum t') { s with heap := h', toks := tk }) : wpAny (model prog w) A (call (.builtin "sum") [.ref l]) Q E s := by
  obtain ⟨xs, e⟩ := hi.allInts.items
  have hn : numsOf (intItems xs).toList = ns := by rw [← e]; exact hi.numsOf
  rw [nums_intItems] at hn
  rw [e] at hl
  have hlt : l < s.heap.objs.size := by
    obtain ⟨o, ho, _⟩ := id hl
    exact Heap.lt_size ho
  refine call_sum_walkG (wpAny_pyIter_tuple hl ?_)
  refine ⟨_, [_, l], [_], _, _, _, numAt xs, rfl, Walks.tuple (A := A.in1) hh _ l (Nat.ne_of_lt hlt) (intItems xs), ⟨⟨_, Heap.get?_push_size _ rfl, rfl, rfl⟩, hl.at fun o q => Heap.get?_push_of_some _ q⟩, fun b hb => ?_, (fun _ _ => intItems_at), fun h' tk t' hk => ?_⟩
  · have hb : b = s.heap.objs.size ∨ b = l := by simpa using hb
    show b < (s.heap.push _).objs.size
    rw [Heap.size_push]
    rcases hb with rfl | rfl
    · exact Nat.lt_succ_self _
    · exact Nat.lt_succ_of_lt hlt
  · have := h h' tk t' fun b o q => hk b o (by
      have : b < s.heap.objs.size := Heap.lt_size q
      simp only [List.mem_singleton]
      exact Nat.ne_of_lt this) (Heap.get?_push_of_some _ q)
    have e2 : preSum (numAt xs) (intItems xs).size = ns.sum := by
      rw [preSum_eq, List.take_of_length_le (by simp [intItems]), hn]
    rw [e2]
    exact this
theorem cr_sumA {X : Cx} (hc : X.calm = true) : CallR X (.builtin "sum") (rSumA X.K) := by
  intro pins s σ H vs us Q I r h
  obtain ⟨a, ns, rfl, hs | hs, q⟩ := h
  · obtain ⟨its, rv, hl, _⟩ := I.list hs
    rw [Vals.ref1 r]
    exact sum_raw (I.ok.hd hc) hl.isList rv.ints fun h' tk t' hk => ⟨.int _, H, I.kept hk, ⟨_, rfl⟩, q⟩
  · obtain ⟨its, rv, hl, _⟩ := I.tuple hs
    rw [Vals.ref1 r]
    exact sum_rawT (I.ok.hd hc) (show s.heap.IsTuple a its.toArray from hl) rv.ints fun h' tk t' hk => ⟨.int _, H, I.kept hk, ⟨_, rfl⟩, q⟩
theorem sim_sum : CSim G E (rSumA G.K) (biD .sum) := by
  refine one_arg' (by intro ds μ h; unfold biD; split <;> first | rfl | exact absurd rfl (h _) | simp_all) fun ι H μ v x Q S r p => ?_
  have lst : (∃ bs, (lstOf μ x).bind intsD = some bs ∧ Post G E ι H (.ok (.int bs.sum) μ) Q) → rSumA G.K [v] H Q := by
    rintro ⟨bs, e, p⟩
    obtain ⟨q, vs, ds, rfl, h1, h2, h3⟩ := lst_bind S r e
    rw [ints_V h2 h3] at h1
    exact ⟨q, bs, rfl, .inl (SqL.of h1), Post.val p S rfl⟩
  have key : ∀ x : D, (∀ ds, x ≠ .tup ds) → biD .sum [x] μ = optR ((lstOf μ x).bind intsD) μ fun ns => .int ns.sum := fun x hx => by
    cases x <;> first | rfl | exact absurd rfl (hx _)
  by_cases ht : ∃ ds, x = .tup ds
  · obtain ⟨ds, rfl⟩ := ht
    obtain ⟨bs, e, p⟩ := optR_ok (show Post G E ι H (optR (intsD ds) μ fun ns => .int ns.sum) Q from p)
    obtain ⟨q, vs, rfl, h1, h2, h3⟩ := tup_ok (id r)
    rw [ints_V h2 e] at h1
    exact ⟨q, bs, rfl, .inr h1, Post.val p S rfl⟩
  · rw [key x fun ds e => ht ⟨ds, e⟩] at p
    obtain ⟨bs, e, p⟩ := optR_ok p
    exact lst ⟨bs, e, p⟩
theorem sim_int1 : CSim G E (fun xs H Q => (∃ i, xs = [.int i] ∧ Q (.int i) H) ∨ ∃ k, xs = [.bl k] ∧ Q (.int (if k then 1 else 0)) H) (biD .int) := by
  refine one_arg' (by intro ds μ h; unfold biD; split <;> first | rfl | exact absurd rfl (h _) | simp_all) fun ι H μ v x Q S r p => ?_
  cases x with
  | int i =>
    cases r
    exact .inl ⟨i, rfl, Post.val p S rfl⟩
  | bl i =>
    cases r
    exact .inr ⟨i, rfl, Post.val p S rfl⟩
  | _ => exact p.elim
theorem sim_bool1 : CSim G E (fun xs H Q => (∃ i, xs = [.int i] ∧ Q (.bl (i != 0)) H) ∨ ∃ k, xs = [.bl k] ∧ Q (.bl k) H) (biD .bool) := by
  refine one_arg' (by intro ds μ h; unfold biD; split <;> first | rfl | exact absurd rfl (h _) | simp_all) fun ι H μ v x Q S r p => ?_
  cases x with
  | int i =>
    cases r
    exact .inl ⟨i, rfl, Post.val p S rfl⟩
  | bl i =>
    cases r
    exact .inr ⟨i, rfl, Post.val p S rfl⟩
  | _ => exact p.elim
def rTupOf (K : PySem.W.Frag) : List V → Hp → VK → Prop := fun xs H Q => ∃ p ys, xs = [.ref p] ∧ ((SqL K H p ys ∧ ∀ l, H l = none → Q (.ref l) (upd H l (.tup ys))) ∨ (SqT K H p ys ∧ Q (.ref p) H))
theorem sim_tupOf : CSim G E (rTupOf G.K) (biD .tuple) := by
  refine one_arg' (by intro ds μ h; unfold biD; split <;> first | rfl | exact absurd rfl (h _) | simp_all) fun ι H μ v x Q S r p => ?_
  have sq : (∃ q vs ds, v = .ref q ∧ SqL G.K H q vs ∧ Rels G ι H vs ds ∧ vs.length ≤ sizeLine ∧ Post G E ι H (.ok (.tup ds) μ) Q) → rTupOf G.K [v] H Q := by
    rintro ⟨q, vs, ds, rfl, h1, h2, h3, p⟩
    exact ⟨q, vs, rfl, .inl ⟨h1, fun l hl => Post.newT p S hl h2 h3⟩⟩
  cases x with
  | tup ds =>
    obtain ⟨q, vs, rfl, h1, h2, h3⟩ := tup_ok (id r)
    exact ⟨q, vs, rfl, .inr ⟨h1, Post.val p S r⟩⟩
  | lst ds =>
    obtain ⟨q, vs, h0, h1, h2, h3⟩ := lst_ok S r (ds := ds) rfl
    exact sq ⟨q, vs, ds, h0, SqL.of h1, h2, h3, p⟩
  | fro ds =>
    obtain ⟨q, vs, h0, h1, h2⟩ := r
    exact sq ⟨q, vs, ds, h0, h1.sq, h2, h1.1, p⟩
  | cell k =>
    obtain ⟨ds, e, p⟩ := optR_ok (show Post G E ι H (optR (seqOf μ (.cell k)) μ .tup) Q from p)
    obtain ⟨q, vs, h0, h1, h2, h3⟩ := lst_ok S r (ds := ds) e
    exact sq ⟨q, vs, ds, h0, SqL.of h1, h2, h3, p⟩
  | _ => exact p.elim
def rLstOf (K : PySem.W.Frag) : List V → Hp → VK → Prop := fun xs H Q => ∃ p ys, xs = [.ref p] ∧ (SqL K H p ys ∨ SqT K H p ys) ∧ ∀ l, H l = none → Q (.ref l) (upd H l (.lst ys))
theorem sim_lstOf : CSim G E (rLstOf G.K) (biD .list) := by
  refine one_arg' (by intro ds μ h; unfold biD; split <;> first | rfl | exact absurd rfl (h _) | simp_all) fun ι H μ v x Q S r p => ?_
  obtain ⟨ds, e, p⟩ := optR_ok p
  obtain ⟨q, vs, rfl, h1, h2, h3⟩ := seq_ok S r e
  exact ⟨q, vs, rfl, h1, fun l hl => Post.newL p S hl h2 h3⟩
theorem sim_clstOf : CSim G E (rLstOf G.K) (biD .clist) := by
  refine one_arg' (by intro ds μ h; unfold biD; split <;> first | rfl | exact absurd rfl (h _) | simp_all) fun ι H μ v x Q S r p => ?_
  cases e : seqOf μ x with
  | none =>
    simp only [biD, e] at p
    exact p.elim
  | some ds =>
    simp only [biD, e] at p
    obtain ⟨q, vs, rfl, h1, h2, h3⟩ := seq_ok S r e
    exact ⟨q, vs, rfl, h1, fun l hl => Post.newC p S hl h2 h3⟩
theorem sim_max2 : CSim G E (fun xs H Q => ∃ i j, xs = [.int i, .int j] ∧ Q (.int (if j > i then j else i)) H) (biD .max2) := by
  refine two_arg' (by intro ds μ h; unfold biD; split <;> first | rfl | exact absurd rfl (h _ _) | simp_all) fun ι H μ v w x y Q S r1 r2 p => ?_
  cases x with
  | int i => cases y with
    | int j =>
      cases r1
      cases r2
      exact ⟨i, j, rfl, Post.val p S rfl⟩
    | _ => exact p.elim
  | _ => exact p.elim
theorem sim_min2 : CSim G E (fun xs H Q => ∃ i j, xs = [.int i, .int j] ∧ Q (.int (if j < i then j else i)) H) (biD .min2) := by
  refine two_arg' (by intro ds μ h; unfold biD; split <;> first | rfl | exact absurd rfl (h _ _) | simp_all) fun ι H μ v w x y Q S r1 r2 p => ?_
  cases x with
  | int i => cases y with
    | int j =>
      cases r1
      cases r2
      exact ⟨i, j, rfl, Post.val p S rfl⟩
    | _ => exact p.elim
  | _ => exact p.elim
theorem sim_divmod : CSim G E (fun xs H Q => ∃ i j, xs = [.int i, .int j] ∧ CDiv i j ∧ ∀ p, H p = none → Q (.ref p) (upd H p (.tup [.int (i / j), .int (i % j)]))) (biD .divmod) := by
  refine two_arg' (by intro ds μ h; unfold biD; split <;> first | rfl | exact absurd rfl (h _ _) | simp_all) fun ι H μ v w x y Q S r1 r2 p => ?_
  cases x with
  | int i => cases y with
    | int j =>
      cases r1
      cases r2
      obtain ⟨hf, p⟩ := ite_ok (show Post G E ι H (if (decide (0 < j) && decide (j < 1073741824)) = true then R.ok (.tup [.int (i / j), .int (i % j)]) μ else .bad) Q from p)
      rw [Bool.and_eq_true] at hf
      exact ⟨i, j, rfl, ⟨of_decide_eq_true hf.1, of_decide_eq_true hf.2⟩, fun q hq => Post.newT p S hq (by simp [Rel]) (by show 2 ≤ sizeLine; decide)⟩
    | _ => exact p.elim
  | _ => exact p.elim
def tyS : List String := ["NoneType", "bool", "int", "str", "tuple", "list", "dict"]
theorem kit_all : (tyS.all fun t => tyS.all fun T => kitB t T == some (isTy t T)) = true := by decide +kernel
theorem kit_isTy {t T : String} (h1 : t ∈ tyS) (h2 : T ∈ tyS) : kitB t T = some (isTy t T) := by
  have h := List.all_eq_true.mp (List.all_eq_true.mp kit_all t h1) T h2
  exact beq_iff_eq.mp h
theorem ty_X (S : SOk G ι H μ) (r : Rel G ι H v x) {t : String} (e : tyOf μ x = some t) : TyX G.K H v (.type t) ∧ t ∈ tyS := by
  cases x with
  | non =>
    cases r
    cases e
    exact ⟨.base .non, by decide⟩
  | bl b =>
    cases r
    cases e
    exact ⟨.base (.bl b), by decide⟩
  | int b =>
    cases r
    cases e
    exact ⟨.base (.int b), by decide⟩
  | str b =>
    cases r
    cases e
    exact ⟨.base (.str b), by decide⟩
  | tup ds =>
    cases e
    obtain ⟨p, vs, rfl, ⟨_, h⟩, _⟩ := r
    refine ⟨?_, by decide⟩
    rcases h with ⟨h | ⟨o, h⟩, _⟩ | ⟨o, its, n, h1, h2, _⟩
    · exact .base (.tup h)
    · exact .fTuple h
    · exact .kTuple h1 h2
  | lst ds =>
    cases e
    obtain ⟨p, vs, rfl, ⟨_, h, _⟩, _⟩ := r
    exact ⟨.base (.lst h), by decide⟩
  | fro ds =>
    cases e
    obtain ⟨p, vs, rfl, ⟨_, h⟩, _⟩ := r
    refine ⟨?_, by decide⟩
    rcases h with ⟨h | ⟨o, h⟩, _⟩ | ⟨o, its, n, h1, h2, _⟩
    · exact .base (.lst h)
    · exact .base (.frz h)
    · exact .kList h1 h2
  | dic ks ds =>
    cases e
    obtain ⟨p, vs, rfl, ⟨h, _⟩, _⟩ := r
    rcases h with h | ⟨o, h⟩
    · exact ⟨.base (.dK h), by decide⟩
    · exact ⟨.fDict h, by decide⟩
  | cell k =>
    unfold tyOf at e
    cases hk : μ[k]? with
    | none => simp [hk] at e
    | some c =>
      obtain ⟨a, h1, rfl⟩ := r
      obtain ⟨b, h2, h3⟩ := S.at_ k c hk
      rw [h1] at h2
      cases h2
      cases c with
      | lst ds =>
        simp [hk] at e
        subst e
        obtain ⟨vs, h, _⟩ := h3
        exact ⟨.base (.lst h), by decide⟩
      | dic ks ds =>
        simp [hk] at e
        subst e
        obtain ⟨vs, h, _⟩ := h3
        exact ⟨.base (.dK h), by decide⟩
      | ins C fs ds => simp [hk] at e
  | _ => cases e
def rIsTy (K : PySem.W.Frag) (T : String) : List V → Hp → VK → Prop := fun xs H Q => ∃ x, xs = [x] ∧ rIsi K [x, .ty T] H Q
theorem sim_isty {T : String} (hT : T ∈ tyS) : CSim G E (rIsTy G.K T) (biD (.isty T)) := by
  refine one_arg' (by intro ds μ h; unfold biD; split <;> first | rfl | exact absurd rfl (h _) | simp_all) fun ι H μ v x Q S r p => ?_
  obtain ⟨t, e, p⟩ := optR_ok p
  obtain ⟨h1, h2⟩ := ty_X S r e
  exact ⟨v, rfl, v, .ty T, .type t, .type T, isTy t T, rfl, .ty T, h1, kit_ty (kit_isTy h2 hT), Post.val p S rfl⟩
theorem pairs_ok : ∀ {ds : List D} {vs : List V} {ks : List Key} {es : List D}, Rels G ι H vs ds → pairs ds = some (ks, es) →
    ∃ (ps : List Addr) (ws : List V), vs = ps.map V.ref ∧ Paired (fun p kv => SqT G.K H p [kV kv.1, kv.2]) ps (ks.zip ws) ∧ Rels G ι H ws es ∧ ks.length = es.length ∧ ks.Nodup
  | [], vs, _, _, r, e => by
    cases e
    rw [rels_nil_iff.mp r]
    exact ⟨[], [], rfl, .nil, by simp, rfl, by simp⟩
  | d :: ds, vs, ks, es, r, e => by
    obtain ⟨v, r', rfl, h1, h2⟩ := rels_cons_iff.mp r
    unfold pairs at e
    split at e
    · cases ‹d :: ds = []›
    · rename_i kd dd rr heq
      cases heq
      cases hk : keyD kd with
      | none => simp [hk] at e
      | some k =>
        cases hp : pairs ds with
        | none => simp [hk, hp] at e
        | some q =>
          obtain ⟨ks', es'⟩ := q
          simp only [hk, hp] at e
          by_cases hany : (ks'.any fun j => decide (j = k)) = true
          · rw [if_pos hany] at e
            cases e
          · rw [if_neg hany] at e
            cases e
            obtain ⟨ps, ws, rfl, hp2, hr2, hl, hn⟩ := pairs_ok h2 hp
            obtain ⟨p, us, rfl, g1, g2⟩ := h1
            obtain ⟨u1, us', rfl, g3, g4⟩ := rels_cons_iff.mp g2
            obtain ⟨u2, rfl, g5⟩ := r1_of g4
            have g6 := key_V g3 hk
            subst g6
            refine ⟨p :: ps, u2 :: ws, rfl, .cons g1.sq hp2, by rw [rels_cons]; exact ⟨g5, hr2⟩, by simp [hl], ?_⟩
            rw [List.nodup_cons]
            refine ⟨fun m => hany ?_, hn⟩
            rw [List.any_eq_true]
            exact ⟨k, m, by simp⟩
    · cases e
theorem merge_nodup : ∀ (more acc : List (Key × V)), ((acc ++ more).map (·.1)).Nodup → mergeK acc more = acc ++ more
  | [], acc, _ => by simp [mergeK]
  | kv :: more, acc, h => by
    have hk : valV acc kv.1 = none := by
      cases e : valV acc kv.1 with
      | none => rfl
      | some u =>
        exfalso
        unfold valV at e
        cases hf : acc.find? (fun z => decide (z.1 = kv.1)) with
        | none => simp [hf] at e
        | some z =>
          have m := List.mem_of_find?_eq_some hf
          have q := List.find?_some hf
          simp only [decide_eq_true_eq] at q
          rw [List.map_append, List.nodup_append] at h
          exact h.2.2 z.1 (List.mem_map.mpr ⟨z, m, rfl⟩) kv.1 (by simp) q
    show mergeK (putK acc kv.1 kv.2) more = _
    rw [putK_new _ hk, merge_nodup more _ (by simpa using h)]
    simp
def rDictP (K : PySem.W.Frag) : List V → Hp → VK → Prop := fun xs H Q => ∃ (a : Addr) (ps : List Addr) (kvs : List (Key × V)), xs = [.ref a] ∧ SqL K H a (ps.map V.ref) ∧ Paired (fun p kv => SqT K H p [kV kv.1, kv.2]) ps kvs ∧
    ∀ p, H p = none → Q (.ref p) (upd H p (.dK (mergeK [] kvs)))
theorem sim_dict : CSim G E (rDictP G.K) (biD .dict) := by
  refine one_arg' (by intro ds μ h; unfold biD; split <;> first | rfl | exact absurd rfl (h _) | simp_all) fun ι H μ v x Q S r p => ?_
  obtain ⟨⟨ks, es⟩, e, p⟩ := optR_ok p
  obtain ⟨q, vs, ds, rfl, h1, h2, h3⟩ := lst_bind S r e
  obtain ⟨ps, ws, rfl, g1, g2, g3, g4⟩ := pairs_ok h2 h3
  refine ⟨q, ps, ks.zip ws, rfl, SqL.of h1, g1, fun n hn => ?_⟩
  rw [merge_nodup _ _ (by
    rw [List.nil_append, List.map_fst_zip]
    · exact g4
    · rw [g2.len, g3]
      exact Nat.le_refl _), List.nil_append]
  exact p _ _ ι (Ext.new hn) (S.new hn) ⟨n, ws, rfl, ⟨.inl upd_same, S.fresh hn⟩, Rels.ext (Ext.new hn) _ _ g2, g3, g4⟩
end
end T
namespace T
open PySem PySem.Spec PyProof.Rows L2
section
variable {G : Gx} {E : XK}
abbrev le2 {α : Type} : α × PyData → α × PyData → Bool := PySem.W.dataLe false fun z => z.2
def rSortD (K : PySem.W.Frag) : List V → Hp → VK → Prop := fun xs H Q => ∃ (a : Addr) (vs : List V) (qs : List PyData), xs = [.ref a] ∧ SqL K H a vs ∧ DpAll K H vs qs ∧ alikes qs = true ∧ sortableB qs = true ∧ qs.all (fun q => decide (q.depth ≤ 60)) = true ∧
  ∀ p, H p = none → Q (.ref p) (upd H p (.lst (((vs.zip qs).mergeSort le2).map (·.1))))
theorem dpAll_len {K : PySem.W.Frag} {H : Hp} : ∀ {vs : List V} {qs : List PyData}, DpAll K H vs qs → vs.length = qs.length
  | _, _, .nil => rfl
  | _, _, .cons _ h => congrArg Nat.succ (dpAll_len h)
theorem each_vals : ∀ {vs : List V} {us : List Value} {qs : List PyData}, vs.length = qs.length → Vals vs us → PySem.W.EachIs (fun u (b : V × PyData) => RelV b.1 u) us (vs.zip qs)
  | _, _, _, _, .nil => .nil
  | _, _, [], h, .cons _ _ => by cases h
  | _, _, q :: qs, h, .cons r rs => .cons r (each_vals (Nat.succ.inj h) rs)
theorem each_reads {X : Cx} {pins : List (Addr × Obj)} {σ : L2.St} {H : Hp} {s : Shared} (I : Inv X pins σ H s) : ∀ {vs : List V} {us : List Value} {qs : List PyData}, DpAll X.K H vs qs → Vals vs us → PySem.W.EachIs (fun u (b : V × PyData) => ∃ as, Reads s.heap u b.2 as) us (vs.zip qs)
  | _, _, _, .nil, .nil => .nil
  | _, _, _, .cons h hs, .cons r rs => .cons (Dp.reads I _ _ _ h r) (each_reads I hs rs)
theorem vals_each : ∀ {us : List Value} {bs : List (V × PyData)}, PySem.W.EachIs (fun u (b : V × PyData) => RelV b.1 u) us bs → Vals (bs.map (·.1)) us
  | _, _, .nil => .nil
  | _, _, .cons r rs => .cons r (vals_each rs)
theorem zip_snd {α β : Type} : ∀ {as : List α} {bs : List β}, as.length = bs.length → (as.zip bs).map (·.2) = bs
  | [], [], _ => rfl
  | [], _ :: _, h => by cases h
  | _ :: _, [], h => by cases h
  | a :: as, b :: bs, h => by
    rw [List.zip_cons_cons, List.map_cons, zip_snd (Nat.succ.inj h)]
theorem cr_sortD {X : Cx} (hu : X.A.units + 65 < cLine) : CallR X (.builtin "sorted") (rSortD X.K) := by
  intro pins s σ H xs us Q I r h
  obtain ⟨a, vs, qs, rfl, hs, hd, h1, h2, h3, q⟩ := h
  obtain ⟨its, rv, hl, hz⟩ := I.list hs
  obtain ⟨u, rfl, ru⟩ := vals1 r
  obtain rfl : u = Value.ref a := ru
  have hlen := dpAll_len hd
  have e2 := zip_snd hlen
  have hal : PySem.W.AllAlike ((vs.zip qs).map (·.2)) := by
    rw [e2]
    exact fun d m d' m' => List.all_eq_true.mp (List.all_eq_true.mp h1 d m) d' m'
  have hk : PySem.W.Sortable ((vs.zip qs).map (·.2)) := by
    rw [e2]
    unfold sortableB at h2
    rw [Bool.or_eq_true] at h2
    rcases h2 with h2 | h2
    · refine .inl fun d m => ?_
      have := List.all_eq_true.mp h2 d m
      cases d with
      | tuple xs =>
        cases xs with
        | nil => cases this
        | cons x r => exact ⟨x, r, rfl⟩
      | _ => cases this
    · refine .inr fun d m => ?_
      have := List.all_eq_true.mp h2 d m
      cases d with
      | none => cases this
      | tuple xs => cases this
      | _ => exact ⟨by simp, fun xs e => by cases e⟩
  refine PySem.W.sorted_data (β := V × PyData) (enc := fun z => z.2) (bs := vs.zip qs) (R := fun u b => RelV b.1 u) hl.isList (each_vals hlen rv) (each_reads I hd rv) hal hk (by rw [List.length_zip]; omega) (fun b m => ?_) fun out hol he => ?_
  · have := of_decide_eq_true (List.all_eq_true.mp h3 b.2 (List.of_mem_zip m).2)
    omega
  · have hv := vals_each he
    obtain ⟨n, hn⟩ := sortedAll_at s.heap its out.toArray
    refine ⟨.ref (s.heap.objs.size + 1), upd H (s.heap.objs.size + 1) (.lst (((vs.zip qs).mergeSort le2).map (·.1))), I.laid (t' := s.toks) (fun b o e => sortedAll_old e) (Nat.le_succ _) ⟨?_, out, n, hv, hn⟩, rfl, q _ (I.hok.fresh (Nat.le_succ _))⟩
    rw [List.length_map, List.length_mergeSort, List.length_zip]
    omega
theorem rels_sort {ι : List Addr} {H : Hp} {vs : List V} {ds : List D} {qs : List PyData} (r : Rels G ι H vs ds) (hl : ds.length = qs.length) : Rels G ι H (((vs.zip qs).mergeSort le2).map (·.1)) (sortD ds qs) := by
  have e1 : ((vs.zip (ds.zip qs)).map fun z => (z.1, z.2.2)) = vs.zip qs := by
    have := r.len
    clear r
    induction vs generalizing ds qs with
    | nil => rfl
    | cons v vs ih =>
      cases ds with
      | nil => cases this
      | cons d ds =>
        cases qs with
        | nil => cases hl
        | cons q qs =>
          rw [List.zip_cons_cons, List.zip_cons_cons, List.map_cons, List.zip_cons_cons, ih (Nat.succ.inj hl) (Nat.succ.inj this)]
  have e2 : ((vs.zip (ds.zip qs)).map fun z => (z.2.1, z.2.2)) = ds.zip qs := by
    have := zip_snd (as := vs) (bs := ds.zip qs) (by rw [r.len, List.length_zip]; omega)
    exact this
  have s1 := PySem.W.sort_maps (r := fun (a b : V × (D × PyData)) => le2 (a.1, a.2.2) (b.1, b.2.2)) (s := le2) (fun z : V × (D × PyData) => (z.1, z.2.2)) (l := vs.zip (ds.zip qs)) fun a _ b _ => rfl
  have s2 := PySem.W.sort_maps (r := fun (a b : V × (D × PyData)) => le2 (a.1, a.2.2) (b.1, b.2.2)) (s := le2) (fun z : V × (D × PyData) => (z.2.1, z.2.2)) (l := vs.zip (ds.zip qs)) fun a _ b _ => rfl
  rw [e1] at s1
  rw [e2] at s2
  have hm : ∀ z ∈ vs.zip (ds.zip qs), Rel G ι H z.1 z.2.1 := by
    have hl2 := r.len
    clear e1 e2 s1 s2
    induction vs generalizing ds qs with
    | nil => exact fun z m => by cases m
    | cons v vs ih =>
      cases ds with
      | nil => cases hl2
      | cons d ds =>
        cases qs with
        | nil => cases hl
        | cons q qs =>
          rw [rels_cons] at r
          intro z m
          rw [List.zip_cons_cons, List.zip_cons_cons, List.mem_cons] at m
          rcases m with rfl | m
          · exact r.1
          · exact ih r.2 (Nat.succ.inj hl) (Nat.succ.inj hl2) z m
  unfold sortD
  rw [← s1]
  show Rels G ι H _ (((ds.zip qs).mergeSort le2).map (·.1))
  rw [← s2, List.map_map, List.map_map]
  have hp : ∀ z ∈ (vs.zip (ds.zip qs)).mergeSort (fun (a b : V × (D × PyData)) => le2 (a.1, a.2.2) (b.1, b.2.2)), Rel G ι H z.1 z.2.1 := fun z m => hm z ((List.mergeSort_perm _ _).mem_iff.mp m)
  generalize (vs.zip (ds.zip qs)).mergeSort (fun (a b : V × (D × PyData)) => le2 (a.1, a.2.2) (b.1, b.2.2)) = l at hp
  clear s1 s2 hm e1 e2
  induction l with
  | nil => simp
  | cons z l ih =>
    rw [List.map_cons, List.map_cons, rels_cons]
    exact ⟨hp z (by simp), ih fun y m => hp y (by simp [m])⟩
theorem toPys_len : ∀ {ds : List D} {qs : List PyData}, toPys ds = some qs → ds.length = qs.length
  | [], _, h => by
    cases h
    rfl
  | d :: ds, qs, h => by
    simp only [toPys, Option.bind_eq_some_iff, Option.map_eq_some_iff] at h
    obtain ⟨x, _, ys, e2, rfl⟩ := h
    rw [List.length_cons, List.length_cons, toPys_len e2]
theorem sim_sorted : CSim G E (rSortD G.K) (biD .sorted) := by
  refine one_arg' (by intro ds μ h; unfold biD; split <;> first | rfl | exact absurd rfl (h _) | simp_all) fun ι H μ v x Q S r p => ?_
  have p : Post G E ι H (match lstOf μ x with
    | some ds => (match toPys ds with
      | some qs => if alikes qs && sortableB qs && qs.all (fun q => decide (q.depth ≤ 60)) then .ok (.lst (sortD ds qs)) μ else .bad
      | none => .bad)
    | none => .bad) Q := p
  cases e : lstOf μ x with
  | none =>
    rw [e] at p
    exact p.elim
  | some ds =>
    obtain ⟨l, vs, rfl, h1, h2, h3⟩ := lst_ok S r e
    simp only [e] at p
    cases e2 : toPys ds with
    | none =>
      rw [e2] at p
      exact p.elim
    | some qs =>
      simp only [e2] at p
      obtain ⟨hc, p⟩ := ite_ok p
      simp only [Bool.and_eq_true] at hc
      have hl := toPys_len e2
      have hr := rels_sort (G := G) h2 hl
      refine ⟨l, vs, qs, rfl, SqL.of h1, toPys_ok ds vs qs h2 e2, hc.1.1, hc.1.2, hc.2, fun q hq => Post.newL p S hq hr ?_⟩
      rw [List.length_map, List.length_mergeSort, List.length_zip]
      have := h2.len
      omega
theorem fold_max : ∀ (ns : List Int) (n : Int), (ns.foldl (fun a b => if b > a then b else a) n) ∈ n :: ns ∧ ∀ y ∈ n :: ns, y ≤ ns.foldl (fun a b => if b > a then b else a) n
  | [], n => ⟨by simp, fun y h => by
    rw [List.mem_singleton] at h
    rw [h]
    exact Int.le_refl _⟩
  | m :: ns, n => by
    obtain ⟨h1, h2⟩ := fold_max ns (if m > n then m else n)
    rw [List.foldl_cons]
    generalize ns.foldl (fun a b => if b > a then b else a) (if m > n then m else n) = F at h1 h2 ⊢
    refine ⟨?_, fun y h => ?_⟩
    · rcases List.mem_cons.mp h1 with h | h
      · rw [h]
        split <;> simp
      · exact List.mem_cons_of_mem _ (List.mem_cons_of_mem _ h)
    · have h0 := h2 _ (List.mem_cons_self ..)
      rcases List.mem_cons.mp h with rfl | h
      · split at h0 <;> omega
      · rcases List.mem_cons.mp h with rfl | h
        · split at h0 <;> omega
        · exact h2 y (List.mem_cons_of_mem _ h)
theorem fold_min : ∀ (ns : List Int) (n : Int), (ns.foldl (fun a b => if b < a then b else a) n) ∈ n :: ns ∧ ∀ y ∈ n :: ns, ns.foldl (fun a b => if b < a then b else a) n ≤ y
  | [], n => ⟨by simp, fun y h => by
    rw [List.mem_singleton] at h
    rw [h]
    exact Int.le_refl _⟩
  | m :: ns, n => by
    obtain ⟨h1, h2⟩ := fold_min ns (if m < n then m else n)
    rw [List.foldl_cons]
    generalize ns.foldl (fun a b => if b < a then b else a) (if m < n then m else n) = F at h1 h2 ⊢
    refine ⟨?_, fun y h => ?_⟩
    · rcases List.mem_cons.mp h1 with h | h
      · rw [h]
        split <;> simp
      · exact List.mem_cons_of_mem _ (List.mem_cons_of_mem _ h)
    · have h0 := h2 _ (List.mem_cons_self ..)
      rcases List.mem_cons.mp h with rfl | h
      · split at h0 <;> omega
      · rcases List.mem_cons.mp h with rfl | h
        · split at h0 <;> omega
        · exact h2 y (List.mem_cons_of_mem _ h)
theorem sim_maxl : CSim G E (rMax G.K) (biD .maxl) := by
  refine one_arg' (by intro ds μ h; unfold biD; split <;> first | rfl | exact absurd rfl (h _) | simp_all) fun ι H μ v x Q S r p => ?_
  have p : Post G E ι H (match (lstOf μ x).bind intsD with
    | some (n :: ns) => .ok (.int (ns.foldl (fun a b => if b > a then b else a) n)) μ
    | _ => .bad) Q := p
  cases e : (lstOf μ x).bind intsD with
  | none =>
    rw [e] at p
    exact p.elim
  | some l =>
    cases l with
    | nil =>
      rw [e] at p
      exact p.elim
    | cons n ns =>
      obtain ⟨q, vs, ds, rfl, h1, h2, h3⟩ := lst_bind S r e
      rw [ints_V h2 h3] at h1
      rw [e] at p
      refine ⟨q, n :: ns, rfl, SqL.of h1, Nat.succ_pos _, fun m hm hy => ?_⟩
      obtain ⟨g1, g2⟩ := fold_max ns n
      have : m = ns.foldl (fun a b => if b > a then b else a) n := by
        have a := hy _ g1
        have b := g2 _ hm
        omega
      rw [this]
      exact Post.val p S rfl
theorem sim_minl : CSim G E (rMin G.K) (biD .minl) := by
  refine one_arg' (by intro ds μ h; unfold biD; split <;> first | rfl | exact absurd rfl (h _) | simp_all) fun ι H μ v x Q S r p => ?_
  have p : Post G E ι H (match (lstOf μ x).bind intsD with
    | some (n :: ns) => .ok (.int (ns.foldl (fun a b => if b < a then b else a) n)) μ
    | _ => .bad) Q := p
  cases e : (lstOf μ x).bind intsD with
  | none =>
    rw [e] at p
    exact p.elim
  | some l =>
    cases l with
    | nil =>
      rw [e] at p
      exact p.elim
    | cons n ns =>
      obtain ⟨q, vs, ds, rfl, h1, h2, h3⟩ := lst_bind S r e
      rw [ints_V h2 h3] at h1
      rw [e] at p
      refine ⟨q, n :: ns, rfl, SqL.of h1, Nat.succ_pos _, fun m hm hy => ?_⟩
      obtain ⟨g1, g2⟩ := fold_min ns n
      have : m = ns.foldl (fun a b => if b < a then b else a) n := by
        have a := hy _ g1
        have b := g2 _ hm
        omega
      rw [this]
      exact Post.val p S rfl
end
end T
namespace T
open PySem PySem.Spec PyProof.Rows L2
inductive Kd where
  | l (a : Addr) | t (a : Addr) | s (z : Str)
def Kd.v : Kd → V
  | .l a => .ref a | .t a => .ref a | .s z => .str z
def Kd.has (K : PySem.W.Frag) (H : Hp) (xs : List V) : Kd → Prop
  | .l a => SqL K H a xs
  | .t a => SqT K H a xs
  | .s z => xs = z.cps.toList.map fun c => V.str ⟨#[c]⟩
def Kd.fp : Kd → List Addr
  | .l a => [a] | .t a => [a] | .s _ => []
def Kd.it (it : Addr) (i : Nat) (h : Heap) : Kd → Prop
  | .l a => h.IsListIter it a i
  | .t a => h.IsTupleIter it a i
  | .s z => ∃ t, h.IsStrIter it (strIterType z) z t i
theorem Kd.it_obj {k : Kd} {it : Addr} {i : Nat} {h : Heap} (st : k.it it i h) : ∃ o, h.get? it = some o ∧ ∀ v, o.data ≠ .cell v := by
  cases k with
  | l a =>
    obtain ⟨o, e, _, d⟩ := st
    exact ⟨o, e, fun v z => by rw [d] at z; cases z⟩
  | t a =>
    obtain ⟨o, e, _, d⟩ := st
    exact ⟨o, e, fun v z => by rw [d] at z; cases z⟩
  | s z =>
    obtain ⟨t, o, e, _, d⟩ := st
    exact ⟨o, e, fun v z => by rw [d] at z; cases z⟩
theorem Kd.it_keep {k : Kd} {it : Addr} {i : Nat} {h h' : Heap} (st : k.it it i h) (q : ∀ o, h.get? it = some o → h'.get? it = some o) : k.it it i h' := by
  cases k with
  | l a =>
    obtain ⟨o, e, c, d⟩ := st
    exact ⟨o, q o e, c, d⟩
  | t a =>
    obtain ⟨o, e, c, d⟩ := st
    exact ⟨o, q o e, c, d⟩
  | s z =>
    obtain ⟨t, o, e, c, d⟩ := st
    exact ⟨t, o, q o e, c, d⟩
section
variable {X : Cx} {pins : List (Addr × Obj)} {σ : L2.St} {H : Hp} {s : Shared}
theorem Kd.draws {k : Kd} {it : Addr} {xs : List V} (I : Inv X pins σ H s) (hh : X.A.in1.handled = none) (hk : k.has X.K H xs) (hn : ∀ b ∈ k.fp, b ≠ it) {i₀ : Nat} (hi : k.it it i₀ s.heap) :
    ∃ (P : Nat → Value → Prop) (St : Nat → Heap → Prop), Draws X.prog X.w X.A.in1 it (it :: k.fp) xs.length P St ∧ St i₀ s.heap ∧ (∀ i h, St i h → k.it it i h) ∧ ∀ i u, P i u → ∃ x, xs[i]? = some x ∧ RelV x u := by
  cases k with
  | l a =>
    obtain ⟨its, rv, p, hz⟩ := I.list hk
    have D := Draws.list (prog := X.prog) (w := X.w) hh it a (hn a (by simp [Kd.fp])) its.toArray
    have e : its.toArray.size = xs.length := by rw [List.size_toArray, rv.length]
    rw [e] at D
    refine ⟨_, _, D, ⟨hi, p.isList⟩, fun i h st => st.1, fun i u hu => ?_⟩
    have hu : its.toArray[i]? = some u := hu
    rw [List.getElem?_toArray] at hu
    have hlt : i < xs.length := by
      rw [rv.length]
      exact (List.getElem?_eq_some_iff.mp hu).1
    obtain ⟨u', h1, h2⟩ := rv.get (show xs[i]? = some xs[i] by simp [hlt])
    rw [hu] at h1
    cases h1
    exact ⟨xs[i], by simp [hlt], h2⟩
  | t a =>
    obtain ⟨its, rv, p, hz⟩ := I.tuple hk
    have D := Draws.tuple (prog := X.prog) (w := X.w) hh it a (hn a (by simp [Kd.fp])) its.toArray
    have e : its.toArray.size = xs.length := by rw [List.size_toArray, rv.length]
    rw [e] at D
    refine ⟨_, _, D, ⟨hi, show s.heap.IsTuple a its.toArray from p⟩, fun i h st => st.1, fun i u hu => ?_⟩
    have hu : its.toArray[i]? = some u := hu
    rw [List.getElem?_toArray] at hu
    have hlt : i < xs.length := by
      rw [rv.length]
      exact (List.getElem?_eq_some_iff.mp hu).1
    obtain ⟨u', h1, h2⟩ := rv.get (show xs[i]? = some xs[i] by simp [hlt])
    rw [hu] at h1
    cases h1
    exact ⟨xs[i], by simp [hlt], h2⟩
  | s z =>
    obtain ⟨t, hi⟩ := hi
    have hk : xs = z.cps.toList.map fun c => V.str ⟨#[c]⟩ := hk
    subst hk
    have D := Draws.text (prog := X.prog) (w := X.w) hh it z t
    have e : z.cps.size = (z.cps.toList.map fun c => V.str ⟨#[c]⟩).length := by simp
    rw [e] at D
    refine ⟨_, _, D, hi, fun i h st => ⟨t, st⟩, fun i u hu => ?_⟩
    obtain ⟨c, tk, h1, rfl⟩ := hu
    exact ⟨.str ⟨#[c]⟩, by rw [List.getElem?_map, Array.getElem?_toList, h1]; rfl, ⟨tk, rfl⟩⟩
theorem Kd.begins {k : Kd} {xs : List V} {u : Value} (I : Inv X pins σ H s) (hk : k.has X.K H xs) (r : RelV k.v u) :
    ∃ (o : Obj) (Hs : Heap → Prop), Begins u o Hs ∧ Hs s.heap ∧ ∀ (h : Heap) (it : Addr), h.get? it = some o → k.it it 0 h := by
  cases k with
  | l a =>
    obtain ⟨its, rv, p, hz⟩ := I.list hk
    cases r
    exact ⟨_, _, begins_list a its.toArray, p.isList, fun h it e => ⟨_, e, rfl, rfl⟩⟩
  | t a =>
    obtain ⟨its, rv, p, hz⟩ := I.tuple hk
    cases r
    exact ⟨_, _, begins_tuple a its.toArray, show s.heap.IsTuple a its.toArray from p, fun h it e => ⟨_, e, rfl, rfl⟩⟩
  | s z =>
    obtain ⟨t, rfl⟩ := r
    exact ⟨_, _, begins_text z t, trivial, fun h it e => ⟨t, _, e, rfl, rfl⟩⟩
theorem Kd.fp_lt {k : Kd} {xs : List V} (I : Inv X pins σ H s) (hk : k.has X.K H xs) : ∀ b ∈ k.fp, b < s.heap.objs.size := by
  intro b hb
  cases k with
  | l a =>
    obtain ⟨its, rv, p, hz⟩ := I.list hk
    have e : b = a := by simpa [Kd.fp] using hb
    rw [e]
    exact p.lt
  | t a =>
    obtain ⟨its, rv, p, hz⟩ := I.tuple hk
    have e : b = a := by simpa [Kd.fp] using hb
    rw [e]
    exact p.lt
  | s z => simp [Kd.fp] at hb
theorem Kd.inj {k : Kd} {xs ys : List V} (I : Inv X pins σ H s) (h1 : k.has X.K H xs) (h2 : k.has X.K H ys) : xs = ys := by
  cases k with
  | l a => exact I.list_inj h1 h2
  | t a => exact I.tuple_inj h1 h2
  | s z => exact Eq.trans h1 (Eq.symm h2)
end
theorem handled_in1 {A : Around} (h : A.handled = none) : A.in1.handled = none := h
def ItzK (K : PySem.W.Frag) (k1 k2 : Kd) : It :=
  ⟨fun i H => ∃ (xs ys : List V) (x y : V), k1.has K H xs ∧ k2.has K H ys ∧ xs[i]? = some x ∧ ys[i]? = some y,
    fun i H v H' => ∃ T x y, v = .ref T ∧ H T = none ∧ H' = upd H T (.tup [x, y]) ∧ (∀ xs, k1.has K H xs → xs[i]? = some x) ∧ ∀ ys, k2.has K H ys → ys[i]? = some y,
    fun i H => ∃ xs ys : List V, k1.has K H xs ∧ k2.has K H ys ∧ i = min xs.length ys.length⟩
theorem turn_zipK {P : Program} {w : World} {K : PySem.W.Frag} {elts : List Expr} {kk : Nat} {tpos : Pos} {k1 k2 : Kd} {z TI TO i1 i2 : Addr} (D : ZipSep2 z TI TO i1 i2 (i1 :: k1.fp) (i2 :: k2.fp))
    (n1 : ∀ b ∈ k1.fp, b ≠ i1) (n2 : ∀ b ∈ k2.fp, b ≠ i2) :
    Turn P w K (.Tuple elts kk tpos) (ItzK K k1 k2) [z, TI, TO, i1, i2] z (fun i h => IsZip h z TI TO .none ∧ IsTupOf2 h TI (.ref i1) (.ref i2) ∧ (∃ x y, IsTupOf2 h TO x y) ∧ k1.it i1 i h ∧ k2.it i2 i h) where
  mem := by simp
  obj := fun i h st c hc => by
    obtain ⟨hz, hTI, ⟨x, y, hTO⟩, s1, s2⟩ := st
    have e' : c = z ∨ c = TI ∨ c = TO ∨ c = i1 ∨ c = i2 := by simpa using hc
    rcases e' with q | q | q | q | q
    · rw [q]; exact ⟨_, hz, fun v q => nomatch q⟩
    · rw [q]; exact ⟨_, hTI, fun v q => nomatch q⟩
    · rw [q]; exact ⟨_, hTO, fun v q => nomatch q⟩
    · rw [q]; exact Kd.it_obj s1
    · rw [q]; exact Kd.it_obj s2
  keep := fun i h h' st k => by
    obtain ⟨hz, hTI, ⟨x, y, hTO⟩, h1, h2⟩ := st
    exact ⟨k z (by simp) _ hz, k TI (by simp) _ hTI, ⟨x, y, k TO (by simp) _ hTO⟩, Kd.it_keep h1 fun o q => k i1 (by simp) o q, Kd.it_keep h2 fun o q => k i2 (by simp) o q⟩
  item := by
    intro X hP hw hK hc i pins s σ H E I hf st hg
    subst hP hw hK
    obtain ⟨hz, hTI, ⟨x0, y0, hTO⟩, h1, h2⟩ := st
    obtain ⟨xs, ys, x, y, hqx, hqy, hx, hy⟩ := hg
    obtain ⟨P1, St1, D1, a1, b1, c1⟩ := Kd.draws I (handled_in1 (I.ok.hd hc)) hqx n1 h1
    obtain ⟨P2, St2, D2, a2, b2, c2⟩ := Kd.draws I (handled_in1 (I.ok.hd hc)) hqy n2 h2
    have W := WalksT.zipD2 D D1 D2
    have l1 := (List.getElem?_eq_some_iff.mp hx).1
    have l2 := (List.getElem?_eq_some_iff.mp hy).1
    refine W.item i s _ _ (by omega) ⟨hz, hTI, ⟨x0, y0, hTO⟩, a1, a2⟩ fun T vals h' tk hP hT hIT hm hk => ?_
    refine ⟨_, rfl, W.go elts kk tpos i T { s with heap := h', toks := tk } _ _ hm fun h'' st' hk2 => ?_⟩
    obtain ⟨u1, u2, p1, p2, rfl⟩ := hP
    obtain ⟨v1, e1, r1⟩ := c1 i u1 p1
    obtain ⟨v2, e2, r2⟩ := c2 i u2 p2
    rw [hx] at e1
    rw [hy] at e2
    cases e1
    cases e2
    have hT2 : h''.IsTuple T #[u1, u2] := hIT.at fun o e => hk2 T o (W.apart i T h' hm) e
    have new : ObjOk X.prog X.w (upd H T (.tup [x, y])) h'' T (.tup [x, y]) :=
      ⟨by show 2 ≤ sizeLine; decide, [u1, u2], .cons r1 (.cons r2 .nil), hT2⟩
    have kk' : ∀ c o, c ∉ [z, TI, TO, i1, i2] → s.heap.get? c = some o → h''.get? c = some o := fun c o hb q =>
      hk2 c o (fun m => hb (by
        have m' : c = z ∨ c = TO ∨ c = i1 ∨ c = i2 := by simpa using m
        rcases m' with m' | m' | m' | m' <;> simp [m'])) (hk c o (fun m => hb (by
        have m' : c = z ∨ c = TO ∨ c = i1 ∨ c = i2 := by simpa using m
        rcases m' with m' | m' | m' | m' <;> simp [m'])) q)
    have I1 : Inv X pins σ (upd H T (.tup [x, y])) { s with heap := h'', toks := tk } := I.turnedNew (t' := tk) (ch := [z, TI, TO, i1, i2]) kk' hf hT new
    refine ⟨.ref T, _, I1, rfl, ⟨T, x, y, rfl, I.hok.fresh hT, rfl, fun l hl => by rw [Kd.inj I hl hqx]; exact hx, fun l hl => by rw [Kd.inj I hl hqy]; exact hy⟩, ⟨st'.1, st'.2.1, st'.2.2.1, b1 _ _ st'.2.2.2.1, b2 _ _ st'.2.2.2.2⟩, fun c hcm => ?_⟩
    have hne : c ≠ T := by
      intro e
      subst e
      have e' : c = z ∨ c = TI ∨ c = TO ∨ c = i1 ∨ c = i2 := by simpa using hcm
      have hlt : c < s.heap.objs.size := by
        rcases e' with q | q | q | q | q
        · rw [q]; exact Heap.lt_size hz
        · rw [q]; exact Heap.lt_size hTI
        · rw [q]; exact Heap.lt_size hTO
        · rw [q]; obtain ⟨_, e1, _⟩ := Kd.it_obj h1; exact Heap.lt_size e1
        · rw [q]; obtain ⟨_, e2, _⟩ := Kd.it_obj h2; exact Heap.lt_size e2
      exact absurd hT (Nat.not_le.mpr hlt)
    rw [upd_ne hne]
    exact (hf c hcm).1
  done := by
    intro X hP hw hK hc i pins s σ H E I hf st hg
    subst hP hw hK
    obtain ⟨hz, hTI, ⟨x0, y0, hTO⟩, h1, h2⟩ := st
    obtain ⟨xs, ys, hqx, hqy, hend⟩ := hg
    obtain ⟨P1, St1, D1, a1, b1, c1⟩ := Kd.draws I (handled_in1 (I.ok.hd hc)) hqx n1 h1
    obtain ⟨P2, St2, D2, a2, b2, c2⟩ := Kd.draws I (handled_in1 (I.ok.hd hc)) hqy n2 h2
    have W := WalksT.zipD2 D D1 D2
    subst hend
    refine W.done s _ _ ⟨hz, hTI, ⟨x0, y0, hTO⟩, a1, a2⟩ fun h' tk hk => ⟨rfl, I.turnedL (t' := tk) (ch := [z, TI, TO, i1, i2]) (fun c o hb q => hk c o (fun m => hb (by
        have m' : c = z ∨ c = TO ∨ c = i1 ∨ c = i2 := by simpa using m
        rcases m' with m' | m' | m' | m' <;> simp [m'])) q) hf⟩
  self := fun A i s Q E st h => wpAny_pyIter_zip st.1 h
def iZipK (K : PySem.W.Frag) (ta : TA) : TI := fun σ H R => ta σ H fun vs H1 => ∃ k1 k2 xs ys, vs = [k1.v, k2.v] ∧ k1.has K H1 xs ∧ k2.has K H1 ys ∧ R (ItzK K k1 k2) H1
theorem pi_zipK {X : Cx} {e e2 : Expr} {ta : TA} {p pos tpos : Pos} {elts : List Expr} {kk : Nat} (hg : Gl X "zip") (hm : X.mg "zip" = none) (ha : PA X [e, e2] ta)
    (hs : starEach [e, e2] X.env = (false, eval e X.env) :: starEach [e2] X.env) (hpl : (backTo pos (starEach [e2] X.env)).any (·.1) = false) :
    PI X (.Tuple elts kk tpos) (.Call (.Name "zip" p) [e, e2] [] pos) (iZipK X.K ta) := by
  refine ⟨fun pins s σ H R I h => ?_⟩
  refine Call_ (ld_blt I hg hm PyProof.Rows.boot_zip (PyProof.Rows.callWith_type1 (thn (ha.run pos pins s σ H _ I h) fun us s1 ⟨vs, H1, I1, r1, q1⟩ => ?_) hs hpl))
  obtain ⟨k1, k2, xs, ys, ex, hqx, hqy, q⟩ := q1
  subst ex
  obtain ⟨u1, u2, rfl, r, r'⟩ := Vals.two r1
  obtain ⟨o1, Hs1, B1, b1, g1⟩ := Kd.begins I1 hqx r
  obtain ⟨o2, Hs2, B2, b2, g2⟩ := Kd.begins I1 hqy r'
  have f1 := Kd.fp_lt I1 hqx
  have f2 := Kd.fp_lt I1 hqy
  refine zip_begins2 B1 B2 b1 b2 fun h' hz hTI hTO e1 e2 hsz hk => wpAny_pyIter_zip hz ?_
  have I2 : Inv X pins σ H1 { s1 with heap := h' } := I1.kept (t' := s1.toks) hk
  refine ⟨s1.heap.objs.size + 4, [s1.heap.objs.size + 4, s1.heap.objs.size + 2, s1.heap.objs.size + 3, s1.heap.objs.size, s1.heap.objs.size + 1], _, _, H1, rfl, I2, turn_zipK (zip_sep2 f1 f2) (fun b hb => Nat.ne_of_lt (f1 b hb)) (fun b hb => Nat.ne_of_lt (Nat.lt_succ_of_lt (f2 b hb))), ⟨hz, hTI, ⟨_, _, hTO⟩, g1 _ _ e1, g2 _ _ e2⟩, fun c hcm => ?_, q⟩
  have e' : c = s1.heap.objs.size + 4 ∨ c = s1.heap.objs.size + 2 ∨ c = s1.heap.objs.size + 3 ∨ c = s1.heap.objs.size ∨ c = s1.heap.objs.size + 1 := by simpa using hcm
  have hle : s1.heap.objs.size ≤ c := by
    rcases e' with z | z | z | z | z
    · rw [z]; exact Nat.le_add_right _ _
    · rw [z]; exact Nat.le_add_right _ _
    · rw [z]; exact Nat.le_add_right _ _
    · rw [z]; exact Nat.le_refl _
    · rw [z]; exact Nat.le_add_right _ _
  exact I1.fpOk hle (I1.hok.fresh hle)
def IteK (K : PySem.W.Frag) (k : Kd) : It :=
  ⟨fun i H => ∃ (xs : List V) (x : V), k.has K H xs ∧ xs[i]? = some x, fun i H v H' => ∃ T x, v = .ref T ∧ H T = none ∧ H' = upd H T (.tup [.int (i : Nat), x]) ∧ ∀ xs, k.has K H xs → xs[i]? = some x, fun i H => ∃ xs : List V, k.has K H xs ∧ i = xs.length⟩
theorem turn_enumK {P : Program} {w : World} {K : PySem.W.Frag} {elts : List Expr} {kk : Nat} {tpos : Pos} {k : Kd} {e it : Addr} (hei : e ≠ it) (hef : e ∉ it :: k.fp) (hn : ∀ b ∈ k.fp, b ≠ it) :
    Turn P w K (.Tuple elts kk tpos) (IteK K k) [e, it] e (fun i h => (∃ old, IsEnum h e it ((i : Nat) : Int) old) ∧ k.it it i h) where
  mem := by simp
  obj := fun i h st b hb => by
    obtain ⟨⟨old, he⟩, s1⟩ := st
    have e' : b = e ∨ b = it := by simpa using hb
    rcases e' with z | z
    · rw [z]; exact ⟨_, he, fun v q => nomatch q⟩
    · rw [z]; exact Kd.it_obj s1
  keep := fun i h h' st k => let ⟨⟨old, he⟩, hi⟩ := st; ⟨⟨old, k e (by simp) _ he⟩, Kd.it_keep hi fun o q => k it (by simp) o q⟩
  item := by
    intro X hP hw hK hc i pins s σ H E I hf st hg
    subst hP hw hK
    obtain ⟨⟨old, he⟩, hit⟩ := st
    obtain ⟨xs, x, hq, hx⟩ := hg
    obtain ⟨P1, St1, D1, a1, b1, c1⟩ := Kd.draws I (handled_in1 (I.ok.hd hc)) hq hn hit
    have W := WalksT.enumFrom 0 D1 e hei hef (by simp)
    have l1 := (List.getElem?_eq_some_iff.mp hx).1
    have z0 : ∀ j : Nat, (0 : Int) + (j : Int) = (j : Int) := fun j => Int.zero_add _
    refine W.item i s _ _ l1 ⟨⟨old, by rw [z0]; exact he⟩, a1⟩ fun T vals h' tk hP hT hIT hm hk => ?_
    refine ⟨_, rfl, W.go elts kk tpos i T { s with heap := h', toks := tk } _ _ hm fun h'' st' hk2 => ?_⟩
    obtain ⟨t, u1, p1, rfl⟩ := hP
    obtain ⟨v1, e1, r1⟩ := c1 i u1 p1
    rw [hx] at e1
    cases e1
    have hT2 : h''.IsTuple T #[.int (0 + (i : Int)) t, u1] := hIT.at fun o e => hk2 T o (W.apart i T h' hm) e
    rw [z0] at hT2
    have new : ObjOk X.prog X.w (upd H T (.tup [.int (i : Nat), x])) h'' T (.tup [.int (i : Nat), x]) :=
      ⟨by show 2 ≤ sizeLine; decide, [.int i t, u1], .cons ⟨_, rfl⟩ (.cons r1 .nil), hT2⟩
    have kk' : ∀ c o, c ∉ [e, it] → s.heap.get? c = some o → h''.get? c = some o := fun c o hb q => hk2 c o hb (hk c o hb q)
    have I1 : Inv X pins σ (upd H T (.tup [.int (i : Nat), x])) { s with heap := h'', toks := tk } := I.turnedNew (t' := tk) (ch := [e, it]) kk' hf hT new
    obtain ⟨⟨old', he'⟩, st1'⟩ := st'
    refine ⟨.ref T, _, I1, rfl, ⟨T, x, rfl, I.hok.fresh hT, rfl, fun l hl => by rw [Kd.inj I hl hq]; exact hx⟩, ⟨⟨old', by rw [z0] at he'; exact he'⟩, b1 _ _ st1'⟩, fun c hcm => ?_⟩
    have hne : c ≠ T := by
      intro eq
      subst eq
      have e' : c = e ∨ c = it := by simpa using hcm
      have hlt : c < s.heap.objs.size := by
        rcases e' with q | q
        · rw [q]; exact Heap.lt_size he
        · rw [q]; obtain ⟨_, e1, _⟩ := Kd.it_obj hit; exact Heap.lt_size e1
      exact absurd hT (Nat.not_le.mpr hlt)
    rw [upd_ne hne]
    exact (hf c hcm).1
  done := by
    intro X hP hw hK hc i pins s σ H E I hf st hg
    subst hP hw hK
    obtain ⟨⟨old, he⟩, hit⟩ := st
    obtain ⟨xs, hq, hend⟩ := hg
    obtain ⟨P1, St1, D1, a1, b1, c1⟩ := Kd.draws I (handled_in1 (I.ok.hd hc)) hq hn hit
    have W := WalksT.enumFrom 0 D1 e hei hef (by simp)
    subst hend
    exact W.done s _ _ ⟨⟨old, by rw [Int.zero_add]; exact he⟩, a1⟩ fun h' tk hk => ⟨rfl, I.turnedL (t' := tk) (ch := [e, it]) hk hf⟩
  self := fun A i s Q E st h => let ⟨⟨_, he⟩, _⟩ := st; wpAny_pyIter_enum he h
set_option maxHeartbeats 1000000 in
theorem meets_enumerate_newB1 {v : Value} {o : Obj} {H : Heap → Prop} (B : Begins v o H) :
    Meets (Builtin.«enumerate.__new__» ⟨[.type "enumerate", v], []⟩) (fun _ R s => H s.heap ∧
      R (.ok (.ret (.ref (s.heap.push o).objs.size))) { s with heap := (s.heap.push o).push { cls := .type "enumerate", data := .fields #[.none, .bool false, .ref s.heap.objs.size, rawInt 0, .none, .none] } }) :=
  .of_wp fun prog w A R s h => by
    obtain ⟨hp, g, d, tk, os⟩ := s; obtain ⟨h1, h⟩ := h
    have hsub := sub_enumerate
    have q1 : ∀ {A' : Around} {E : Value → Shared → Prop} {Q : Value → Shared → Prop}, Q (.ref hp.objs.size) ⟨hp.push o, g, d, tk, os⟩ → wpAny (model prog w) A' (pyIter v) Q E ⟨hp, g, d, tk, os⟩ :=
      fun q => B.iter prog w _ _ ⟨hp, g, d, tk, os⟩ _ h1 q
    wp_walk using q1
    refine wpAny_stack_any fun st => wpAny_pure ?_
    split
    · rename_i c _ _ _ _ _
      cases (c == Value.type "enumerate")
      · wp_walk using q1
        exact ⟨_, rfl, h⟩
      · wp_walk using q1
        exact ⟨_, rfl, h⟩
    · wp_walk using q1
      exact ⟨_, rfl, h⟩
theorem enum_begins1 {prog : Program} {w : World} {A : Around} {E : Value → Shared → Prop} {s : Shared} {v : Value} {o : Obj} {H : Heap → Prop} {Q : Value → Shared → Prop} (B : Begins v o H) (h1 : H s.heap)
    (h : ∀ h', IsEnum h' (s.heap.objs.size + 1) s.heap.objs.size 0 .none → h'.get? s.heap.objs.size = some o → h'.objs.size = s.heap.objs.size + 2 →
      (∀ b o, s.heap.get? b = some o → h'.get? b = some o) → Q (.ref (s.heap.objs.size + 1)) { s with heap := h' }) :
    wpAny (model prog w) A (call (.type "enumerate") [v]) Q E s := by
  refine callType_new F.called_enumerate (by decide) (F.typeCall_enumerate_1 _) (F.newCall_enumerate_1 _) (fun obj => F.args_object_init_2 obj _) F.entry_enumerate_new
    (meets_enumerate_newB1 B) ⟨h1, ?_⟩
  have hz : (s.heap.push o).objs.size = s.heap.objs.size + 1 := Heap.size_push ..
  show _ ∧ _
  rw [hz]
  have he : IsEnum ((s.heap.push o).push { cls := .type "enumerate", data := .fields #[.none, .bool false, .ref s.heap.objs.size, rawInt 0, .none, .none] }) (s.heap.objs.size + 1) s.heap.objs.size 0 .none := by
    have := Heap.get?_push_size (s.heap.push o) (o := { cls := .type "enumerate", data := .fields #[.none, .bool false, .ref s.heap.objs.size, rawInt 0, .none, .none] }) rfl
    rw [hz] at this; exact this
  refine ⟨⟨_, he, rfl⟩, h _ he (Heap.get?_push_of_some _ (Heap.get?_push_size _ B.free)) (by rw [Heap.size_push, hz]) fun b o x => Heap.get?_push_of_some _ (Heap.get?_push_of_some _ x)⟩
def iEnumK (K : PySem.W.Frag) (ta : TA) : TI := fun σ H R => ta σ H fun vs H1 => ∃ k xs, vs = [Kd.v k] ∧ k.has K H1 xs ∧ R (IteK K k) H1
theorem pi_enumK {X : Cx} {e : Expr} {ta : TA} {p pos tpos : Pos} {elts : List Expr} {kk : Nat} (hg : Gl X "enumerate") (hm : X.mg "enumerate" = none) (ha : PA X [e] ta) (hs : starEach [e] X.env = [(false, eval e X.env)]) :
    PI X (.Tuple elts kk tpos) (.Call (.Name "enumerate" p) [e] [] pos) (iEnumK X.K ta) := by
  refine ⟨fun pins s σ H R I h => ?_⟩
  refine Call_ (ld_blt I hg hm boot_enumerate (PyProof.Rows.callWith_type1 (thn (ha.run pos pins s σ H _ I h) fun us s1 ⟨vs, H1, I1, r1, q1⟩ => ?_) hs rfl))
  obtain ⟨k, xs, ex, hq, q⟩ := q1
  subst ex
  obtain ⟨u, rfl, r⟩ := Vals.one r1
  obtain ⟨o1, Hs1, B1, b1, g1⟩ := Kd.begins I1 hq r
  have f1 := Kd.fp_lt I1 hq
  refine enum_begins1 B1 b1 fun h' he e1 hsz hk => wpAny_pyIter_enum he ?_
  have I2 : Inv X pins σ H1 { s1 with heap := h' } := I1.kept (t' := s1.toks) hk
  have hef : s1.heap.objs.size + 1 ∉ s1.heap.objs.size :: k.fp := by
    intro m
    rcases List.mem_cons.mp m with m | m
    · exact Nat.succ_ne_self _ m
    · have : s1.heap.objs.size + 1 < s1.heap.objs.size := f1 _ m
      omega
  refine ⟨s1.heap.objs.size + 1, [s1.heap.objs.size + 1, s1.heap.objs.size], _, _, H1, rfl, I2, turn_enumK (Nat.succ_ne_self _) hef (fun b hb => Nat.ne_of_lt (f1 b hb)), ⟨⟨.none, he⟩, g1 _ _ e1⟩, fun b hb => ?_, q⟩
  have e' : b = s1.heap.objs.size + 1 ∨ b = s1.heap.objs.size := by simpa using hb
  have hle : s1.heap.objs.size ≤ b := by
    rcases e' with z | z
    · rw [z]; exact Nat.le_add_right _ _
    · rw [z]; exact Nat.le_refl _
  exact I1.fpOk hle (I1.hok.fresh hle)
end T
namespace T
open PySem PySem.Spec PyProof.Rows L2
abbrev selV {α : Type} (pm : List Nat) (us ws : List α) : List α := sel pm (us ++ ws)
def spOf (G : Gx) (n : Nat) (f : FnS) : Sp := fun vs H Q E => vs.length = n ∧ ∃ z ι ds μ, Rels { G with z := z } ι H vs ds ∧ SOk { G with z := z } ι H μ ∧ Post { G with z := z } E ι H (f ds μ) Q
structure Cc where
  N : List Str
  fns : List (Str × Nat × Nat)
  gls : List (Str × Nat)
  cls : List (Str × Nat × Nat)
  blt : List Str
  cells : List Str
  kws : List (Str × Nat × Nat × List Str × List Nat)
  dfs : List (Str × Nat × Nat × List Int)
structure MtOk (CX : CXT) (G : Gx) (X : Cx) (lv : Nat) (C : Nat) (m : Str) (F : FnS) : Prop where
  cl : Cls X.K (G.cad C)
  ex : ∃ n f fd ps k, Meth X.K (G.cad C) m f ∧ Binds X.K fd ps [] ∧ FnG X.prog X.w X.K X.mg X.base CX k f fd ps (spOf G n F) ∧ k ≤ lv ∧ ∀ ds μ, ds.length ≠ n → F ds μ = .bad
structure PrOk (CX : CXT) (G : Gx) (X : Cx) (lv : Nat) (C : Nat) (f : Str) (F : FnS) : Prop where
  cl : Cls X.K (G.cad C)
  ex : ∃ p g fd ps k, PropOf X.K (G.cad C) f p g ∧ Binds X.K fd ps [] ∧ FnG X.prog X.w X.K X.mg X.base CX k g fd ps (spOf G 1 F) ∧ k + 1 ≤ lv
structure InsX (K : PySem.W.Frag) (C : Addr) : Prop where
  cl : Cls K C
  ha : PySem.W.findIn K (.ref C) "__class__" = some (some (.builtin "object.__class__"))
  hn : PySem.W.specialIn K (.builtin "object.__class__") "__get__" = some (some (.builtin "getset_descriptor.__get__"))
  htk : PySem.W.takesIn K (.builtin "object.__class__") = some true
  hm : PySem.W.mroIn K C (.type "object") = some true
def tyK : List String := ["NoneType", "bool", "int", "str", "tuple", "list", "dict"]
structure XOk (CX : CXT) (G : Gx) (Γ : Tb) (c : Cc) (E : XK) (lv : Nat) (X : Cx) (sc : Scope) (stb : Str → Bool) : Prop where
  K : X.K = G.K
  N : X.N = c.N
  nd : c.N.Nodup
  sc : X.env.scope = sc
  calm : X.calm = true
  room : Room lv X.A
  gd : X.A.guards = some []
  blt : ∀ x ∈ c.blt, X.mg x = none
  fns : ∀ p ∈ c.fns, ∃ f fd ps k, X.mg p.1 = some (.ref f) ∧ PySem.W.keepIn X.K (.ref f) = true ∧ Binds X.K fd ps [] ∧ FnG X.prog X.w X.K X.mg X.base CX k f fd ps (spOf G p.2.2 (Γ.fn p.2.1)) ∧ k ≤ lv
  kws : ∀ p ∈ c.kws, ∃ f fd ps k, X.mg p.1 = some (.ref f) ∧ PySem.W.keepIn X.K (.ref f) = true ∧ KBn X.K fd ps p.2.2.1 p.2.2.2.1 (selV p.2.2.2.2) (selV p.2.2.2.2) ∧ FnG X.prog X.w X.K X.mg X.base CX k f fd ps (spOf G p.2.2.2.2.length (Γ.fn p.2.1)) ∧ k ≤ lv ∧ ∀ i ∈ p.2.2.2.2, i < p.2.2.1 + p.2.2.2.1.length
  gls : ∀ p ∈ c.gls, ∃ u v, X.mg p.1 = some u ∧ RelV v u ∧ ∀ z ι H, Rel { G with z := z } ι H v (Γ.gl p.2)
  cls : ∀ p ∈ c.cls, ∃ f fd ps k, X.mg p.1 = some (.ref (G.cad p.2.1)) ∧ Mk X.K (G.cad p.2.1) f ∧ Binds X.K fd ps [] ∧ FnG X.prog X.w X.K X.mg X.base CX k f fd ps (spOf G (p.2.2 + 1) (Γ.ini p.2.1)) ∧ k + 1 ≤ lv
  at_ : ∀ C f, Γ.at_ C f = true → Cls X.K (G.cad C) ∧ NoAttr X.K (G.cad C) f
  W : X.w = G.w
  dfs : ∀ p ∈ c.dfs, ∃ f fd ps k ds, X.mg p.1 = some (.ref f) ∧ PySem.W.keepIn X.K (.ref f) = true ∧ Binds X.K fd ps ds ∧ Vals (p.2.2.2.map V.int) ds ∧ FnG X.prog X.w X.K X.mg X.base CX k f fd ps (spOf G (p.2.2.1 + p.2.2.2.length) (Γ.fn p.2.1)) ∧ k ≤ lv
  mt : ∀ C m F, Γ.mt C m = some F → MtOk CX G X lv C m F
  pr : ∀ C f F, Γ.pr C f = some F → PrOk CX G X lv C f F
  isc : ∀ A C b, Γ.isc A C = some b → InsX X.K (G.cad A) ∧ PySem.W.kitOne X.K (.ref (G.cad A)) (.ref (G.cad C)) = some b ∧ Γ.gl (500 + C) = .cls C
  isb : ∀ C, Γ.isb C = true → (∀ t ∈ tyK, PySem.W.kitOne X.K (.type t) (.ref (G.cad C)) = some false) ∧ Γ.gl (500 + C) = .cls C
  passN : Passes CX X.nox E
  pass : Passes CX X E
  passB : ∀ X' : Cx, X'.prog = X.prog → X'.w = X.w → Passes CX X' E0
  st : ∀ x, stb x = true → Loc X.env.scope x ∧ (X.fn x = true ∨ X.env.scope.names.lookup x = some .local)
theorem XOk.hu {CX : CXT} {G : Gx} {Γ : Tb} {c : Cc} {E : XK} {lv : Nat} {X : Cx} {sc : Scope} {stb : Str → Bool} (o : XOk CX G Γ c E lv X sc stb) : X.A.units + 65 < cLine := by
  have := o.room.un
  omega
def isStar : Expr → Bool
  | .Starred _ _ => true | _ => false
theorem star_cons {e : Expr} {es : List Expr} {env : PySem.Env} (h : isStar e = false) : starEach (e :: es) env = (false, eval e env) :: starEach es env := by
  cases e <;> first | rfl | cases h
theorem star_plain : ∀ {es : List Expr} {env : PySem.Env} {pos : Pos}, es.all (fun e => !isStar e) = true → (backTo pos (starEach es env)).any (·.1) = false
  | [], _, _, _ => rfl
  | e :: es, env, pos, h => by
    rw [List.all_cons, Bool.and_eq_true] at h
    have h1 : isStar e = false := by simpa using h.1
    rw [star_cons h1]
    show (false || (backTo pos (starEach es env)).any (·.1)) = false
    rw [star_plain h.2]
    rfl
def isCallN : Expr → Bool
  | .Call (.Name _ _) [] [] _ => true | _ => false
theorem base_plain {o : Expr} {f : Str} {env : PySem.Env} {whole : PySem.Sem Value} (h : isCallN o = false) : attributeBase o f env whole = whole := by
  unfold attributeBase
  split <;> first | rfl | (rename_i heq; first | cases h | skip)
def plainT : Expr → Bool
  | .UnaryOp .Not _ _ => false | .BoolOp _ _ _ => false | .IfExp _ _ _ _ => false | .Compare _ _ _ _ => false | _ => true
theorem true_plain {e : Expr} {env : PySem.Env} (h : plainT e = true) (whole : PySem.Sem Value) : isTrue e env whole = (do let v ← whole; standAt e.pos; holding [v] (truthy v)) := by
  cases e <;> first | rfl | cases h | (rename_i op _ _; cases op <;> first | rfl | cases h)
def isSlice : Expr → Bool
  | .Slice _ _ _ _ => true | _ => false
theorem ix_plain {b : Expr} (h : isSlice b = false) : PlainIx b := by
  intro o i
  cases b <;> first | rfl | cases h
def isComp : Expr → Bool
  | .ListComp _ _ _ _ => true | .SetComp _ _ _ _ => true | .DictComp _ _ _ _ _ => true | _ => false
theorem swap_plain {e : Expr} {t : Option Expr} {n : Nat} {env : PySem.Env} (h : isComp e = false) : swapsWith e t n env = pure false := by
  cases e <;> first | rfl | cases h
def isSet : Expr → Bool
  | .Set _ _ _ => true | _ => false
theorem fold_plain {e : Expr} {env : PySem.Env} (h : isSet e = false) (x : Value) : foldedSetIterable e env x = pure x := by
  cases e <;> first | rfl | cases h
section
variable {Γ : Tb} {ρ : Env} {μ : Sto} {a b c : Ee}
theorem evT_not : evT Γ (.not a) ρ μ = (evT Γ a ρ μ).bind fun t μ1 => .ok (!t) μ1 := by
  unfold evT
  simp only [evE]
  cases evE Γ a ρ μ with
  | ok x m =>
    simp only [R.bind_ok]
    unfold tru
    cases truB m x <;> rfl
  | exc C ds m => rfl
  | bad => rfl
theorem evT_and : evT Γ (.and a b) ρ μ = (evT Γ a ρ μ).bind fun t μ1 => if t then evT Γ b ρ μ1 else .ok false μ1 := by
  unfold evT
  simp only [evE]
  cases evE Γ a ρ μ with
  | ok x m =>
    simp only [R.bind_ok]
    unfold tru
    cases h : truB m x with
    | none => rfl
    | some t =>
      cases t with
      | true => rfl
      | false => simp [h]
  | exc C ds m => rfl
  | bad => rfl
theorem evT_or : evT Γ (.or a b) ρ μ = (evT Γ a ρ μ).bind fun t μ1 => if t then .ok true μ1 else evT Γ b ρ μ1 := by
  unfold evT
  simp only [evE]
  cases evE Γ a ρ μ with
  | ok x m =>
    simp only [R.bind_ok]
    unfold tru
    cases h : truB m x with
    | none => rfl
    | some t =>
      cases t with
      | true => simp [h]
      | false => rfl
  | exc C ds m => rfl
  | bad => rfl
theorem evT_ife : evT Γ (.ife a b c) ρ μ = (evT Γ a ρ μ).bind fun t μ1 => if t then evT Γ b ρ μ1 else evT Γ c ρ μ1 := by
  unfold evT
  simp only [evE]
  cases evE Γ a ρ μ with
  | ok x m =>
    simp only [R.bind_ok]
    unfold tru
    cases h : truB m x with
    | none => rfl
    | some t => cases t <;> rfl
  | exc C ds m => rfl
  | bad => rfl
end
theorem cmpD_bl {o : COp} {x y d : D} {μ μ' : Sto} (h : cmpD o x y μ = .ok d μ') : ∃ b, d = .bl b ∧ μ' = μ := by
  have g : ∀ {p : Option Bool} {f : Bool → Bool}, (match p with
      | some b => R.ok (D.bl (f b)) μ
      | none => .bad) = .ok d μ' → ∃ b, d = .bl b ∧ μ' = μ := fun {p f} h => by
    cases p with
    | none => cases h
    | some b =>
      cases h
      exact ⟨_, rfl, rfl⟩
  cases o with
  | lt => cases x <;> first | (cases y <;> first | (cases h; exact ⟨_, rfl, rfl⟩) | cases h) | cases h
  | le => cases x <;> first | (cases y <;> first | (cases h; exact ⟨_, rfl, rfl⟩) | cases h) | cases h
  | gt => cases x <;> first | (cases y <;> first | (cases h; exact ⟨_, rfl, rfl⟩) | cases h) | cases h
  | ge => cases x <;> first | (cases y <;> first | (cases h; exact ⟨_, rfl, rfl⟩) | cases h) | cases h
  | eq => exact g (p := eqB μ x y) (f := id) h
  | ne => exact g (p := eqB μ x y) (f := not) h
  | isin => exact g (p := inB μ x y) (f := id) h
  | notin => exact g (p := inB μ x y) (f := not) h
  | is_ => exact g (p := isB x y) (f := id) h
  | isnot => exact g (p := isB x y) (f := not) h
section
variable {CX : CXT} {G : Gx} {Γ : Tb} {cc : Cc} {E : XK} {lv : Nat} {X : Cx} {sc : Scope} {stb : Str → Bool} {a b c : Expr} {ma mb mc : Ee} {pos : Pos}
abbrev PEm (G : Gx) (E : XK) (Γ : Tb) (X : Cx) (a : Expr) (m : Ee) : Prop := PE X a (TEv G E (evE Γ m))
abbrev PTm (G : Gx) (E : XK) (Γ : Tb) (X : Cx) (a : Expr) (m : Ee) : Prop := PT X a (TBv G E (evT Γ m))
abbrev PAm (G : Gx) (E : XK) (Γ : Tb) (X : Cx) (es : List Expr) (ms : List Ee) : Prop := PA X es (TAv G E (evEs Γ ms))
theorem pm_bad {e : Expr} : PEm G E Γ X e .bad := ⟨fun pins s σ H Q I h => by
  obtain ⟨ι, ρ, μ, _, _, p⟩ := h
  exact p.elim⟩
theorem pm_v {i : Nat} {x : Str} (hN : X.N[i]? = some x) (hv : Vis X.env.scope x) (hd : (x == ("__debug__" : Str)) = false) (hcd : (x == ("__classdict__" : Str)) = false) : PEm G E Γ X (.Name x pos) (.v i) :=
  (pe_var hN hv hd hcd).weak (by
    rintro σ H Q ⟨ι, ρ, μ, e, s, p⟩
    have p : Post G E ι H (match ρ[i]? with
      | some (some d) => R.ok d μ
      | _ => .bad) Q := p
    cases h : ρ[i]? with
    | none =>
      rw [h] at p
      exact p.elim
    | some o =>
      cases o with
      | none =>
        rw [h] at p
        exact p.elim
      | some d =>
        rw [h] at p
        obtain ⟨v, h1, h2⟩ := e.at_ i d h
        exact ⟨v, h1, Post.val p s h2⟩)
theorem pm_k {e : Expr} {v : V} {d : D} (h : PE X e (tC v)) (r : ∀ ι H, Rel G ι H v d) : PEm G E Γ X e (.k d) :=
  h.weak (by
    rintro σ H Q ⟨ι, ρ, μ, e, s, p⟩
    exact Post.val p s (r ι H))
theorem pm_g {e : Expr} {v : V} {i : Nat} (h : PE X e (tC v)) (r : ∀ ι H, Rel G ι H v (Γ.gl i)) : PEm G E Γ X e (.g i) :=
  h.weak (by
    rintro σ H Q ⟨ι, ρ, μ, e, s, p⟩
    exact Post.val p s (r ι H))
theorem pm_bin {o : BOp} (hK : X.K = G.K) (ha : PEm G E Γ X a ma) (hb : PEm G E Γ X b mb) : PEm G E Γ X (.BinOp a o.op b pos) (.bin o ma mb) :=
  pd_bin (or_bin o) (by rw [hK]; exact sim_bin o) ha hb
theorem pm_cbin {o : BOp} (hK : X.K = G.K) (ha : PEm G E Γ X a ma) (hb : PEm G E Γ X b mb) : PEm G E Γ X (.BinOp a o.op b pos) (.cbin o ma mb) :=
  pd_bin (or_bin o) (by rw [hK]; exact sim_cbin o) ha hb
theorem pm_neg (ha : PEm G E Γ X a ma) : PEm G E Γ X (.UnaryOp .USub a pos) (.neg ma) :=
  pd_un (r := rNegA) (g1 := fun x μ1 => match x with
    | .int i => .ok (.int (-i)) μ1
    | .bl b => .ok (.int (-(if b = true then 1 else 0))) μ1
    | _ => .bad) un_negA (fun ι H μ v x Q S r p => by
      cases x with
      | int i =>
        cases r
        exact .inl ⟨i, rfl, Post.val p S rfl⟩
      | bl b =>
        cases r
        exact .inr ⟨b, rfl, Post.val p S rfl⟩
      | _ => exact p.elim) ha
theorem pm_not (hK : X.K = G.K) (ha : PEm G E Γ X a ma) : PEm G E Γ X (.UnaryOp .Not a pos) (.not ma) :=
  (pe_notT ha).weak (by
    rintro σ H Q ⟨ι, ρ, μ, e, s, p⟩
    refine ⟨ι, ρ, μ, e, s, Post.bind p fun x μ1 v H1 ι1 _ x1 s1 r1 p1 => ?_⟩
    obtain ⟨k, h1, h2, h3⟩ := ptx_tru s1 r1 p1
    rw [hK]
    exact ⟨k, h2, Post.val h3 s1 rfl⟩)
theorem pm_cmp {o : COp} (hK : X.K = G.K) (hu : X.A.units + 65 < cLine) (hm : behindInMarks o.op b = false) (ha : PEm G E Γ X a ma) (hb : PEm G E Γ X b mb) : PEm G E Γ X (.Compare a [o.op] [b] pos) (.cmp o ma mb) :=
  pd_cmp (or_cmp hu o) (by rw [hK]; exact sim_cmp o) hm ha hb
theorem pm_cmp2 {o p : COp} (hK : X.K = G.K) (hu : X.A.units + 65 < cLine) (hm : lastMarks [o.op, p.op] [b, c] = false) (ha : PEm G E Γ X a ma) (hb : PEm G E Γ X b mb) (hc : PEm G E Γ X c mc) :
    PEm G E Γ X (.Compare a [o.op, p.op] [b, c] pos) (.cmp2 o p ma mb mc) :=
  (pe_chain (or_cmp hu o) (or_cmp hu p) ha hb hc hm).weak (by
    rintro σ H Q ⟨ι, ρ, μ, e, s, q⟩
    refine ⟨ι, ρ, μ, e, s, Post.bind q fun x μ1 v H1 ι1 _ x1 s1 r1 q1 => ?_⟩
    refine ⟨ι1, ρ, μ1, e.ext x1, s1, Post.bind q1 fun y μ2 w H2 ι2 _ x2 s2 r2 q2 => ?_⟩
    rw [hK]
    refine sim_cmp (E := E) o ι2 H2 μ2 v w x y _ s2 (Rel.ext x2 _ _ r1) r2 (Post.bind q2 fun d μ3 u H3 ι3 ed x3 s3 r3 q3 => ?_)
    obtain ⟨t, rfl, _⟩ := cmpD_bl ed
    cases r3
    refine ⟨t, rfl, ?_⟩
    cases t with
    | true =>
      rw [if_pos rfl]
      refine ⟨ι3, ρ, μ3, (e.ext (x1.trans (x2.trans x3))), s3, Post.bind q3 fun z μ4 u' H4 ι4 _ x4 s4 r4 q4 => ?_⟩
      exact sim_cmp (E := E) p ι4 H4 μ4 w u' y z Q s4 (Rel.ext (x3.trans x4) _ _ r2) r4 q4
    | false =>
      rw [if_neg Bool.false_ne_true]
      exact Post.val q3 s3 rfl)
theorem pm_and {rest : List Expr} (hK : X.K = G.K) (ha : PEm G E Γ X a ma) (hb : PEm G E Γ X (.BoolOp .And (b :: rest) pos) mb) : PEm G E Γ X (.BoolOp .And (a :: b :: rest) pos) (.and ma mb) :=
  (pe_andT ha hb).weak (by
    rintro σ H Q ⟨ι, ρ, μ, e, s, p⟩
    refine ⟨ι, ρ, μ, e, s, Post.bind p fun x μ1 v H1 ι1 _ x1 s1 r1 p1 => ?_⟩
    obtain ⟨k, h1, h2, h3⟩ := ptx_tru s1 r1 p1
    rw [hK]
    refine ⟨k, h2, ?_⟩
    cases k with
    | true => exact ⟨ι1, ρ, μ1, e.ext x1, s1, h3⟩
    | false => exact Post.val h3 s1 r1)
theorem pm_or {rest : List Expr} (hK : X.K = G.K) (ha : PEm G E Γ X a ma) (hb : PEm G E Γ X (.BoolOp .Or (b :: rest) pos) mb) : PEm G E Γ X (.BoolOp .Or (a :: b :: rest) pos) (.or ma mb) :=
  (pe_orT ha hb).weak (by
    rintro σ H Q ⟨ι, ρ, μ, e, s, p⟩
    refine ⟨ι, ρ, μ, e, s, Post.bind p fun x μ1 v H1 ι1 _ x1 s1 r1 p1 => ?_⟩
    obtain ⟨k, h1, h2, h3⟩ := ptx_tru s1 r1 p1
    rw [hK]
    refine ⟨k, h2, ?_⟩
    cases k with
    | true => exact Post.val h3 s1 r1
    | false => exact ⟨ι1, ρ, μ1, e.ext x1, s1, h3⟩)
theorem tm_plain (hK : X.K = G.K) (h : plainT a = true) (ha : PEm G E Γ X a ma) : PTm G E Γ X a ma :=
  (pt_truth ha (true_plain h)).weak (by
    rintro σ H Q ⟨ι, ρ, μ, e, s, p⟩
    refine ⟨ι, ρ, μ, e, s, PostX.bind p fun x μ1 v H1 ι1 _ x1 s1 r1 p1 => ?_⟩
    obtain ⟨k, h1, h2, h3⟩ := ptx_tru s1 r1 p1
    rw [hK]
    exact ⟨k, h2, PostX.here h3 s1 rfl⟩)
theorem tm_not (ha : PTm G E Γ X a ma) : PTm G E Γ X (.UnaryOp .Not a pos) (.not ma) :=
  (pt_not ha).weak (by
    rintro σ H Q ⟨ι, ρ, μ, e, s, p⟩
    rw [evT_not] at p
    refine ⟨ι, ρ, μ, e, s, PostX.bind p fun t μ1 v H1 ι1 _ x1 s1 r1 p1 => ?_⟩
    have r1 : v = t := r1
    subst r1
    exact PostX.here p1 s1 rfl)
theorem tm_and {rest : List Expr} (ha : PTm G E Γ X a ma) (hb : PW X (.BoolOp .And (b :: rest) pos) (TBv G E (evT Γ mb))) : PW X (.BoolOp .And (a :: b :: rest) pos) (TBv G E (evT Γ (.and ma mb))) := by
  refine ⟨fun whole pins s σ H Q I h => (pw_and ha hb).run whole pins s σ H Q I ?_⟩
  obtain ⟨ι, ρ, μ, e, s, p⟩ := h
  rw [evT_and] at p
  refine ⟨ι, ρ, μ, e, s, PostX.bind p fun t μ1 v H1 ι1 _ x1 s1 r1 p1 => ?_⟩
  have r1 : v = t := r1
  subst r1
  cases v with
  | true => exact ⟨ι1, ρ, μ1, e.ext x1, s1, p1⟩
  | false => exact PostX.here p1 s1 rfl
theorem tm_or {rest : List Expr} (ha : PTm G E Γ X a ma) (hb : PW X (.BoolOp .Or (b :: rest) pos) (TBv G E (evT Γ mb))) : PW X (.BoolOp .Or (a :: b :: rest) pos) (TBv G E (evT Γ (.or ma mb))) := by
  refine ⟨fun whole pins s σ H Q I h => (pw_or ha hb).run whole pins s σ H Q I ?_⟩
  obtain ⟨ι, ρ, μ, e, s, p⟩ := h
  rw [evT_or] at p
  refine ⟨ι, ρ, μ, e, s, PostX.bind p fun t μ1 v H1 ι1 _ x1 s1 r1 p1 => ?_⟩
  have r1 : v = t := r1
  subst r1
  cases v with
  | true => exact PostX.here p1 s1 rfl
  | false => exact ⟨ι1, ρ, μ1, e.ext x1, s1, p1⟩
theorem tm_ife (ht : PTm G E Γ X a ma) (hb : PTm G E Γ X b mb) (hc : PTm G E Γ X c mc) : PTm G E Γ X (.IfExp a b c pos) (.ife ma mb mc) := by
  refine ⟨fun pins s σ H Q I h => isTrue_IfExp (thn (ht.run pins s σ H (fun t H1 => if t = true then TBv G E (evT Γ mb) σ H1 Q else TBv G E (evT Γ mc) σ H1 Q) I ?_) fun t s1 ⟨H1, I1, q1⟩ => ?_)⟩
  · obtain ⟨ι, ρ, μ, e, s, p⟩ := h
    rw [evT_ife] at p
    refine ⟨ι, ρ, μ, e, s, PostX.bind p fun t μ1 v H1 ι1 _ x1 s1 r1 p1 => ?_⟩
    have r1 : v = t := r1
    subst r1
    cases v with
    | true => exact ⟨ι1, ρ, μ1, e.ext x1, s1, p1⟩
    | false => exact ⟨ι1, ρ, μ1, e.ext x1, s1, p1⟩
  · cases t with
    | true =>
      rw [if_pos rfl] at q1
      exact hb.run pins s1 σ H1 Q I1 q1
    | false =>
      rw [if_neg Bool.false_ne_true] at q1
      exact hc.run pins s1 σ H1 Q I1 q1
theorem tm_cmp {o : COp} (hK : X.K = G.K) (hu : X.A.units + 65 < cLine) (hm : behindInMarks o.op b = false) (ha : PEm G E Γ X a ma) (hb : PEm G E Γ X b mb) : PTm G E Γ X (.Compare a [o.op] [b] pos) (.cmp o ma mb) :=
  (pt_cmpR (or_cmp hu o) ha hb hm).weak (by
    rintro σ H Q ⟨ι, ρ, μ, e, s, p⟩
    have sm : Sim2 G E (rCmp X.K o) (cmpD o) := by
      rw [hK]
      exact sim_cmp o
    refine tev2 sm σ H _ ⟨ι, ρ, μ, e, s, ?_⟩
    refine PostX.bind p fun d μ1 v H1 ι1 ed x1 s1 r1 p1 => ?_
    obtain ⟨x, m1, h1, h2⟩ := R.bind_eq_ok ed
    obtain ⟨y, m2, h3, h4⟩ := R.bind_eq_ok h2
    obtain ⟨t, rfl, _⟩ := cmpD_bl h4
    cases r1
    exact ⟨t, rfl, PostX.here p1 s1 rfl⟩)
theorem tm_cmp2 {o p : COp} (hK : X.K = G.K) (hu : X.A.units + 65 < cLine) (hm : lastMarks [o.op, p.op] [b, c] = false) (ha : PEm G E Γ X a ma) (hb : PEm G E Γ X b mb) (hc : PEm G E Γ X c mc) :
    PTm G E Γ X (.Compare a [o.op, p.op] [b, c] pos) (.cmp2 o p ma mb mc) :=
  (pt_chain (or_cmp hu o) (or_cmp hu p) ha hb hc hm).weak (by
    rintro σ H Q ⟨ι, ρ, μ, e, s, q⟩
    show tChain (rCmp X.K o) (rCmp X.K p) (TEv G E (evE Γ ma)) (TEv G E (evE Γ mb)) (TEv G E (evE Γ mc)) σ H fun x H' => ∃ k, x = .bl k ∧ Q k H'
    have q : PostX G (fun _ _ b a => b = a) E ι H ((evE Γ (.cmp2 o p ma mb mc) ρ μ).bind fun d μ1 => tru d μ1 fun b => .ok b μ1) Q := q
    have hbl : ∀ d μ', evE Γ (.cmp2 o p ma mb mc) ρ μ = .ok d μ' → ∃ t, d = .bl t := fun d μ' h => by
      have h : ((evE Γ ma ρ μ).bind fun x μ1 => (evE Γ mb ρ μ1).bind fun y μ2 => (cmpD o x y μ2).bind fun r μ3 => (match r with
        | .bl true => (evE Γ mc ρ μ3).bind fun z μ4 => cmpD p y z μ4
        | .bl false => .ok (.bl false) μ3
        | _ => .bad)) = .ok d μ' := h
      obtain ⟨x, m1, h1, h⟩ := R.bind_eq_ok h
      obtain ⟨y, m2, h2, h⟩ := R.bind_eq_ok h
      obtain ⟨r, m3, h3, h⟩ := R.bind_eq_ok h
      obtain ⟨t, rfl, _⟩ := cmpD_bl h3
      cases t with
      | true =>
        obtain ⟨z, m4, h4, h⟩ := R.bind_eq_ok h
        obtain ⟨t, rfl, _⟩ := cmpD_bl h
        exact ⟨t, rfl⟩
      | false =>
        cases h
        exact ⟨false, rfl⟩
    have z : Post G E ι H (evE Γ (.cmp2 o p ma mb mc) ρ μ) fun x H' => ∃ k, x = .bl k ∧ Q k H' := PostX.bind q fun d μ1 v H1 ι1 ed x1 s1 r1 p1 => by
      obtain ⟨t, rfl⟩ := hbl d μ1 ed
      cases r1
      exact ⟨t, rfl, PostX.here p1 s1 rfl⟩
    clear q
    revert z
    generalize (fun x H' => ∃ k, x = V.bl k ∧ Q k H') = Q'
    intro q
    refine ⟨ι, ρ, μ, e, s, Post.bind q fun x μ1 v H1 ι1 _ x1 s1 r1 q1 => ?_⟩
    refine ⟨ι1, ρ, μ1, e.ext x1, s1, Post.bind q1 fun y μ2 w H2 ι2 _ x2 s2 r2 q2 => ?_⟩
    rw [hK]
    refine sim_cmp (E := E) o ι2 H2 μ2 v w x y _ s2 (Rel.ext x2 _ _ r1) r2 (Post.bind q2 fun d μ3 u H3 ι3 ed x3 s3 r3 q3 => ?_)
    obtain ⟨t, rfl, _⟩ := cmpD_bl ed
    cases r3
    refine ⟨t, rfl, ?_⟩
    cases t with
    | true =>
      rw [if_pos rfl]
      refine ⟨ι3, ρ, μ3, (e.ext (x1.trans (x2.trans x3))), s3, Post.bind q3 fun z μ4 u' H4 ι4 _ x4 s4 r4 q4 => ?_⟩
      exact sim_cmp (E := E) p ι4 H4 μ4 w u' y z Q' s4 (Rel.ext (x3.trans x4) _ _ r2) r4 q4
    | false =>
      rw [if_neg Bool.false_ne_true]
      exact Post.val q3 s3 rfl)
theorem pm_ife (ht : PTm G E Γ X a ma) (hb : PEm G E Γ X b mb) (hc : PEm G E Γ X c mc) : PEm G E Γ X (.IfExp a b c pos) (.ife ma mb mc) :=
  (pe_ifExp ht hb hc).weak (by
    rintro σ H Q ⟨ι, ρ, μ, e, s, p⟩
    have p : Post G E ι H ((evT Γ ma ρ μ).bind fun t μ1 => if t then evE Γ mb ρ μ1 else evE Γ mc ρ μ1) Q := by
      have e1 : evE Γ (.ife ma mb mc) ρ μ = (evT Γ ma ρ μ).bind fun t μ1 => if t then evE Γ mb ρ μ1 else evE Γ mc ρ μ1 := by
        unfold evT
        simp only [evE]
        cases evE Γ ma ρ μ with
        | ok x m =>
          simp only [R.bind_ok]
          unfold tru
          cases h : truB m x with
          | none => rfl
          | some t => cases t <;> rfl
        | exc C ds m => rfl
        | bad => rfl
      rw [← e1]
      exact p
    refine ⟨ι, ρ, μ, e, s, PostX.bind p fun t μ1 v H1 ι1 _ x1 s1 r1 p1 => ?_⟩
    have r1 : v = t := r1
    subst r1
    cases v with
    | true => exact ⟨ι1, ρ, μ1, e.ext x1, s1, p1⟩
    | false => exact ⟨ι1, ρ, μ1, e.ext x1, s1, p1⟩)
end
end T
namespace T
open PySem PySem.Spec PyProof.Rows L2
section
variable {CX : CXT} {G : Gx} {Γ : Tb} {cc : Cc} {E : XK} {lv : Nat} {X : Cx} {sc : Scope} {stb : Str → Bool} {a b c : Expr} {ma mb mc : Ee} {pos : Pos} {es : List Expr} {ms : List Ee}
theorem am_nil : PAm G E Γ X [] [] := pa_nil.weak (by
    rintro σ H Q ⟨ι, ρ, μ, e, s, p⟩
    exact PostX.here (show PostX G (Rels G) E ι H (R.ok [] μ) Q from p) s (by simp))
theorem am_cons (hs : isStar a = false) (ha : PEm G E Γ X a ma) (hr : PAm G E Γ X es ms) : PAm G E Γ X (a :: es) (ma :: ms) :=
  (pa_cons ha hr (star_cons hs)).weak (by
    rintro σ H Q ⟨ι, ρ, μ, e, s, p⟩
    refine ⟨ι, ρ, μ, e, s, PostX.bind p fun x μ1 v H1 ι1 _ x1 s1 r1 p1 => ?_⟩
    refine ⟨ι1, ρ, μ1, e.ext x1, s1, PostX.bind p1 fun ds μ2 vs H2 ι2 _ x2 s2 r2 p2 => ?_⟩
    exact PostX.here p2 s2 (by rw [rels_cons]; exact ⟨Rel.ext x2 _ _ r1, r2⟩))
theorem pm_tup {k : Nat} (h : PAm G E Γ X es ms) : PEm G E Γ X (.Tuple es k pos) (.tup ms) :=
  (pe_tup h).weak (by
    rintro σ H Q ⟨ι, ρ, μ, e, s, p⟩
    refine ⟨ι, ρ, μ, e, s, PostX.bind p fun ds μ1 vs H1 ι1 _ x1 s1 r1 p1 => ?_⟩
    obtain ⟨hf, p1⟩ := ite_ok p1
    have z := fits_iff.mp hf
    rw [← r1.len] at z
    exact ⟨z, fun q hq => Post.newT p1 s1 hq r1 z⟩)
theorem pm_lst (h : PAm G E Γ X es ms) : PEm G E Γ X (.List es pos) (.lst ms) :=
  (pe_lst h).weak (by
    rintro σ H Q ⟨ι, ρ, μ, e, s, p⟩
    refine ⟨ι, ρ, μ, e, s, PostX.bind p fun ds μ1 vs H1 ι1 _ x1 s1 r1 p1 => ?_⟩
    obtain ⟨hf, p1⟩ := ite_ok p1
    have z := fits_iff.mp hf
    rw [← r1.len] at z
    exact ⟨z, fun q hq => Post.newL p1 s1 hq r1 z⟩)
theorem pm_clst (h : PAm G E Γ X es ms) : PEm G E Γ X (.List es pos) (.clst ms) :=
  (pe_lst h).weak (by
    rintro σ H Q ⟨ι, ρ, μ, e, s, p⟩
    refine ⟨ι, ρ, μ, e, s, PostX.bind p fun ds μ1 vs H1 ι1 _ x1 s1 r1 p1 => ?_⟩
    obtain ⟨hf, p1⟩ := ite_ok p1
    have z := fits_iff.mp hf
    rw [← r1.len] at z
    exact ⟨z, fun q hq => Post.newC p1 s1 hq r1 z⟩)
theorem pm_ix (hK : X.K = G.K) (hu : X.A.units + 1 < cLine) (hb : isSlice b = false) (ha : PEm G E Γ X a ma) (hi : PEm G E Γ X b mb) : PEm G E Γ X (.Subscript a b pos) (.ix ma mb) :=
  (pe_ix (ix_all hu) ha hi (ix_plain hb)).weak (tev2 (by rw [hK]; exact sim_ix))
abbrev POm (G : Gx) (E : XK) (Γ : Tb) (X : Cx) (o : Option Expr) (m : Ee) : Prop := PO X o (TX G (fun _ _ b a => b = a) E fun ρ μ => oI m (evE Γ m ρ μ) μ)
theorem om_none : POm G E Γ X none .no := ⟨fun pins s σ H Q I h => by
  obtain ⟨ι, ρ, μ, e, so, p⟩ := h
  exact po_none.run pins s σ H Q I (PostX.here (show PostX G (fun _ _ b a => b = a) E ι H (R.ok none μ) Q from p) so rfl)⟩
theorem om_some (hn : ∀ r μ, oI ma r μ = r.bind fun x μ1 => (match x with
    | .int i => .ok (some i) μ1
    | _ => .bad)) (ha : PEm G E Γ X a ma) : POm G E Γ X (some a) ma := ⟨fun pins s σ H Q I h => by
  obtain ⟨ι, ρ, μ, e, so, p⟩ := h
  refine (po_some ha).run pins s σ H Q I ⟨ι, ρ, μ, e, so, ?_⟩
  have p : PostX G (fun _ _ b a => b = a) E ι H (oI ma (evE Γ ma ρ μ) μ) Q := p
  rw [hn] at p
  refine PostX.bind p fun x μ1 v H1 ι1 _ x1 s1 r1 p1 => ?_
  cases x with
  | int i =>
    cases r1
    exact ⟨i, rfl, PostX.here p1 s1 rfl⟩
  | _ => exact p1.elim⟩
theorem pm_sl {lo hi : Option Expr} {ml mh : Ee} {p2 : Pos} (hK : X.K = G.K) (ha : PEm G E Γ X a ma) (hl : POm G E Γ X lo ml) (hh : POm G E Γ X hi mh) : PEm G E Γ X (.Subscript a (.Slice lo hi none p2) pos) (.sl ma ml mh) :=
  (pe_slice sl_all ha hl hh).weak (by
    rintro σ H Q ⟨ι, ρ, μ, e, s, p⟩
    refine ⟨ι, ρ, μ, e, s, Post.bind p fun x μ1 v H1 ι1 _ x1 s1 r1 p1 => ?_⟩
    refine ⟨ι1, ρ, μ1, e.ext x1, s1, PostX.bind p1 fun l μ2 l' H2 ι2 _ x2 s2 r2 p2 => ?_⟩
    have r2 : l' = l := r2
    subst r2
    refine ⟨ι2, ρ, μ2, (e.ext (x1.trans x2)), s2, PostX.bind p2 fun h μ3 h' H3 ι3 _ x3 s3 r3 p3 => ?_⟩
    have r3 : h' = h := r3
    subst r3
    rw [hK]
    exact sim_sl (E := E) l' h' ι3 H3 μ3 v x Q s3 (Rel.ext (x2.trans x3) _ _ r1) p3)
theorem pm_rev {k : Nat} {p1 p2 p3 : Pos} (hK : X.K = G.K) (ha : PEm G E Γ X a ma) : PEm G E Γ X (.Subscript a (.Slice none none (some (.UnaryOp .USub (.Constant (.int 1) k p1) p2)) p3) pos) (.rev ma) :=
  (pe_revL ha).weak (by
    rintro σ H Q ⟨ι, ρ, μ, e, s, p⟩
    refine ⟨ι, ρ, μ, e, s, Post.bind p fun x μ1 v H1 ι1 _ x1 s1 r1 p1 => ?_⟩
    rw [hK]
    exact sim_rev (E := E) ι1 H1 μ1 v x Q s1 r1 p1)
theorem call_post {f : FnS} {n : Nat} {vs : List V} {ds : List D} {ι : List Addr} {H : Hp} {μ : Sto} {Q : VK} (hl : vs.length = n) (r : Rels G ι H vs ds) (s : SOk G ι H μ) (p : Post G E ι H (f ds μ) Q) : spOf G n f vs H Q E := ⟨hl, G.z, ι, ds, μ, r, s, p⟩
theorem evEs_len : ∀ (ms : List Ee) (ρ : Env) (μ : Sto) (ds : List D) (μ1 : Sto), evEs Γ ms ρ μ = .ok ds μ1 → ds.length = ms.length
  | [], _, _, _, _, h => by
    cases h
    rfl
  | m :: ms, ρ, μ, ds, μ1, h => by
    obtain ⟨d, m1, h1, h2⟩ := R.bind_eq_ok (show (evE Γ m ρ μ).bind (fun d μ1 => (evEs Γ ms ρ μ1).bind fun ds μ2 => .ok (d :: ds) μ2) = .ok ds μ1 from h)
    obtain ⟨ds', m2, h3, h4⟩ := R.bind_eq_ok h2
    cases h4
    rw [List.length_cons, List.length_cons, evEs_len ms ρ m1 ds' _ h3]
theorem pm_call {k n : Nat} {f : Addr} {fd : FuncData} {ps : List Str} {x : Str} {j : Nat} {pp : Pos} (F : FnG X.prog X.w X.K X.mg X.base CX k f fd ps (spOf G n (Γ.fn j))) (gd : X.A.guards = some []) (hr : Room k X.A) (hg : Gl X x) (hm : X.mg x = some (.ref f)) (hk : PySem.W.keepIn X.K (.ref f) = true) (hb : Binds X.K fd ps []) (hx : Passes CX X E)
    (hdb : (x == ("__debug__" : Str)) = false) (hs : (a :: es).all (fun e => !isStar e) = true) (hn : (a :: es).length = n) (hmn : (a :: es).length = ms.length) (ha : PAm G E Γ X (a :: es) ms) : PEm G E Γ X (.Call (.Name x pp) (a :: es) [] pos) (.call j ms) := by
  rw [List.all_cons, Bool.and_eq_true] at hs
  refine (g_call F gd hr hg hm hk hb hx ha hdb (star_cons (by simpa using hs.1)) (star_plain hs.2)).weak ?_
  rintro σ H Q ⟨ι, ρ, μ, e, s, p⟩
  refine ⟨ι, ρ, μ, e, s, PostX.bind p fun ds μ1 vs H1 ι1 ev x1 s1 r1 p1 => ?_⟩
  refine call_post ?_ r1 s1 p1
  rw [r1.len, ← hn, hmn]
  exact evEs_len ms ρ μ ds μ1 ev
theorem pm_call0 {k : Nat} {f : Addr} {fd : FuncData} {ps : List Str} {x : Str} {j : Nat} {pp : Pos} (F : FnG X.prog X.w X.K X.mg X.base CX k f fd ps (spOf G 0 (Γ.fn j))) (gd : X.A.guards = some []) (hr : Room k X.A) (hg : Gl X x) (hm : X.mg x = some (.ref f)) (hk : PySem.W.keepIn X.K (.ref f) = true) (hb : Binds X.K fd ps []) (hx : Passes CX X E)
    (hdb : (x == ("__debug__" : Str)) = false) : PEm G E Γ X (.Call (.Name x pp) [] [] pos) (.call j []) := by
  refine (g_call0 F gd hr hg hm hk hb hx hdb).weak ?_
  rintro σ H Q ⟨ι, ρ, μ, e, s, p⟩
  exact call_post rfl (by simp) s p
abbrev PKm (G : Gx) (E : XK) (Γ : Tb) (X : Cx) (kws : List Keyword) (ms : List Ee) : Prop := PK X kws (TAv G E (evEs Γ ms))
theorem km_nil : PKm G E Γ X [] [] := ⟨fun pos pins s σ H Q I h => by
  obtain ⟨ι, ρ, μ, e, s', p⟩ := h
  exact pk_nil.run pos pins s σ H Q I (PostX.here (show PostX G (Rels G) E ι H (R.ok [] μ) Q from p) s' (by simp))⟩
theorem km_cons {nm : Option Str} {kpos : Pos} {kws : List Keyword} (ha : PEm G E Γ X a ma) (hr : PKm G E Γ X kws ms) : PKm G E Γ X (⟨nm, a, kpos⟩ :: kws) (ma :: ms) := ⟨fun pos pins s σ H Q I h => by
  refine (pk_cons ha hr).run pos pins s σ H Q I ?_
  obtain ⟨ι, ρ, μ, e, s', p⟩ := h
  refine ⟨ι, ρ, μ, e, s', PostX.bind p fun x μ1 v H1 ι1 _ x1 s1 r1 p1 => ?_⟩
  refine ⟨ι1, ρ, μ1, e.ext x1, s1, PostX.bind p1 fun ds μ2 vs H2 ι2 _ x2 s2 r2 p2 => ?_⟩
  exact PostX.here p2 s2 (by rw [rels_cons]; exact ⟨Rel.ext x2 _ _ r1, r2⟩)⟩
theorem sel_rels {ι : List Addr} {H : Hp} {vs : List V} {ds : List D} (r : Rels G ι H vs ds) : ∀ pm : List Nat, Rels G ι H (sel pm vs) (sel pm ds)
  | [] => by simp [sel]
  | i :: pm => by
    have h := sel_rels r pm
    unfold sel at h ⊢
    cases hd : ds[i]? with
    | none =>
      have hv : vs[i]? = none := by
        rw [List.getElem?_eq_none_iff] at hd ⊢
        rw [r.len]
        exact hd
      rw [List.filterMap_cons, List.filterMap_cons, hd, hv]
      exact h
    | some d =>
      obtain ⟨v, hv, hr⟩ := r.get hd
      rw [List.filterMap_cons, List.filterMap_cons, hd, hv, rels_cons]
      exact ⟨hr, h⟩
theorem sel_len {α : Type} {xs : List α} : ∀ {pm : List Nat}, (∀ i ∈ pm, i < xs.length) → (sel pm xs).length = pm.length
  | [], _ => rfl
  | i :: pm, h => by
    unfold sel
    rw [List.filterMap_cons, List.getElem?_eq_getElem (h i (by simp))]
    show (sel pm xs).length + 1 = _
    rw [sel_len fun j hj => h j (by simp [hj])]
    rfl
theorem kw_all {env : PySem.Env} {pos : Pos} : ∀ {kws : List Keyword}, kws.all (fun k => k.arg.isSome) = true → (backToKw pos (keywordEach kws env)).all (·.1.isSome) = true ∧ (backToKw pos (keywordEach kws env)).any (·.1.isNone) = false ∧ (backToKw pos (keywordEach kws env)).filterMap (·.1) = kws.filterMap (·.arg)
  | [], _ => ⟨rfl, rfl, rfl⟩
  | ⟨nm, e, p⟩ :: kws, h => by
    rw [List.all_cons, Bool.and_eq_true] at h
    obtain ⟨h1, h2⟩ := h
    obtain ⟨i1, i2, i3⟩ := kw_all (env := env) (pos := pos) h2
    obtain ⟨nm, rfl⟩ := Option.isSome_iff_exists.mp h1
    refine ⟨?_, ?_, ?_⟩
    · show (true && (backToKw pos (keywordEach kws env)).all (·.1.isSome)) = true
      rw [i1]
      rfl
    · show (false || (backToKw pos (keywordEach kws env)).any (·.1.isNone)) = false
      rw [i2]
      rfl
    · show nm :: (backToKw pos (keywordEach kws env)).filterMap (·.1) = nm :: kws.filterMap (·.arg)
      rw [i3]
theorem pm_callk {k n : Nat} {f : Addr} {fd : FuncData} {ps ks : List Str} {pm : List Nat} {x : Str} {j : Nat} {pp : Pos} {kws : List Keyword} {mks : List Ee} (F : FnG X.prog X.w X.K X.mg X.base CX k f fd ps (spOf G pm.length (Γ.fn j))) (gd : X.A.guards = some []) (hr : Room k X.A) (hg : Gl X x) (hm : X.mg x = some (.ref f)) (hk : PySem.W.keepIn X.K (.ref f) = true) (hb : KBn X.K fd ps n ks (selV pm) (selV pm)) (hx : Passes CX X E)
    (hdb : (x == ("__debug__" : Str)) = false) (hs : es.all (fun e => !isStar e) = true) (hn : es.length = n) (hmn : es.length = ms.length) (ha : PAm G E Γ X es ms) (hkw : PKm G E Γ X kws mks) (hkl : mks.length = ks.length) (hall : kws.all (fun k => k.arg.isSome) = true) (hks : kws.filterMap (·.arg) = ks) (hpm : ∀ i ∈ pm, i < n + ks.length) : PEm G E Γ X (.Call (.Name x pp) es kws pos) (.callk j ms mks pm) := by
  obtain ⟨q1, q2, q3⟩ := kw_all (env := X.env) (pos := pos) hall
  rw [hks] at q3
  have key : ∀ σ H (Q : VK), (TEv G E (evE Γ (.callk j ms mks pm))) σ H Q → tGk n ks.length (spOf G pm.length (Γ.fn j)) (selV pm) E (TAv G E (evEs Γ ms)) (TAv G E (evEs Γ mks)) σ H Q := by
    rintro σ H Q ⟨ι, ρ, μ, e, s, p⟩
    refine ⟨ι, ρ, μ, e, s, PostX.bind p fun ds μ1 vs H1 ι1 ev x1 s1 r1 p1 => ?_⟩
    refine ⟨ι1, ρ, μ1, e.ext x1, s1, PostX.bind p1 fun zs μ2 ws H2 ι2 ev2 x2 s2 r2 p2 => ?_⟩
    have l1 : vs.length = n := by rw [r1.len, ← hn, hmn]; exact evEs_len ms ρ μ ds μ1 ev
    have l2 : ws.length = ks.length := by rw [r2.len, ← hkl]; exact evEs_len mks ρ μ1 zs μ2 ev2
    exact ⟨⟨l1, l2⟩, call_post (sel_len fun i hi => by rw [List.length_append, l1, l2]; exact hpm i hi) (sel_rels ((Rels.ext x2 _ _ r1).append r2) pm) s2 p2⟩
  cases es with
  | nil =>
    have hn0 : ms = [] := List.eq_nil_of_length_eq_zero hmn.symm
    subst hn0
    have hn : n = 0 := hn.symm
    subst hn
    refine (g_callk0 F gd hr hg hm hk hb hx hkw q1 q3 hdb (by rw [q2]; rfl)).weak fun σ H Q h => ?_
    obtain ⟨ι, ρ, μ, e, s', p⟩ := key σ H Q h
    have p : PostX G (Rels G) E ι H (R.ok [] μ) _ := p
    exact p [] H ι (.refl _ _) s' (by simp)
  | cons a es =>
    rw [List.all_cons, Bool.and_eq_true] at hs
    refine (g_callk F gd hr hg hm hk hb hx ha hkw q1 q3 hdb (star_cons (by simpa using hs.1)) ?_).weak fun σ H Q h => key σ H Q h
    rw [q2, Bool.or_false, star_cons (by simpa using hs.1)]
    show (false || (backTo pos (starEach es X.env)).any (·.1)) = false
    rw [star_plain hs.2]
    rfl
theorem pm_callB {bi : BI} {id : String} {x : Str} {r : List V → Hp → VK → Prop} {pp : Pos} (hc : CallR X (.builtin id) r) (hsim : CSim G E r (biD bi)) (hg : Gl X x) (hm : X.mg x = none) (hv : bootBuiltins x = some (.builtin id)) (hn : x ≠ "__name__") (hdb : (x == ("__debug__" : Str)) = false)
    (hs : (a :: es).all (fun e => !isStar e) = true) (ha : PAm G E Γ X (a :: es) ms) : PEm G E Γ X (.Call (.Name x pp) (a :: es) [] pos) (.bi bi ms) := by
  rw [List.all_cons, Bool.and_eq_true] at hs
  refine (pe_callB hc hg hm hv ha hn hdb (star_cons (by simpa using hs.1)) (star_plain hs.2)).weak ?_
  rintro σ H Q ⟨ι, ρ, μ, e, s, p⟩
  exact ⟨ι, ρ, μ, e, s, PostX.bind p fun ds μ1 vs H1 ι1 _ x1 s1 r1 p1 => hsim ι1 H1 μ1 vs ds Q s1 r1 p1⟩
theorem pm_callT {bi : BI} {id : String} {x : Str} {r : List V → Hp → VK → Prop} {pp : Pos} (hc : CallR X (.type id) r) (hsim : CSim G E r (biD bi)) (hg : Gl X x) (hm : X.mg x = none) (hv : bootBuiltins x = some (.type id)) (hn : x ≠ "__name__") (hdb : (x == ("__debug__" : Str)) = false)
    (hs : (a :: es).all (fun e => !isStar e) = true) (ha : PAm G E Γ X (a :: es) ms) : PEm G E Γ X (.Call (.Name x pp) (a :: es) [] pos) (.bi bi ms) := by
  rw [List.all_cons, Bool.and_eq_true] at hs
  refine (pe_callTy hc hg hm hv ha hn hdb (star_cons (by simpa using hs.1)) (star_plain hs.2)).weak ?_
  rintro σ H Q ⟨ι, ρ, μ, e, s, p⟩
  exact ⟨ι, ρ, μ, e, s, PostX.bind p fun ds μ1 vs H1 ι1 _ x1 s1 r1 p1 => hsim ι1 H1 μ1 vs ds Q s1 r1 p1⟩
theorem pm_isty {T : String} {x y : Str} {pp pq : Pos} (hK : X.K = G.K) (hT : T ∈ tyS) (hg : Gl X x) (hm : X.mg x = none) (hv : bootBuiltins x = some (.builtin "isinstance")) (hn : x ≠ "__name__") (hdb : (x == ("__debug__" : Str)) = false)
    (hg2 : Gl X y) (hm2 : X.mg y = none) (hv2 : bootBuiltins y = some (.type T)) (hn2 : y ≠ "__name__") (hdb2 : (y == ("__debug__" : Str)) = false) (hs : isStar a = false) (ha : PEm G E Γ X a ma) :
    PEm G E Γ X (.Call (.Name x pp) [a, .Name y pq] [] pos) (.bi (.isty T) [ma]) := by
  refine (pe_callB call_isi hg hm hv (pa_cons ha (pa_cons (pe_bltn hg2 hm2 hv2 (v := .ty T) rfl hn2 hdb2) pa_nil) (star_cons hs)) hn hdb (star_cons hs) rfl).weak ?_
  rintro σ H Q ⟨ι, ρ, μ, e, s, p⟩
  have p : Post G E ι H ((evE Γ ma ρ μ).bind fun d μ1 => biD (.isty T) [d] μ1) Q := by
    have e1 : evE Γ (.bi (.isty T) [ma]) ρ μ = (evE Γ ma ρ μ).bind fun d μ1 => biD (.isty T) [d] μ1 := by
      show ((evE Γ ma ρ μ).bind fun d μ1 => (R.ok [] μ1).bind fun ds μ2 => R.ok (d :: ds) μ2).bind (fun ds μ1 => biD (.isty T) ds μ1) = _
      cases evE Γ ma ρ μ <;> rfl
    rw [← e1]
    exact p
  refine ⟨ι, ρ, μ, e, s, Post.bind p fun d μ1 v H1 ι1 _ x1 s1 r1 p1 => ?_⟩
  obtain ⟨v', e', q⟩ := sim_isty hT ι1 H1 μ1 [v] [d] Q s1 (by simp [r1]) p1
  cases e'
  rw [hK]
  exact q
theorem pm_range1 {x y : Str} {pp pq pr : Pos} (hc : X.calm = true) (hg : Gl X "list") (hm : X.mg "list" = none) (hg2 : Gl X "range") (hm2 : X.mg "range" = none) (hs : isStar a = false) (ha : PEm G E Γ X a ma) :
    PEm G E Γ X (.Call (.Name "list" pp) [.Call (.Name "range" pq) [a] [] pr] [] pos) (.bi .range1 [ma]) := by
  refine (pe_listRg hc hg hm (prg_1 hg2 hm2 ha (star_cons hs)) rfl).weak ?_
  rintro σ H Q ⟨ι, ρ, μ, e, s, p⟩
  have p : Post G E ι H ((evE Γ ma ρ μ).bind fun d μ1 => biD .range1 [d] μ1) Q := by
    have e1 : evE Γ (.bi .range1 [ma]) ρ μ = (evE Γ ma ρ μ).bind fun d μ1 => biD .range1 [d] μ1 := by
      show ((evE Γ ma ρ μ).bind fun d μ1 => (R.ok [] μ1).bind fun ds μ2 => R.ok (d :: ds) μ2).bind (fun ds μ1 => biD .range1 ds μ1) = _
      cases evE Γ ma ρ μ <;> rfl
    rw [← e1]
    exact p
  refine ⟨ι, ρ, μ, e, s, Post.bind p fun d μ1 v H1 ι1 _ x1 s1 r1 p1 => ?_⟩
  cases d with
  | int n =>
    cases r1
    obtain ⟨hf, p1⟩ := ite_ok (show Post G E ι1 H1 (if (decide (0 ≤ n) && fits n.toNat) = true then .ok (.lst ((List.range n.toNat).map fun (i : Nat) => .int (i : Int))) μ1 else .bad) Q from p1)
    rw [Bool.and_eq_true] at hf
    have h0 := of_decide_eq_true hf.1
    have h1 := fits_iff.mp hf.2
    have hz := sizeLine_eq
    refine ⟨n, rfl, ⟨by omega, by omega, by omega, by omega, by omega⟩, fun q hq => ?_⟩
    have e1 : rgV 0 n = ((List.range n.toNat).map fun i => V.int (i : Nat)) := by
      unfold rgV
      simp
    rw [e1]
    refine Post.newL p1 s1 hq ?_ (by simp; omega)
    exact rels_map fun i _ => rfl
  | _ => exact p1.elim
where
  rels_map {α : Type} {f : α → V} {g : α → D} {ι : List Addr} {H : Hp} : ∀ {xs : List α}, (∀ x ∈ xs, Rel G ι H (f x) (g x)) → Rels G ι H (xs.map f) (xs.map g)
    | [], _ => by simp
    | x :: xs, h => by
      rw [List.map_cons, List.map_cons, rels_cons]
      exact ⟨h x (by simp), rels_map fun y hy => h y (by simp [hy])⟩
theorem pm_crange1 {x y : Str} {pp pq pr : Pos} (hc : X.calm = true) (hg : Gl X "list") (hm : X.mg "list" = none) (hg2 : Gl X "range") (hm2 : X.mg "range" = none) (hs : isStar a = false) (ha : PEm G E Γ X a ma) :
    PEm G E Γ X (.Call (.Name "list" pp) [.Call (.Name "range" pq) [a] [] pr] [] pos) (.bi .crange1 [ma]) := by
  refine (pe_listRg hc hg hm (prg_1 hg2 hm2 ha (star_cons hs)) rfl).weak ?_
  rintro σ H Q ⟨ι, ρ, μ, e, s, p⟩
  have p : Post G E ι H ((evE Γ ma ρ μ).bind fun d μ1 => biD .crange1 [d] μ1) Q := by
    have e1 : evE Γ (.bi .crange1 [ma]) ρ μ = (evE Γ ma ρ μ).bind fun d μ1 => biD .crange1 [d] μ1 := by
      show ((evE Γ ma ρ μ).bind fun d μ1 => (R.ok [] μ1).bind fun ds μ2 => R.ok (d :: ds) μ2).bind (fun ds μ1 => biD .crange1 ds μ1) = _
      cases evE Γ ma ρ μ <;> rfl
    rw [← e1]
    exact p
  refine ⟨ι, ρ, μ, e, s, Post.bind p fun d μ1 v H1 ι1 _ x1 s1 r1 p1 => ?_⟩
  cases d with
  | int n =>
    cases r1
    obtain ⟨hf, p1⟩ := ite_ok (show Post G E ι1 H1 (if (decide (0 ≤ n) && fits n.toNat) = true then .ok (.cell μ1.length) (μ1 ++ [.lst ((List.range n.toNat).map fun (i : Nat) => .int (i : Int))]) else .bad) Q from p1)
    rw [Bool.and_eq_true] at hf
    have h0 := of_decide_eq_true hf.1
    have h1 := fits_iff.mp hf.2
    have hz := sizeLine_eq
    refine ⟨n, rfl, ⟨by omega, by omega, by omega, by omega, by omega⟩, fun q hq => ?_⟩
    have e1 : rgV 0 n = ((List.range n.toNat).map fun i => V.int (i : Nat)) := by
      unfold rgV
      simp
    rw [e1]
    refine Post.newC p1 s1 hq ?_ (by simp; omega)
    exact pm_range1.rels_map fun i _ => rfl
  | _ => exact p1.elim
theorem pm_lenset {pp pq pr : Pos} (hK : X.K = G.K) (hc : X.calm = true) (hg : Gl X "len") (hm : X.mg "len" = none) (hg2 : Gl X "set") (hm2 : X.mg "set" = none) (hs : isStar a = false) (ha : PEm G E Γ X a ma) :
    PEm G E Γ X (.Call (.Name "len" pp) [.Call (.Name "set" pq) [a] [] pr] [] pos) (.bi .lenset [ma]) := by
  refine (RZ.pe_lenSetI hg hm hg2 hm2 ha hc (star_cons hs)).weak ?_
  rintro σ H Q ⟨ι, ρ, μ, e, s, p⟩
  have p : Post G E ι H ((evE Γ ma ρ μ).bind fun d μ1 => biD .lenset [d] μ1) Q := by
    have e1 : evE Γ (.bi .lenset [ma]) ρ μ = (evE Γ ma ρ μ).bind fun d μ1 => biD .lenset [d] μ1 := by
      show ((evE Γ ma ρ μ).bind fun d μ1 => (R.ok [] μ1).bind fun ds μ2 => R.ok (d :: ds) μ2).bind (fun ds μ1 => biD .lenset ds μ1) = _
      cases evE Γ ma ρ μ <;> rfl
    rw [← e1]
    exact p
  refine ⟨ι, ρ, μ, e, s, Post.bind p fun d μ1 v H1 ι1 _ x1 s1 r1 p1 => ?_⟩
  cases h : (lstOf μ1 d).bind intsD with
  | none =>
    simp only [biD, h] at p1
    exact p1.elim
  | some ns =>
    simp only [biD, h] at p1
    obtain ⟨hf, p1⟩ := ite_ok p1
    rw [Bool.and_eq_true] at hf
    obtain ⟨q, vs, ds, rfl, h1, h2, h3⟩ := lst_bind s1 r1 h
    rw [ints_V h2 h3] at h1
    exact ⟨q, ns, rfl, SqL.of h1, of_decide_eq_true hf.1, of_decide_eq_true hf.2, Post.val p1 s1 rfl⟩
def MSim (G : Gx) (E : XK) (T : String) (r : V → List V → Hp → VK → Prop) (m : ME) : Prop :=
  (∀ ι H μ v x, SOk G ι H μ → Rel G ι H v x → recv m x μ = true → tyV G.K T v H) ∧
  ∀ ι H μ v x vs ds Q, SOk G ι H μ → Rel G ι H v x → Rels G ι H vs ds → Post G E ι H (meD m x ds μ) Q → r v vs H Q
theorem pm_me {m : ME} {T id : String} {name : Str} {apos : Pos} {r : V → List V → Hp → VK → Prop} (hK : X.K = G.K) (pa : PlainAttrs T) (slot : Slot T name id) (hty : typeOf (.builtin id) = pure (.type "method_descriptor")) (hm : MtR X id r) (hsim : MSim G E T r m)
    (hcn : isCallN a = false) (hline : (apos.endLine == pos.line) = true) (hs : (b :: es).all (fun e => !isStar e) = true) (hlen : (b :: es).length < 30) (ha : PEm G E Γ X a ma) (hb : PAm G E Γ X (b :: es) ms) :
    PEm G E Γ X (.Call (.Attribute a name apos) (b :: es) [] pos) (.me m ma ms) := by
  have hs' := hs
  rw [List.all_cons, Bool.and_eq_true] at hs
  have few : ((backTo pos (starEach (b :: es) X.env)).all (fun x => !x.1) && (backToKw pos (keywordEach [] X.env)).all (fun x => x.1.isSome)
      && decide ((b :: es).length + ([] : List Keyword).length + (if ([] : List Keyword).isEmpty then 0 else 1) < 30)) = true := by
    have h1 : (backTo pos (starEach (b :: es) X.env)).all (fun x => !x.1) = true := by
      rw [List.all_eq_true]
      intro x hx
      have := star_plain (env := X.env) (pos := pos) hs'
      rw [List.any_eq_false] at this
      simpa using this x hx
    rw [h1]
    simp only [Bool.true_and]
    have h2 : (backToKw pos (keywordEach [] X.env)).all (fun x => x.1.isSome) = true := rfl
    rw [h2]
    simpa using hlen
  refine (pe_bm pa slot hty hm ha hb (base_plain hcn) few hline (star_cons (by simpa using hs.1)) (star_plain hs.2)).weak ?_
  rintro σ H Q ⟨ι, ρ, μ, e, s, p⟩
  refine ⟨ι, ρ, μ, e, s, Post.bind p fun x μ1 v H1 ι1 _ x1 s1 r1 p1 => ?_⟩
  obtain ⟨hr, p1⟩ := ite_ok p1
  rw [hK]
  refine ⟨hsim.1 ι1 H1 μ1 v x s1 r1 hr, ι1, ρ, μ1, e.ext x1, s1, PostX.bind p1 fun ds μ2 vs H2 ι2 _ x2 s2 r2 p2 => ?_⟩
  exact hsim.2 ι2 H2 μ2 v x vs ds Q s2 (Rel.ext x2 _ _ r1) r2 p2
theorem pm_me0 {m : ME} {T id : String} {name : Str} {apos : Pos} {r : V → List V → Hp → VK → Prop} (hK : X.K = G.K) (pa : PlainAttrs T) (slot : Slot T name id) (hty : typeOf (.builtin id) = pure (.type "method_descriptor")) (hm : MtR X id r) (hsim : MSim G E T r m)
    (hcn : isCallN a = false) (hline : (apos.endLine == pos.line) = true) (ha : PEm G E Γ X a ma) : PEm G E Γ X (.Call (.Attribute a name apos) [] [] pos) (.me m ma []) := by
  refine (pe_bm0 pa slot hty hm ha (base_plain hcn) hline).weak ?_
  rintro σ H Q ⟨ι, ρ, μ, e, s, p⟩
  refine ⟨ι, ρ, μ, e, s, Post.bind p fun x μ1 v H1 ι1 _ x1 s1 r1 p1 => ?_⟩
  obtain ⟨hr, p1⟩ := ite_ok p1
  rw [hK]
  exact ⟨hsim.1 ι1 H1 μ1 v x s1 r1 hr, hsim.2 ι1 H1 μ1 v x [] [] Q s1 r1 (by simp) p1⟩
section
variable {ι : List Addr} {H : Hp} {μ : Sto} {v : V} {x : D} {Q : VK}
theorem ty_list (S : SOk G ι H μ) (r : Rel G ι H v x) (h : (lstOf μ x).isSome = true) : tyV G.K "list" v H := by
  cases e : lstOf μ x with
  | none =>
    rw [e] at h
    cases h
  | some ds =>
    obtain ⟨p, vs, rfl, h1, _⟩ := lst_ok S r e
    exact .inl ⟨rfl, vs, SqL.of h1⟩
theorem wr_ok {f : List D → Option (D × List D)} (S : SOk G ι H μ) (r : Rel G ι H v x) (p : Post G E ι H (wr μ x f) Q) :
    ∃ k a vs ds d es', x = .cell k ∧ v = .ref a ∧ ι[k]? = some a ∧ H a = some (.lst vs) ∧ Rels G ι H vs ds ∧ vs.length ≤ sizeLine ∧ f ds = some (d, es') ∧ Post G E ι H (.ok d (μ.set k (.lst es'))) Q := by
  cases x with
  | cell k =>
    obtain ⟨a, h1, rfl⟩ := r
    unfold wr at p
    cases hk : μ[k]? with
    | none =>
      simp only [hk] at p
      exact p.elim
    | some c =>
      cases c with
      | lst ds =>
        simp only [hk] at p
        cases hf : f ds with
        | none =>
          simp only [hf] at p
          exact p.elim
        | some q =>
          obtain ⟨d, es'⟩ := q
          simp only [hf] at p
          obtain ⟨b, h2, vs, h3, h4, h5⟩ := S.at_ k _ hk
          rw [h1] at h2
          cases h2
          exact ⟨k, a, vs, ds, d, es', rfl, rfl, h1, h3, h4, h5, hf, p⟩
      | ins C fs ds =>
        simp only [hk] at p
        exact p.elim
      | dic ks ds =>
        simp only [hk] at p
        exact p.elim
  | _ => exact p.elim
theorem wr_end {k : Nat} {a : Addr} {vs : List V} {es' : List D} {d : D} {u : V} (S : SOk G ι H μ) (h1 : ι[k]? = some a) (r : Rels G ι H vs es') (z : vs.length ≤ sizeLine) (ru : Rel G ι H u d) (p : Post G E ι H (.ok d (μ.set k (.lst es'))) Q) : Q u (upd H a (.lst vs)) := by
  have e : Ext ι H ι (upd H a (.lst vs)) := S.ext_write h1
  exact p u _ ι e (S.write h1 ⟨vs, upd_same, Rels.ext e _ _ r, z⟩) (Rel.ext e _ _ ru)
theorem ms_append : MSim G E "list" rAppend .append := by
  refine ⟨fun ι H μ v x S r h => ty_list S r h, fun ι H μ v x vs ds Q S r rs p => ?_⟩
  cases ds with
  | nil => exact p.elim
  | cons d ds =>
    cases ds with
    | cons _ _ => exact p.elim
    | nil =>
      obtain ⟨u, rfl, ru⟩ := r1_of rs
      obtain ⟨k, a, ws, ds, d', es', rfl, rfl, h1, h2, h3, h4, h5, p⟩ := wr_ok S r p
      by_cases hl : ds.length < sizeLine
      · rw [if_pos (by simpa using hl)] at h5
        cases h5
        rw [← h3.len] at hl
        exact ⟨a, ws, u, rfl, rfl, h2, hl, wr_end S h1 (h3.append (by simp [ru])) (by rw [List.length_append]; exact hl) (show Rel G ι H V.non D.non from rfl) p⟩
      · rw [if_neg (by simpa using hl)] at h5
        cases h5
theorem ms_pop0 : MSim G E "list" rPop .pop0 := by
  refine ⟨fun ι H μ v x S r h => ty_list S r h, fun ι H μ v x vs ds Q S r rs p => ?_⟩
  cases ds with
  | cons _ _ => exact p.elim
  | nil =>
    rw [rels_nil_iff] at rs
    subst rs
    obtain ⟨k, a, ws, ds, d', es', rfl, rfl, h1, h2, h3, h4, h5, p⟩ := wr_ok S r p
    cases hd : ds.getLast? with
    | none => simp [hd] at h5
    | some d =>
      simp only [hd, Option.map_some, Option.some.injEq, Prod.mk.injEq] at h5
      obtain ⟨rfl, rfl⟩ := h5
      rw [List.getLast?_eq_getElem?] at hd
      obtain ⟨u, e1, ru⟩ := h3.get hd
      rw [← h3.len] at e1
      have hdl : Rels G ι H ws.dropLast ds.dropLast := by
        rw [List.dropLast_eq_take, List.dropLast_eq_take, h3.len]
        exact h3.take _
      exact ⟨a, ws, u, rfl, rfl, h2, e1, wr_end S h1 hdl (by rw [List.length_dropLast]; omega) ru p⟩
theorem ms_pop : MSim G E "list" rPopAt .pop := by
  refine ⟨fun ι H μ v x S r h => ty_list S r h, fun ι H μ v x vs ds Q S r rs p => ?_⟩
  cases ds with
  | nil => exact p.elim
  | cons d ds =>
    cases ds with
    | cons _ _ => cases d <;> exact p.elim
    | nil =>
      obtain ⟨u, rfl, ru⟩ := r1_of rs
      cases d with
      | int i =>
        cases ru
        obtain ⟨k, a, ws, ds, d', es', rfl, rfl, h1, h2, h3, h4, h5, p⟩ := wr_ok S r p
        by_cases hl : 0 ≤ i
        · rw [if_pos (by simpa using hl)] at h5
          cases hd : ds[i.toNat]? with
          | none => simp [hd] at h5
          | some d =>
            simp only [hd, Option.map_some, Option.some.injEq, Prod.mk.injEq] at h5
            obtain ⟨rfl, rfl⟩ := h5
            obtain ⟨u, e1, ru⟩ := h3.get hd
            have hlt : i.toNat < ws.length := (List.getElem?_eq_some_iff.mp e1).1
            have hz := sizeLine_eq
            refine ⟨a, ws, i, i.toNat, u, rfl, rfl, h2, by omega, by omega, ?_, e1, wr_end S h1 (h3.erase _) (Nat.le_trans (len_erase ws _) h4) ru p⟩
            exact seqIndex_of hl (by omega)
        · rw [if_neg (by simpa using hl)] at h5
          cases h5
      | _ => exact p.elim
theorem ms_index : MSim G E "list" (rIndexD G.K) .index := by
  refine ⟨fun ι H μ v x S r h => ty_list S r h, fun ι H μ v x vs ds Q S r rs p => ?_⟩
  cases ds with
  | nil => exact p.elim
  | cons d ds =>
    cases ds with
    | cons _ _ => exact p.elim
    | nil =>
      obtain ⟨u, rfl, ru⟩ := r1_of rs
      cases h1 : (lstOf μ x).bind toPys with
      | none =>
        simp only [meD, h1] at p
        exact p.elim
      | some ys =>
        cases h2 : toPyC μ d with
        | none =>
          simp only [meD, h1, h2] at p
          exact p.elim
        | some y =>
          simp only [meD, h1, h2] at p
          obtain ⟨hf, p⟩ := ite_ok p
          rw [Bool.and_eq_true] at hf
          cases h3 : ys.findIdx? (fun z => PyData.eqv z y) with
          | none =>
            simp only [h3] at p
            exact p.elim
          | some j =>
            simp only [h3] at p
            obtain ⟨q, ws, es', rfl, g1, g2, g3⟩ := lst_bind S r h1
            rw [List.findIdx?_eq_some_iff_getElem] at h3
            obtain ⟨hj, hp, hno⟩ := h3
            refine ⟨q, u, y, ys, j, ys[j], rfl, rfl, .lst (SqL.of g1) (toPys_ok _ _ _ g2 g3), toPyC_ok S ru h2, hf.1, hf.2, by simp [hj], hp, fun m z hm hz => ?_, Post.val p S rfl⟩
            have hm' : m < ys.length := by omega
            rw [List.getElem?_eq_getElem hm'] at hz
            cases hz
            simpa using hno m hm
theorem rels_strs {ι : List Addr} {H : Hp} : ∀ (xs : List Str), Rels G ι H (xs.map V.str) (xs.map D.str)
  | [] => by simp
  | x :: xs => by
    rw [List.map_cons, List.map_cons, rels_cons]
    exact ⟨rfl, rels_strs xs⟩
theorem ty_str (r : Rel G ι H v x) (h : recv .split x μ = true) : tyV G.K "str" v H := by
  cases x with
  | str z =>
    cases r
    exact rfl
  | _ => cases h
def rSplit : V → List V → Hp → VK → Prop := fun x xs H Q => ∃ a b, x = .str a ∧ xs = [.str b] ∧ (b.length == 0) = false ∧ a.length + 2 ≤ sizeLine ∧ rNewStrs (Txt.split a b) H Q
end
end
end T
namespace T
open PySem PySem.Spec PyProof.Rows L2
abbrev Gx.wz (G : Gx) (z : List Addr) : Gx := { G with z := z }
structure Mv (G : Gx) (ι : List Addr) (H : Hp) (z' : List Addr) (ι' : List Addr) (H' : Hp) : Prop where
  non : ∀ p o, H p = some o → G.non ι p → p ∉ ι' ∧ p ∉ z'
  keep : ∀ p o, H p = some o → G.non ι p → H' p = some o
  idx : ∀ (k : Nat) a, ι[k]? = some a → ι'[k]? = some a
section
variable {G : Gx} {ι ι' z' : List Addr} {H H' : Hp}
theorem Rd.mv (e : Mv G ι H z' ι' H') {p : Addr} {u : HO} (h : Rd H p u) (n : G.non ι p) : Rd H' p u ∧ (G.wz z').non ι' p := by
  rcases h with h | ⟨o, h⟩
  · exact ⟨.inl (e.keep _ _ h n), e.non _ _ h n⟩
  · exact ⟨.inr ⟨o, e.keep _ _ h n⟩, e.non _ _ h n⟩
theorem TupAt.mv (e : Mv G ι H z' ι' H') {p : Addr} {vs : List V} (h : TupAt G ι H p vs) : TupAt (G.wz z') ι' H' p vs := ⟨h.1, h.2.elim (fun z => .inl (Rd.mv e z.1 z.2)) .inr⟩
theorem LstAt.mv (e : Mv G ι H z' ι' H') {p : Addr} {vs : List V} (h : LstAt G ι H p vs) : LstAt (G.wz z') ι' H' p vs := ⟨h.1, h.2.elim (fun z => .inl (Rd.mv e z.1 z.2)) .inr⟩
mutual
theorem Rel.mv (e : Mv G ι H z' ι' H') : ∀ (d : D) (v : V), Rel G ι H v d → Rel (G.wz z') ι' H' v d
  | .non, _, h => h
  | .bl _, _, h => h
  | .int _, _, h => h
  | .str _, _, h => h
  | .tup ds, _, h => by
    obtain ⟨p, vs, e1, h1, h2⟩ := h
    exact ⟨p, vs, e1, h1.mv e, Rels.mv e ds vs h2⟩
  | .lst ds, _, h => by
    obtain ⟨p, vs, e1, ⟨h0, h1, n⟩, h2⟩ := h
    exact ⟨p, vs, e1, ⟨h0, e.keep _ _ h1 n, e.non _ _ h1 n⟩, Rels.mv e ds vs h2⟩
  | .fro ds, _, h => by
    obtain ⟨p, vs, e1, h1, h2⟩ := h
    exact ⟨p, vs, e1, h1.mv e, Rels.mv e ds vs h2⟩
  | .dic ks ds, _, h => by
    obtain ⟨p, vs, e1, h1, h2, h3⟩ := h
    exact ⟨p, vs, e1, Rd.mv e h1.1 h1.2, Rels.mv e ds vs h2, h3⟩
  | .wdic ks ds, _, h => by
    obtain ⟨p, vs, e1, h1, h2, h3⟩ := h
    exact ⟨p, vs, e1, h1, Rels.mv e ds vs h2, h3⟩
  | .cell k, _, h => by
    obtain ⟨a, h1, h2⟩ := h
    exact ⟨a, e.idx _ _ h1, h2⟩
  | .ins C fs ds, _, h => by
    obtain ⟨p, dx, vs, e1, n, h1, h2, h3⟩ := h
    exact ⟨p, dx, vs, e1, e.non _ _ h1 n, e.keep _ _ h1 n, Rels.mv e ds vs h2, h3⟩
  | .fn _, _, h => h
  | .cls _, _, h => h
  | .ty _, _, h => h
theorem Rels.mv (e : Mv G ι H z' ι' H') : ∀ (ds : List D) (vs : List V), Rels G ι H vs ds → Rels (G.wz z') ι' H' vs ds
  | [], [], h => by simp
  | [], _ :: _, h => by simp [Rels] at h
  | _ :: _, [], h => by simp [Rels] at h
  | d :: ds, v :: vs, h => by
    rw [rels_cons] at h
    rw [rels_cons]
    exact ⟨Rel.mv e d v h.1, Rels.mv e ds vs h.2⟩
end
theorem CellAt.mv (e : Mv G ι H z' ι' H') {a : Addr} {c : Cell} (ha : H' a = H a) (h : CellAt G ι H a c) : CellAt (G.wz z') ι' H' a c := by
  cases c with
  | lst ds =>
    obtain ⟨vs, h, r, z⟩ := h
    exact ⟨vs, ha.trans h, Rels.mv e _ _ r, z⟩
  | ins C fs ds =>
    obtain ⟨dx, vs, h, r, z⟩ := h
    exact ⟨dx, vs, ha.trans h, Rels.mv e _ _ r, z⟩
  | dic ks ds =>
    obtain ⟨vs, h, r, z⟩ := h
    exact ⟨vs, ha.trans h, Rels.mv e _ _ r, z⟩
theorem SOk.mv {μ : Sto} (S : SOk G ι H μ) (m : Mv G ι H z' ι H') (hz : ∀ a ∈ z', H' a ≠ none ∧ a ∉ ι) (hc : ∀ a ∈ ι, H' a = H a) : SOk (G.wz z') ι H' μ :=
  ⟨S.len, S.nd, hz, fun k c hk => by
    obtain ⟨a, h1, h2⟩ := S.at_ k c hk
    exact ⟨a, h1, h2.mv m (hc a (List.mem_of_getElem? h1))⟩⟩
theorem EOk.mv {σ : L2.St} {ρ : Env} (e : Mv G ι H z' ι' H') (h : EOk G ι H σ ρ) : EOk (G.wz z') ι' H' σ ρ :=
  ⟨h.len, fun i d q => let ⟨v, h1, h2⟩ := h.at_ i d q; ⟨v, h1, Rel.mv e d v h2⟩⟩
end
theorem rels_map {G : Gx} {α : Type} {f : α → V} {g : α → D} {ι : List Addr} {H : Hp} : ∀ {xs : List α}, (∀ x ∈ xs, Rel G ι H (f x) (g x)) → Rels G ι H (xs.map f) (xs.map g)
  | [], _ => by simp
  | x :: xs, h => by
    rw [List.map_cons, List.map_cons, rels_cons]
    exact ⟨h x (by simp), rels_map fun y hy => h y (by simp [hy])⟩
def kdOf (v : V) (x : D) : Kd := match x, v with
  | .tup _, .ref p => .t p
  | .str z, _ => .s z
  | _, .ref p => .l p
  | _, _ => .s ⟨#[]⟩
section
variable {G : Gx} {ι : List Addr} {H : Hp} {μ μ0 : Sto} {v : V} {x : D} {ds : List D} {gs : List (Nat × List D)}
theorem kd_at (S : SOk G ι H μ) (r : Rel G ι H v x) (e : srcOf μ x = some (ds, gs)) : v = (kdOf v x).v ∧ ∃ vs, (kdOf v x).has G.K H vs ∧ Rels G ι H vs ds ∧ vs.length ≤ sizeLine := by
  cases x with
  | tup es =>
    simp only [srcOf, seqOf, Option.map_some, Option.some.injEq, Prod.mk.injEq] at e
    obtain ⟨rfl, rfl⟩ := e
    obtain ⟨p, vs, rfl, h1, h2, h3⟩ := tup_ok r
    exact ⟨rfl, vs, h1, h2, h3⟩
  | lst es =>
    simp only [srcOf, seqOf, Option.map_some, Option.some.injEq, Prod.mk.injEq] at e
    obtain ⟨rfl, rfl⟩ := e
    obtain ⟨p, vs, rfl, h1, h2, h3⟩ := lst_ok S r rfl
    exact ⟨rfl, vs, SqL.of h1, h2, h3⟩
  | fro es =>
    simp only [srcOf, seqOf, Option.map_some, Option.some.injEq, Prod.mk.injEq] at e
    obtain ⟨rfl, rfl⟩ := e
    obtain ⟨p, vs, rfl, h2, h3⟩ := r
    exact ⟨rfl, vs, h2.sq, h3, h2.1⟩
  | cell k =>
    cases hk : μ[k]? with
    | none => simp [srcOf, hk] at e
    | some c =>
      cases c with
      | lst es =>
        simp only [srcOf, hk, Option.some.injEq, Prod.mk.injEq] at e
        obtain ⟨rfl, rfl⟩ := e
        obtain ⟨p, vs, rfl, h1, h2, h3⟩ := lst_ok (ds := es) S r (by simp [lstOf, hk])
        exact ⟨rfl, vs, SqL.of h1, h2, h3⟩
      | ins _ _ _ => simp [srcOf, hk] at e
      | dic _ _ => simp [srcOf, hk] at e
  | str z =>
    simp only [srcOf] at e
    split at e
    · rename_i hf
      simp only [Option.some.injEq, Prod.mk.injEq] at e
      obtain ⟨rfl, rfl⟩ := e
      cases r
      refine ⟨rfl, _, rfl, rels_map fun c _ => rfl, ?_⟩
      have := fits_iff.mp hf
      simpa [Str.length] using this
    · cases e
  | _ => simp [srcOf, seqOf] at e
theorem src_still (e : srcOf μ0 x = some (ds, gs)) (h : still gs μ) : srcOf μ x = some (ds, gs) := by
  cases x with
  | cell k =>
    cases hk : μ0[k]? with
    | none => simp [srcOf, hk] at e
    | some c =>
      cases c with
      | lst es =>
        simp only [srcOf, hk, Option.some.injEq, Prod.mk.injEq] at e
        obtain ⟨rfl, rfl⟩ := e
        have := h (k, es) (by simp)
        simp only [srcOf, this]
      | ins _ _ _ => simp [srcOf, hk] at e
      | dic _ _ => simp [srcOf, hk] at e
  | str z => exact e
  | tup es => exact e
  | lst es => exact e
  | fro es => exact e
  | _ => simp [srcOf, seqOf] at e
theorem still_app {g1 g2 : List (Nat × List D)} (h : still (g1 ++ g2) μ) : still g1 μ ∧ still g2 μ := ⟨fun p hp => h p (by simp [hp]), fun p hp => h p (by simp [hp])⟩
theorem items_still {ik : IK} {xs : List D} (e : itemsOf ik xs μ0 = some (ds, gs)) (h : still gs μ) : itemsOf ik xs μ = some (ds, gs) := by
  unfold itemsOf at e ⊢
  split at e
  · exact src_still e h
  · exact e
  · exact e
  · rename_i x
    rw [Option.map_eq_some_iff] at e
    obtain ⟨⟨es, g⟩, e1, e2⟩ := e
    simp only [Prod.mk.injEq] at e2
    obtain ⟨e2, rfl⟩ := e2
    rw [src_still e1 h]
    simp [e2]
  · rename_i x y
    cases h1 : srcOf μ0 x with
    | none => simp [h1] at e
    | some p =>
      cases h2 : srcOf μ0 y with
      | none => simp [h1, h2] at e
      | some q =>
        simp only [h1, h2, Option.some.injEq, Prod.mk.injEq] at e
        obtain ⟨e, rfl⟩ := e
        obtain ⟨s1, s2⟩ := still_app h
        rw [src_still (ds := p.1) (gs := p.2) h1 s1, src_still (ds := q.1) (gs := q.2) h2 s2]
        simp [e]
  · cases e
def jOf (K : PySem.W.Frag) (ik : IK) (xs : List D) (vs : List V) : It := match ik, xs, vs with
  | .plain, [x], [v] => (match kdOf v x with
    | .l a => Itl K a
    | .t a => Itt K a
    | .s z => Its z)
  | .enum, [x], [v] => IteK K (kdOf v x)
  | .zip, [x, y], [v, w] => ItzK K (kdOf v x) (kdOf w y)
  | .range, [.int n], _ => Itr 0 n.toNat
  | .range, [.int a, .int b], _ => Itr a (b - a).toNat
  | _, _, _ => Itr 0 0
def Ylds (G : Gx) (ι : List Addr) (H : Hp) (J : It) (i : Nat) (d : D) : Prop :=
  J.go i H ∧ ∀ x H', J.yld i H x H' → (H' = H ∨ ∃ T o, H T = none ∧ H' = upd H T o) ∧ Rel G ι H' x d
theorem Kd.one {k : Kd} {K : PySem.W.Frag} {vs ws : List V} : k.has K H vs → k.has K H vs := id
theorem walk_at {ik : IK} {xs : List D} {vs : List V} (S : SOk G ι H μ) (r : Rels G ι H vs xs) (e : itemsOf ik xs μ = some (ds, gs)) :
    ds.length ≤ sizeLine ∧ (∀ i d, ds[i]? = some d → Ylds G ι H (jOf G.K ik xs vs) i d) ∧ (jOf G.K ik xs vs).stop ds.length H := by
  unfold itemsOf at e
  split at e
  · rename_i x
    obtain ⟨v, rfl, rv⟩ := r1_of r
    obtain ⟨ev, ws, h1, h2, h3⟩ := kd_at S rv e
    have hl := h2.len
    refine ⟨by omega, ?_⟩
    show (∀ i d, ds[i]? = some d → Ylds G ι H (match kdOf v x with
      | .l a => Itl G.K a
      | .t a => Itt G.K a
      | .s z => Its z) i d) ∧ (match kdOf v x with
      | .l a => Itl G.K a
      | .t a => Itt G.K a
      | .s z => Its z).stop ds.length H
    cases hk : kdOf v x with
    | l a =>
      rw [hk] at h1
      have h1 : SqL G.K H a ws := h1
      refine ⟨fun i d hd => ?_, ws, h1, by omega⟩
      obtain ⟨u, e1, ru⟩ := h2.get hd
      refine ⟨⟨ws, u, h1, e1⟩, ?_⟩
      rintro y H' ⟨rfl, hy⟩
      have := hy ws h1
      rw [e1] at this
      cases this
      exact ⟨.inl rfl, ru⟩
    | t a =>
      rw [hk] at h1
      have h1 : SqT G.K H a ws := h1
      refine ⟨fun i d hd => ?_, ws, h1, by omega⟩
      obtain ⟨u, e1, ru⟩ := h2.get hd
      refine ⟨⟨ws, u, h1, e1⟩, ?_⟩
      rintro y H' ⟨rfl, hy⟩
      have := hy ws h1
      rw [e1] at this
      cases this
      exact ⟨.inl rfl, ru⟩
    | s z =>
      rw [hk] at h1
      have h1 : ws = z.cps.toList.map fun c => V.str ⟨#[c]⟩ := h1
      subst h1
      have hl : z.cps.size = ds.length := by simpa using hl
      refine ⟨fun i d hd => ?_, show z.cps.size ≤ ds.length by omega⟩
      obtain ⟨u, e1, ru⟩ := h2.get hd
      have hi := (List.getElem?_eq_some_iff.mp hd).1
      refine ⟨show i < z.cps.size by omega, ?_⟩
      rintro y H' ⟨rfl, c, hc, rfl⟩
      refine ⟨.inl rfl, ?_⟩
      rw [List.getElem?_map, Array.getElem?_toList, hc] at e1
      cases e1
      exact ru
  · rename_i n
    split at e
    · rename_i hf
      cases e
      rw [Bool.and_eq_true] at hf
      have := fits_iff.mp hf.2
      refine ⟨by simpa using this, fun i d hd => ?_, ?_⟩
      · have hd : ((List.range n.toNat).map fun (i : Nat) => D.int (i : Int))[i]? = some d := hd
        rw [List.getElem?_map] at hd
        cases hr : (List.range n.toNat)[i]? with
        | none => simp [hr] at hd
        | some j =>
          rw [hr] at hd
          cases hd
          obtain ⟨l1, e1⟩ := List.getElem?_eq_some_iff.mp hr
          simp only [List.getElem_range] at e1
          subst e1
          refine ⟨show i < n.toNat by simpa using l1, ?_⟩
          rintro y H' ⟨rfl, rfl⟩
          exact ⟨.inl rfl, by show V.int (0 + (i : Int)) = V.int i; rw [Int.zero_add]⟩
      · show n.toNat ≤ _
        simp
    · cases e
  · rename_i a b
    split at e
    · rename_i hf
      cases e
      rw [Bool.and_eq_true] at hf
      have := fits_iff.mp hf.2
      refine ⟨by simpa using this, fun i d hd => ?_, ?_⟩
      · have hd : ((List.range (b - a).toNat).map fun (i : Nat) => D.int (a + (i : Int)))[i]? = some d := hd
        rw [List.getElem?_map] at hd
        cases hr : (List.range (b - a).toNat)[i]? with
        | none => simp [hr] at hd
        | some j =>
          rw [hr] at hd
          cases hd
          obtain ⟨l1, e1⟩ := List.getElem?_eq_some_iff.mp hr
          simp only [List.getElem_range] at e1
          subst e1
          refine ⟨show i < (b - a).toNat by simpa using l1, ?_⟩
          rintro y H' ⟨rfl, rfl⟩
          exact ⟨.inl rfl, rfl⟩
      · show (b - a).toNat ≤ _
        simp
    · cases e
  · rename_i x
    rw [Option.map_eq_some_iff] at e
    obtain ⟨⟨es, g⟩, e1, e2⟩ := e
    simp only [Prod.mk.injEq] at e2
    obtain ⟨rfl, rfl⟩ := e2
    obtain ⟨v, rfl, rv⟩ := r1_of r
    obtain ⟨ev, ws, h1, h2, h3⟩ := kd_at S rv e1
    have hl := h2.len
    refine ⟨by simp; omega, fun i d hd => ?_, ws, h1, by simp; omega⟩
    rw [List.getElem?_zipWith] at hd
    cases hr : (List.range es.length)[i]? with
    | none => simp [hr] at hd
    | some j =>
      cases hs : es[i]? with
      | none => simp [hr, hs] at hd
      | some d' =>
        rw [hr, hs] at hd
        cases hd
        obtain ⟨l1, e1⟩ := List.getElem?_eq_some_iff.mp hr
        simp only [List.getElem_range] at e1
        subst e1
        obtain ⟨u, e2, ru⟩ := h2.get hs
        refine ⟨⟨ws, u, h1, e2⟩, ?_⟩
        rintro y H' ⟨T, q, rfl, hT, rfl, hq⟩
        have := hq ws h1
        rw [e2] at this
        cases this
        refine ⟨.inr ⟨T, _, hT, rfl⟩, T, [.int i, u], rfl, ⟨by show 2 ≤ sizeLine; decide, .inl ⟨.inl upd_same, S.fresh hT⟩⟩, ?_⟩
        rw [rels_cons, rels_cons]
        exact ⟨rfl, Rel.ext (Ext.new hT) _ _ ru, by simp⟩
  · rename_i x y
    cases h1 : srcOf μ x with
    | none => simp [h1] at e
    | some p =>
      cases h2 : srcOf μ y with
      | none => simp [h1, h2] at e
      | some q =>
        simp only [h1, h2, Option.some.injEq, Prod.mk.injEq] at e
        obtain ⟨rfl, rfl⟩ := e
        obtain ⟨v, w, rfl, rv, rw'⟩ := r2_of r
        obtain ⟨ev, vs1, a1, a2, a3⟩ := kd_at (ds := p.1) (gs := p.2) S rv h1
        obtain ⟨ew, vs2, b1, b2, b3⟩ := kd_at (ds := q.1) (gs := q.2) S rw' h2
        have la := a2.len
        have lb := b2.len
        refine ⟨by rw [List.length_zipWith]; omega, fun i d hd => ?_, vs1, vs2, a1, b1, by rw [List.length_zipWith]; omega⟩
        rw [List.getElem?_zipWith] at hd
        cases hr : p.1[i]? with
        | none => simp [hr] at hd
        | some d1 =>
          cases hs : q.1[i]? with
          | none => simp [hr, hs] at hd
          | some d2 =>
            rw [hr, hs] at hd
            cases hd
            obtain ⟨u1, e1, ru1⟩ := a2.get hr
            obtain ⟨u2, e2, ru2⟩ := b2.get hs
            refine ⟨⟨vs1, vs2, u1, u2, a1, b1, e1, e2⟩, ?_⟩
            rintro z H' ⟨T, q1, q2, rfl, hT, rfl, hq1, hq2⟩
            have t1 := hq1 vs1 a1
            have t2 := hq2 vs2 b1
            rw [e1] at t1
            rw [e2] at t2
            cases t1
            cases t2
            refine ⟨.inr ⟨T, _, hT, rfl⟩, T, [u1, u2], rfl, ⟨by show 2 ≤ sizeLine; decide, .inl ⟨.inl upd_same, S.fresh hT⟩⟩, ?_⟩
            rw [rels_cons, rels_cons]
            exact ⟨Rel.ext (Ext.new hT) _ _ ru1, Rel.ext (Ext.new hT) _ _ ru2, by simp⟩
  · cases e
end
theorem _root_.L2.PI.weak {X : Cx} {tg it : Expr} {t t' : TI} (h : PI X tg it t) (k : ∀ σ H R, t' σ H R → t σ H R) : PI X tg it t' := ⟨fun pins s σ H R I q => h.run pins s σ H R I (k σ H R q)⟩
def iKd (K : PySem.W.Frag) (te : TE) : TI := fun σ H R => te σ H fun v H1 => ∃ k xs, v = Kd.v k ∧ k.has K H1 xs ∧ R (match k with
  | .l a => Itl K a
  | .t a => Itt K a
  | .s z => Its z) H1
theorem pi_kd {X : Cx} {tg e : Expr} {te : TE} (he : PE X e te) : PI X tg e (iKd X.K te) := by
  refine ⟨fun pins s σ H R I h => ?_⟩
  refine thn (he.run pins s σ H _ I h) fun v s1 ⟨x, H1, I1, r1, k, xs, e, hq, q⟩ => ?_
  subst e
  cases k with
  | l a =>
    cases r1
    obtain ⟨its, rv, p, hz⟩ := I1.list hq
    refine wpAny_pyIter_list p.isList ?_
    refine ⟨s1.heap.objs.size, [s1.heap.objs.size], _, _, H1, rfl, I1.kept (t' := s1.toks) fun b o e => Heap.get?_push_of_some _ e, turn_list a _, ⟨_, Heap.get?_push_size _ rfl, rfl, rfl⟩, fun b hb => ?_, q⟩
    have e : b = s1.heap.objs.size := by simpa using hb
    subst e
    exact I1.fpOk (Nat.le_refl _) (I1.hok.fresh (Nat.le_refl _))
  | t a =>
    cases r1
    obtain ⟨its, rv, p, hz⟩ := I1.tuple hq
    refine wpAny_pyIter_tuple (show s1.heap.IsTuple a its.toArray from p) ?_
    refine ⟨s1.heap.objs.size, [s1.heap.objs.size], _, _, H1, rfl, I1.kept (t' := s1.toks) fun b o e => Heap.get?_push_of_some _ e, turn_tuple a _, ⟨_, Heap.get?_push_size _ rfl, rfl, rfl⟩, fun b hb => ?_, q⟩
    have e : b = s1.heap.objs.size := by simpa using hb
    subst e
    exact I1.fpOk (Nat.le_refl _) (I1.hok.fresh (Nat.le_refl _))
  | s x =>
    obtain ⟨t, rfl⟩ := r1
    cases ha : x.cps.all (· < 128)
    · exact wpAny_pyIter_wide ha (pi_one (tk := s1.toks) I1 _ (turn_str _ x t "str_iterator" (.inr rfl)) ⟨_, Heap.get?_push_size _ rfl, rfl, rfl⟩ q)
    · exact wpAny_pyIter_ascii ha (pi_one (tk := s1.toks) I1 _ (turn_str _ x t "str_ascii_iterator" (.inl rfl)) ⟨_, Heap.get?_push_size _ rfl, rfl, rfl⟩ q)
def iX (G : Gx) (E : XK) (Γ : Tb) (ik : IK) (ms : List Ee) : TI := fun σ H R => TAv G E (evEs Γ ms) σ H fun vs H1 => ∃ xs μ1 ι1 ds gs, Rels G ι1 H1 vs xs ∧ SOk G ι1 H1 μ1 ∧ itemsOf ik xs μ1 = some (ds, gs) ∧ R (jOf G.K ik xs vs) H1
abbrev PIm (G : Gx) (E : XK) (Γ : Tb) (X : Cx) (tg it : Expr) (ik : IK) (ms : List Ee) : Prop := PI X tg it (iX G E Γ ik ms)
section
variable {μ : Sto} {xs : List D} {p : List D × List (Nat × List D)}
theorem items_plain (h : itemsOf .plain xs μ = some p) : ∃ x, xs = [x] ∧ srcOf μ x = some p := by
  cases xs with
  | nil => cases h
  | cons x r =>
    cases r with
    | nil => exact ⟨x, rfl, h⟩
    | cons _ _ => cases h
theorem items_enum (h : itemsOf .enum xs μ = some p) : ∃ x q, xs = [x] ∧ srcOf μ x = some q := by
  cases xs with
  | nil => cases h
  | cons x r =>
    cases r with
    | nil =>
      have h : (srcOf μ x).map (fun p => ((List.range p.1.length).zipWith (fun i d => D.tup [.int (i : Nat), d]) p.1, p.2)) = some p := h
      rw [Option.map_eq_some_iff] at h
      obtain ⟨q, h1, _⟩ := h
      exact ⟨x, q, rfl, h1⟩
    | cons _ _ => cases h
theorem items_zip (h : itemsOf .zip xs μ = some p) : ∃ x y q r, xs = [x, y] ∧ srcOf μ x = some q ∧ srcOf μ y = some r := by
  cases xs with
  | nil => cases h
  | cons x r =>
    cases r with
    | nil => cases h
    | cons y r =>
      cases r with
      | nil =>
        cases h1 : srcOf μ x with
        | none => simp [itemsOf, h1] at h
        | some q =>
          cases h2 : srcOf μ y with
          | none => simp [itemsOf, h1, h2] at h
          | some r => exact ⟨x, y, q, r, rfl, h1, h2⟩
      | cons _ _ => cases h
theorem items_range (h : itemsOf .range xs μ = some p) : (∃ n : Int, xs = [.int n] ∧ -(2 ^ 62) ≤ n ∧ n < 2 ^ 62) ∨ (∃ a b : Int, xs = [.int a, .int b] ∧ (-(2 ^ 62) ≤ a ∧ a < 2 ^ 62 ∧ -(2 ^ 62) ≤ b ∧ b < 2 ^ 62)) := by
  unfold itemsOf at h
  split at h
  · rename_i heq
    cases heq
  · rename_i n _
    split at h
    · rename_i hf
      rw [Bool.and_eq_true] at hf
      have := of_decide_eq_true hf.1
      exact .inl ⟨n, rfl, this.1, this.2⟩
    · cases h
  · rename_i a b _
    split at h
    · rename_i hf
      rw [Bool.and_eq_true] at hf
      exact .inr ⟨a, b, rfl, of_decide_eq_true hf.1⟩
    · cases h
  all_goals first
    | (rename_i heq; cases heq)
    | cases h
end
section
variable {G : Gx} {Γ : Tb} {E : XK} {X : Cx} {a b : Expr} {ma mb : Ee} {pos : Pos} {tg : Expr} {es : List Expr} {ms : List Ee}
theorem im_plain (hK : X.K = G.K) (ha : PEm G E Γ X a ma) : PIm G E Γ X tg a .plain [ma] :=
  (pi_kd ha).weak (by
    rintro σ H R ⟨ι, ρ, μ, e, s, p⟩
    have p : PostX G (Rels G) E ι H ((evE Γ ma ρ μ).bind fun d μ1 => T.R.ok [d] μ1) _ := p
    refine ⟨ι, ρ, μ, e, s, PostX.bind p fun x μ1 v H1 ι1 _ x1 s1 r1 p1 => ?_⟩
    obtain ⟨xs, μ2, ι2, ds, gs, q1, q2, q3, q4⟩ := PostX.here (b := [v]) p1 s1 (by rw [rels_cons]; exact ⟨r1, by simp⟩)
    rw [hK]
    obtain ⟨x, rfl, q3⟩ := items_plain q3
    obtain ⟨v', e1, rv⟩ := r1_of q1
    cases e1
    obtain ⟨ev, ws, h1, h2, h3⟩ := kd_at q2 rv q3
    exact ⟨kdOf v x, ws, ev, h1, q4⟩)
theorem im_enum {elts : List Expr} {kk : Nat} {tpos p : Pos} (hK : X.K = G.K) (hg : Gl X "enumerate") (hm : X.mg "enumerate" = none) (hs : isStar a = false) (ha : PAm G E Γ X [a] ms) : PIm G E Γ X (.Tuple elts kk tpos) (.Call (.Name "enumerate" p) [a] [] pos) .enum ms :=
  (pi_enumK hg hm ha (star_cons hs)).weak (by
    rintro σ H R ⟨ι, ρ, μ, e, s, p⟩
    refine ⟨ι, ρ, μ, e, s, PostX.imp p fun vs H1 q => ?_⟩
    obtain ⟨xs, μ2, ι2, ds, gs, q1, q2, q3, q4⟩ := q
    obtain ⟨x, q, rfl, g3⟩ := items_enum q3
    obtain ⟨v, rfl, rv⟩ := r1_of q1
    obtain ⟨ev, ws, h1, h2, h3⟩ := kd_at (ds := q.1) (gs := q.2) q2 rv g3
    rw [hK]
    exact ⟨kdOf v x, ws, by rw [← ev], h1, q4⟩)
theorem im_zip {elts : List Expr} {kk : Nat} {tpos p : Pos} (hK : X.K = G.K) (hg : Gl X "zip") (hm : X.mg "zip" = none) (hs : isStar a = false) (hs2 : isStar b = false) (ha : PAm G E Γ X [a, b] ms) : PIm G E Γ X (.Tuple elts kk tpos) (.Call (.Name "zip" p) [a, b] [] pos) .zip ms :=
  (pi_zipK hg hm ha (star_cons hs) (star_plain (by simp [hs2]))).weak (by
    rintro σ H R ⟨ι, ρ, μ, e, s, p⟩
    refine ⟨ι, ρ, μ, e, s, PostX.imp p fun vs H1 q => ?_⟩
    obtain ⟨xs, μ2, ι2, ds, gs, q1, q2, q3, q4⟩ := q
    obtain ⟨x, y, p, q, rfl, g3, q5⟩ := items_zip q3
    obtain ⟨v, w, rfl, rv, rw'⟩ := r2_of q1
    obtain ⟨ev, vs1, h1, _, _⟩ := kd_at (ds := p.1) (gs := p.2) q2 rv g3
    obtain ⟨ew, vs2, h2, _, _⟩ := kd_at (ds := q.1) (gs := q.2) q2 rw' q5
    rw [hK]
    exact ⟨kdOf v x, kdOf w y, vs1, vs2, by rw [← ev, ← ew], h1, h2, q4⟩)
theorem im_range1 {p : Pos} (hg : Gl X "range") (hm : X.mg "range" = none) (hs : isStar a = false) (ha : PAm G E Γ X [a] [ma]) : PIm G E Γ X tg (.Call (.Name "range" p) [a] [] pos) .range [ma] :=
  (pi_range1 hg hm ha (star_cons hs)).weak (by
    rintro σ H R ⟨ι, ρ, μ, e, s, p⟩
    refine ⟨ι, ρ, μ, e, s, PostX.bind (f := fun a μ => T.R.ok a μ) (by cases h : evEs Γ [ma] ρ μ <;> (rw [h] at p; exact p)) fun xs1 μ1 vs H1 ι1 ev x1 s1 r1 p1 => ?_⟩
    obtain ⟨xs, μ2, ι2, ds, gs, q1, q2, q3, q4⟩ := PostX.here p1 s1 r1
    have hl : vs.length = 1 := by
      rw [r1.len, evEs_len _ _ _ _ _ ev]
      rfl
    rcases items_range q3 with ⟨n, rfl, h1, h2⟩ | ⟨i, j, rfl, h⟩
    · obtain ⟨v, rfl, rv⟩ := r1_of q1
      cases rv
      exact ⟨n, rfl, h1, h2, q4⟩
    · obtain ⟨v, w, rfl, _⟩ := r2_of q1
      cases hl)
theorem im_range2 {p : Pos} (hg : Gl X "range") (hm : X.mg "range" = none) (hs : isStar a = false) (hs2 : isStar b = false) (ha : PAm G E Γ X [a, b] [ma, mb]) : PIm G E Γ X tg (.Call (.Name "range" p) [a, b] [] pos) .range [ma, mb] :=
  (pi_range2 hg hm ha (by rw [star_cons hs, star_cons hs2]; rfl) (by rw [star_cons hs2]; rfl)).weak (by
    rintro σ H R ⟨ι, ρ, μ, e, s, p⟩
    refine ⟨ι, ρ, μ, e, s, PostX.bind (f := fun a μ => T.R.ok a μ) (by cases h : evEs Γ [ma, mb] ρ μ <;> (rw [h] at p; exact p)) fun xs1 μ1 vs H1 ι1 ev x1 s1 r1 p1 => ?_⟩
    obtain ⟨xs, μ2, ι2, ds, gs, q1, q2, q3, q4⟩ := PostX.here p1 s1 r1
    have hl : vs.length = 2 := by
      rw [r1.len, evEs_len _ _ _ _ _ ev]
      rfl
    rcases items_range q3 with ⟨n, rfl, h1, h2⟩ | ⟨i, j, rfl, h⟩
    · obtain ⟨v, rfl, rv⟩ := r1_of q1
      cases hl
    · obtain ⟨v, w, rfl, rv, rw'⟩ := r2_of q1
      cases rv
      cases rw'
      exact ⟨i, j, rfl, h, q4⟩)
end
mutual
def gTg (K : PySem.W.Frag) : Tg → TG
  | .nm i => gName i
  | .tp ts => fun v σ H Q => gTup K ts.length (gTgs K ts) v σ H Q ∨ gLst K ts.length (gTgs K ts) v σ H Q
  | .bad => fun _ _ _ _ => False
def gTgs (K : PySem.W.Frag) : List Tg → TGs
  | [] => gNil
  | t :: ts => gCons (gTg K t) (gTgs K ts)
end
mutual
def tgIn (own : List Nat) : Tg → Bool
  | .nm i => own.contains i
  | .tp ts => tgsIn own ts
  | .bad => true
def tgsIn (own : List Nat) : List Tg → Bool
  | [] => true
  | t :: ts => tgIn own t && tgsIn own ts
end
theorem wipe_set {x : Option V} {i : Nat} {σ : L2.St} : ∀ {own : List Nat}, i ∈ own → L2.wipe (σ.set i x) own = L2.wipe σ own
  | v :: vs, h => by
    show (L2.wipe (σ.set i x) vs).set v none = (L2.wipe σ vs).set v none
    by_cases hv : i ∈ vs
    · rw [wipe_set hv]
    · have e : v = i := by
        rcases List.mem_cons.mp h with e | e
        · exact e.symm
        · exact absurd e hv
      subst e
      have : ∀ (vs : List Nat), v ∉ vs → L2.wipe (σ.set v x) vs = (L2.wipe σ vs).set v x := by
        intro vs
        induction vs with
        | nil => intro _; rfl
        | cons w ws ih =>
          intro hn
          show (L2.wipe (σ.set v x) ws).set w none = ((L2.wipe σ ws).set w none).set v x
          rw [ih (fun m => hn (by simp [m])), List.set_comm]
          intro e
          exact hn (by simp [e])
      rw [this vs hv, List.set_set]
section
variable {G : Gx} {ι : List Addr} {H : Hp} {μ : Sto}
mutual
theorem gTg_ok : ∀ (t : Tg) (d : D) (v : V) (σ : L2.St) (ρ ρ1 : Env) (Q : L2.St → Hp → Prop), setTg μ t d ρ = some ρ1 → Rel G ι H v d → EOk G ι H σ ρ →
    (∀ σ1, EOk G ι H σ1 ρ1 → (∀ own, tgIn own t = true → L2.wipe σ1 own = L2.wipe σ own) → Q σ1 H) → gTg G.K t v σ H Q
  | .nm i, d, v, σ, ρ, ρ1, Q, h, r, e, k => by
    have h : some (ρ.set i (some d)) = some ρ1 := h
    cases h
    refine k (σ.set i (some v)) (e.set r i) fun own ho => wipe_set ?_
    have ho : own.contains i = true := ho
    simpa using ho
  | .tp ts, d, v, σ, ρ, ρ1, Q, h, r, e, k => by
    cases d with
    | tup ds =>
      have h : setTgs μ ts ds ρ = some ρ1 := h
      obtain ⟨p, vs, rfl, h1, h2, h3⟩ := tup_ok r
      refine .inl ⟨p, vs, rfl, h1, ?_, gTgs_ok ts ds vs σ ρ ρ1 Q h h2 e k⟩
      rw [h2.len]
      exact (setTgs_len ts ds ρ ρ1 h).symm
    | lst ds =>
      have h : setTgs μ ts ds ρ = some ρ1 := h
      obtain ⟨p, vs, rfl, ⟨_, h1, _⟩, h2⟩ := r
      refine .inr ⟨p, vs, rfl, SqL.of h1, ?_, gTgs_ok ts ds vs σ ρ ρ1 Q h h2 e k⟩
      rw [h2.len]
      exact (setTgs_len ts ds ρ ρ1 h).symm
    | _ => cases h
  | .bad, d, v, σ, ρ, ρ1, Q, h, r, e, k => by cases h
theorem gTgs_ok : ∀ (ts : List Tg) (ds : List D) (vs : List V) (σ : L2.St) (ρ ρ1 : Env) (Q : L2.St → Hp → Prop), setTgs μ ts ds ρ = some ρ1 → Rels G ι H vs ds → EOk G ι H σ ρ →
    (∀ σ1, EOk G ι H σ1 ρ1 → (∀ own, tgsIn own ts = true → L2.wipe σ1 own = L2.wipe σ own) → Q σ1 H) → gTgs G.K ts vs σ H Q
  | [], [], vs, σ, ρ, ρ1, Q, h, r, e, k => by
    have h : some ρ = some ρ1 := h
    cases h
    rw [rels_nil_iff] at r
    subst r
    exact ⟨rfl, k σ e fun _ _ => rfl⟩
  | [], _ :: _, _, _, _, _, _, h, _, _, _ => by cases h
  | _ :: _, [], _, _, _, _, _, h, _, _, _ => by cases h
  | t :: ts, d :: ds, vs, σ, ρ, ρ1, Q, h, r, e, k => by
    have h : (setTg μ t d ρ).bind (setTgs μ ts ds) = some ρ1 := h
    rw [Option.bind_eq_some_iff] at h
    obtain ⟨ρ2, h1, h2⟩ := h
    obtain ⟨v, vr, rfl, rv, rr⟩ := rels_cons_iff.mp r
    refine ⟨v, vr, rfl, gTg_ok t d v σ ρ ρ2 _ h1 rv e fun σ1 e1 w1 => gTgs_ok ts ds vr σ1 ρ2 ρ1 Q h2 rr e1 fun σ2 e2 w2 => k σ2 e2 fun own ho => ?_⟩
    have ho : (tgIn own t && tgsIn own ts) = true := ho
    rw [Bool.and_eq_true] at ho
    rw [w2 own ho.2, w1 own ho.1]
theorem setTgs_len : ∀ (ts : List Tg) (ds : List D) (ρ ρ1 : Env), setTgs μ ts ds ρ = some ρ1 → ts.length = ds.length
  | [], [], _, _, _ => rfl
  | [], _ :: _, _, _, h => by cases h
  | _ :: _, [], _, _, h => by cases h
  | t :: ts, d :: ds, ρ, ρ1, h => by
    have h : (setTg μ t d ρ).bind (setTgs μ ts ds) = some ρ1 := h
    rw [Option.bind_eq_some_iff] at h
    obtain ⟨ρ2, h1, h2⟩ := h
    rw [List.length_cons, List.length_cons, setTgs_len ts ds ρ2 ρ1 h2]
end
end
theorem each_cons {e : Expr} {es : List Expr} {env : PySem.Env} (h : isStar e = false) : assignEach (e :: es) env = (false, assign e env) :: assignEach es env := by
  cases e <;> first | rfl | cases h
theorem each_len {env : PySem.Env} : ∀ {es : List Expr}, es.all (fun e => !isStar e) = true → (assignEach es env).length = es.length
  | [], _ => rfl
  | e :: es, h => by
    rw [List.all_cons, Bool.and_eq_true] at h
    rw [each_cons (by simpa using h.1), List.length_cons, List.length_cons, each_len h.2]
theorem each_no {env : PySem.Env} : ∀ {es : List Expr}, es.all (fun e => !isStar e) = true → (assignEach es env).findIdx? (·.1) = none
  | [], _ => rfl
  | e :: es, h => by
    rw [List.all_cons, Bool.and_eq_true] at h
    rw [each_cons (by simpa using h.1), List.findIdx?_cons]
    simp [each_no h.2]
section
variable {X : Cx} {G : Gx} {pos : Pos}
theorem gm_nil : PGs X [] (gTgs G.K []) := pgs_nil
theorem gm_cons {e : Expr} {es : List Expr} {t : Tg} {ts : List Tg} (hs : isStar e = false) (h : PG X e (gTg G.K t)) (hr : PGs X es (gTgs G.K ts)) : PGs X (e :: es) (gTgs G.K (t :: ts)) := pgs_cons h hr (by rw [each_cons hs]; rfl)
theorem gm_tup {es : List Expr} {k : Nat} {ts : List Tg} (hK : X.K = G.K) (hc : X.calm = true) (hs : es.all (fun e => !isStar e) = true) (hl : es.length = ts.length) (h : PGs X es (gTgs G.K ts)) : PG X (.Tuple es k pos) (gTg G.K (.tp ts)) := by
  have h1 := pg_tup (pos := pos) (k := k) hc h (n := ts.length) (by rw [each_len hs, hl]) (each_no hs)
  have h2 := pg_lst (pos := pos) (k := k) hc h (n := ts.length) (by rw [each_len hs, hl]) (each_no hs)
  rw [hK] at h1 h2
  exact ⟨fun pins s σ H v u Q I r h => h.elim (h1.run pins s σ H v u Q I r) (h2.run pins s σ H v u Q I r)⟩
theorem gm_bad {e : Expr} : PG X e (gTg G.K .bad) := ⟨fun _ _ _ _ _ _ _ _ _ h => h.elim⟩
end
end T
namespace T
open PySem PySem.Spec PyProof.Rows L2
def TZ (t : List Addr → TE) : TE := fun σ H Q => ∃ z, t z σ H Q
def TZb (t : List Addr → TT) : TT := fun σ H Q => ∃ z, t z σ H Q
theorem pe_z {X : Cx} {e : Expr} {t : List Addr → TE} (h : ∀ z, PE X e (t z)) : PE X e (TZ t) := ⟨fun pins s σ H Q I ⟨z, q⟩ => (h z).run pins s σ H Q I q⟩
theorem pts_z {X : Cx} {e : List Expr} {t : List Addr → TT} (h : ∀ z, PTs X e (t z)) : PTs X e (TZb t) := ⟨fun pins s σ H Q I ⟨z, q⟩ => (h z).run pins s σ H Q I q⟩
section
variable {G : Gx} {ι ι' : List Addr} {H H' : Hp} {μ : Sto} {D : Addr} {o : HO}
theorem Ext.over (e : Ext ι H ι' H') (h : H D = none) : Ext ι H ι' (upd H' D o) := by
  refine ⟨e.pre, fun a u q n => ?_, fun a m q => ?_⟩
  · rw [upd_ne (ne_of_none q h)]
    exact e.keep a u q n
  · have : a ≠ D := fun z => q (z ▸ h)
    rw [upd_ne this]
    exact e.live a m q
theorem Mv.start (h : H D = none) : Mv G ι H (D :: G.z) ι (upd H D o) := by
  refine ⟨fun p u q n => ⟨n.1, ?_⟩, fun p u q n => ?_, fun _ _ q => q⟩
  · intro m
    rcases List.mem_cons.mp m with m | m
    · exact ne_of_none q h m
    · exact n.2 m
  · show upd H D o p = some u
    rw [upd_ne (ne_of_none q h)]
    exact q
theorem SOk.start (S : SOk G ι H μ) (h : H D = none) : SOk (G.wz (D :: G.z)) ι (upd H D o) μ := by
  refine S.mv (Mv.start h) (fun a m => ?_) fun a m => upd_ne fun z => S.live a m (z ▸ h)
  by_cases e : a = D
  · subst e
    rw [upd_same]
    exact ⟨(fun z => by cases z), (S.fresh h).1⟩
  · rw [upd_ne e]
    rcases List.mem_cons.mp m with m | m
    · exact absurd m e
    · exact S.zl a m
theorem Mv.over (hD : D ∈ G.z) : Mv G ι H G.z ι (upd H D o) := by
  refine ⟨fun p u q n => n, fun p u q n => ?_, fun _ _ q => q⟩
  have : p ≠ D := fun z => n.2 (z ▸ hD)
  rw [upd_ne this]
  exact q
theorem SOk.over (S : SOk G ι H μ) (hD : D ∈ G.z) : SOk G ι (upd H D o) μ := by
  refine S.mv (Mv.over hD) (fun a m => ⟨?_, (S.zl a m).2⟩) fun a m => upd_ne fun z => (S.zl D hD).2 (z ▸ m)
  by_cases e : a = D
  · subst e
    rw [upd_same]
    exact fun z => by cases z
  · rw [upd_ne e]
    exact (S.zl a m).1
theorem Mv.back : Mv (G.wz (D :: G.z)) ι H G.z ι H := ⟨fun p u q n => ⟨n.1, fun m => n.2 (List.mem_cons_of_mem _ m)⟩, fun p u q n => q, fun _ _ q => q⟩
theorem SOk.back (S : SOk (G.wz (D :: G.z)) ι H μ) : SOk G ι H μ := S.mv Mv.back (fun a m => S.zl a (List.mem_cons_of_mem _ m)) fun _ _ => rfl
theorem Mv.adopt : Mv (G.wz (D :: G.z)) ι H G.z (ι ++ [D]) H := ⟨fun p u q n => ⟨fun m => by
    rcases List.mem_append.mp m with m | m
    · exact n.1 m
    · exact n.2 (by simpa using Or.inl (List.mem_singleton.mp m)), fun m => n.2 (List.mem_cons_of_mem _ m)⟩, fun p u q n => q, fun k a q => by
    rw [List.getElem?_append_left (List.getElem?_eq_some_iff.mp q).1]
    exact q⟩
theorem SOk.adopt (S : SOk (G.wz (D :: G.z)) ι H μ) {acc : List V} {accD : List T.D} (hD : H D = some (.lst acc)) (nz : D ∉ G.z) (r : Rels (G.wz (D :: G.z)) ι H acc accD) (z : acc.length ≤ sizeLine) : SOk G (ι ++ [D]) H (μ ++ [.lst accD]) := by
  have nD : D ∉ ι := (S.zl D (List.mem_cons_self ..)).2
  refine ⟨by simp [S.len], ?_, fun a m => ⟨(S.zl a (List.mem_cons_of_mem _ m)).1, fun q => ?_⟩, fun k c hk => ?_⟩
  · rw [List.nodup_append]
    refine ⟨S.nd, by simp, fun a ha b hb => ?_⟩
    have eb : b = D := by simpa using hb
    subst eb
    exact fun z => nD (z ▸ ha)
  · rcases List.mem_append.mp q with q | q
    · exact (S.zl a (List.mem_cons_of_mem _ m)).2 q
    · have e1 : a = D := by simpa using q
      exact nz (e1 ▸ m)
  · by_cases hl : k < μ.length
    · rw [List.getElem?_append_left hl] at hk
      obtain ⟨a, h1, h2⟩ := S.at_ k c hk
      have mv : Mv (G.wz (D :: G.z)) ι H G.z (ι ++ [D]) H := Mv.adopt
      exact ⟨a, mv.idx k a h1, CellAt.mv mv rfl h2⟩
    · have hl' : μ.length ≤ k := Nat.le_of_not_lt hl
      rw [List.getElem?_append_right hl'] at hk
      have hk0 : k = μ.length := by
        have := (List.getElem?_eq_some_iff.mp hk).1
        simp at this
        omega
      subst hk0
      simp at hk
      subst hk
      exact ⟨D, by rw [← S.len]; simp, acc, hD, Rels.mv (G := G.wz (D :: G.z)) (z' := G.z) Mv.adopt _ _ r, z⟩
theorem Ext.adopt (e : Ext ι H ι' H') (h : H D = none) : Ext ι H (ι' ++ [D]) H' := by
  obtain ⟨new, rfl, hn⟩ := id e.pre
  refine ⟨⟨new ++ [D], by simp, fun a m => ?_⟩, e.keep, e.live⟩
  rcases List.mem_append.mp m with m | m
  · exact hn a m
  · have : a = D := by simpa using m
    rw [this]
    exact h
end
theorem wipe_set2 {x : Option V} {v : Nat} {σ : L2.St} (vs : List Nat) : (L2.wipe (σ.set v x) vs).set v none = (L2.wipe σ vs).set v none := by
  by_cases hv : v ∈ vs
  · rw [wipe_set hv]
  · have : ∀ (vs : List Nat), v ∉ vs → L2.wipe (σ.set v x) vs = (L2.wipe σ vs).set v x := by
      intro vs
      induction vs with
      | nil => intro _; rfl
      | cons w ws ih =>
        intro hn
        show (L2.wipe (σ.set v x) ws).set w none = ((L2.wipe σ ws).set w none).set v x
        rw [ih (fun m => hn (by simp [m])), List.set_comm]
        intro e
        exact hn (by simp [e])
    rw [this vs hv, List.set_set]
theorem wipe_wipe {σ : L2.St} : ∀ (vs : List Nat), L2.wipe (L2.wipe σ vs) vs = L2.wipe σ vs
  | [] => rfl
  | v :: vs => by
    show (L2.wipe ((L2.wipe σ vs).set v none) vs).set v none = (L2.wipe σ vs).set v none
    rw [wipe_set2, wipe_wipe vs]
section
variable {G : Gx} {Γ : Tb} {E : XK} {X : Cx} {mt : Tg} {ik : IK} {mits mifs : List Ee} {melt : Ee} {own : List Nat} {c : Bool}
abbrev tIfs (G : Gx) (Γ : Tb) (mifs : List Ee) : TT := TZb fun z => TX (G.wz z) (fun _ _ b a => b = a) E0 (evIfs Γ mifs)
abbrev tElt (G : Gx) (Γ : Tb) (melt : Ee) : TE := TZ fun z => TEv (G.wz z) E0 (evE Γ melt)
theorem lc_run {J : It} {σ : L2.St} {ρ : Env} {ι1 : List Addr} {H1 : Hp} {μ1 : Sto} {vs : List V} {xs ds : List D} {gs : List (Nat × List D)} {Q : VK} (hin : tgIn own mt = true) (e1 : EOk G ι1 H1 σ ρ) (s1 : SOk G ι1 H1 μ1) (r1 : Rels G ι1 H1 vs xs)
    (hw : ∀ z ι2 H2 μ2, SOk (G.wz z) ι2 H2 μ2 → Rels (G.wz z) ι2 H2 vs xs → still gs μ2 → ds.length ≤ sizeLine ∧ (∀ i d, ds[i]? = some d → Ylds (G.wz z) ι2 H2 J i d) ∧ J.stop ds.length H2)
    (p1 : Post G E ι1 H1 ((compL gs (wipeE ρ own) mt (evIfs Γ mifs) (evE Γ melt) ds [] μ1).noexc.bind fun ys μ2 => if c then .ok (.cell μ2.length) (μ2 ++ [.lst ys]) else .ok (.lst ys) μ2) Q) :
    ∀ D, H1 D = none → ∃ W : Nat → Nat → Hp → Prop, (∃ m, W 0 m (upd H1 D (.lst []))) ∧ ∀ i m H, W i m H →
      (J.stop i H ∧ Q (.ref D) H) ∨ (J.go i H ∧ ∃ Nx : Hp → Prop, (∀ H', Nx H' → ∃ m', m' < m ∧ W (i + 1) m' H') ∧ ∀ x H', J.yld i H x H' → gTg G.K mt x (L2.wipe σ own) H' fun σ2 H2 => L2.wipe σ2 own = L2.wipe σ own ∧ tIfs G Γ mifs σ2 H2 fun b H3 =>
        if b = true then tElt G Γ melt σ2 H3 fun y H4 => ∃ acc, H4 D = some (.lst acc) ∧ acc.length < sizeLine ∧ Nx (upd H4 D (.lst (acc ++ [y]))) else Nx H3) := by
  intro D hD
  have nz : D ∉ G.z := fun m => (s1.zl D m).1 hD
  have dz : D ∈ (G.wz (D :: G.z)).z := List.mem_cons_self ..
  generalize hfin : (fun (ys : List T.D) (μ2 : Sto) => if c = true then T.R.ok (T.D.cell μ2.length) (μ2 ++ [Cell.lst ys]) else T.R.ok (T.D.lst ys) μ2) = fin at p1
  refine ⟨fun i m H' => m = ds.length - i ∧ i ≤ ds.length ∧ ∃ ι' μ' acc accD, Ext ι1 H1 ι' H' ∧ SOk (G.wz (D :: G.z)) ι' H' μ' ∧ Rels (G.wz (D :: G.z)) ι' H' vs xs ∧ EOk (G.wz (D :: G.z)) ι' H' (L2.wipe σ own) (wipeE ρ own) ∧ H' D = some (.lst acc) ∧ Rels (G.wz (D :: G.z)) ι' H' acc accD ∧ acc.length ≤ i ∧
    Post G E ι1 H1 ((compL gs (wipeE ρ own) mt (evIfs Γ mifs) (evE Γ melt) (ds.drop i) accD μ').noexc.bind fin) Q, ⟨ds.length, rfl, Nat.zero_le _, ι1, μ1, [], [], ?_, s1.start hD, ?_, ?_, upd_same, by simp, Nat.le_refl _, p1⟩, ?_⟩
  · exact Ext.new hD
  · exact Rels.mv (Mv.start hD) _ _ r1
  · exact (e1.wipe own).mv (Mv.start hD)
  rintro i m H2 ⟨rfl, hi, ι2, μ2, acc, accD, ex, s2, rv, e2, h2, ra, la, p2⟩
  by_cases hst : still gs μ2
  · obtain ⟨hsz, hyl, hstop⟩ := hw (D :: G.z) ι2 H2 μ2 s2 rv hst
    by_cases hlt : i < ds.length
    · have hdr : ds.drop i = ds[i] :: ds.drop (i + 1) := by simp
      rw [hdr] at p2
      unfold compL at p2
      rw [ifStill_of hst] at p2
      cases hset : setTg μ2 mt ds[i] (wipeE ρ own) with
      | none =>
        simp only [hset] at p2
        exact p2.elim
      | some ρ1 =>
        simp only [hset] at p2
        obtain ⟨go, hy⟩ := hyl i ds[i] (by simp [hlt])
        refine .inr ⟨go, fun H'' => (fun i m H' => m = ds.length - i ∧ i ≤ ds.length ∧ ∃ ι' μ' acc accD, Ext ι1 H1 ι' H' ∧ SOk (G.wz (D :: G.z)) ι' H' μ' ∧ Rels (G.wz (D :: G.z)) ι' H' vs xs ∧ EOk (G.wz (D :: G.z)) ι' H' (L2.wipe σ own) (wipeE ρ own) ∧ H' D = some (.lst acc) ∧ Rels (G.wz (D :: G.z)) ι' H' acc accD ∧ acc.length ≤ i ∧
          Post G E ι1 H1 ((compL gs (wipeE ρ own) mt (evIfs Γ mifs) (evE Γ melt) (ds.drop i) accD μ').noexc.bind fin) Q) (i + 1) (ds.length - (i + 1)) H'', fun H' w => ⟨ds.length - (i + 1), by omega, w⟩, fun x H3 y => ?_⟩
        obtain ⟨hH, rx⟩ := hy x H3 y
        have x3 : Ext ι2 H2 ι2 H3 := by
          rcases hH with rfl | ⟨T, o, hT, rfl⟩
          · exact Ext.refl _ _
          · exact Ext.new hT
        have s3 : SOk (G.wz (D :: G.z)) ι2 H3 μ2 := by
          rcases hH with rfl | ⟨T, o, hT, rfl⟩
          · exact s2
          · exact s2.new hT
        refine gTg_ok (G := G.wz (D :: G.z)) (ι := ι2) (μ := μ2) mt ds[i] x (L2.wipe σ own) (wipeE ρ own) ρ1 _ hset rx (e2.ext x3) fun σ1 e3 w1 => ⟨(w1 own hin).trans (wipe_wipe own), ?_⟩
        refine ⟨D :: G.z, ι2, ρ1, μ2, e3, s3, ?_⟩
        have kD : ∀ {ι4 H4}, Ext ι2 H2 ι4 H4 → H4 D = some (.lst acc) := fun {ι4 H4} x4 => x4.keep _ _ h2 (s2.zl D dz).2
        have p2 : Post G E ι1 H1 (((evIfs Γ mifs ρ1 μ2).bind fun b μ3 => if b = true then (evE Γ melt ρ1 μ3).bind fun y μ4 => compL gs (wipeE ρ own) mt (evIfs Γ mifs) (evE Γ melt) (ds.drop (i + 1)) (accD ++ [y]) μ4 else compL gs (wipeE ρ own) mt (evIfs Γ mifs) (evE Γ melt) (ds.drop (i + 1)) accD μ3).noexc.bind fin) Q := p2
        cases hif : evIfs Γ mifs ρ1 μ2 with
        | exc C es m =>
          rw [hif] at p2
          exact p2.elim
        | bad =>
          rw [hif] at p2
          exact p2.elim
        | ok b μ3 =>
          rw [hif] at p2
          intro b' H4 ι4 x4 s4 hb
          have hb : b' = b := hb
          subst hb
          have x34 := x3.trans x4
          cases b' with
          | false =>
            rw [if_neg Bool.false_ne_true]
            exact ⟨rfl, hlt, ι4, μ3, acc, accD, ex.trans x34, s4, Rels.ext x34 _ _ rv, e2.ext x34, kD x34, Rels.ext x34 _ _ ra, by omega, p2⟩
          | true =>
            rw [if_pos rfl]
            refine ⟨D :: G.z, ι4, ρ1, μ3, e3.ext x4, s4, ?_⟩
            have p2 : Post G E ι1 H1 (((evE Γ melt ρ1 μ3).bind fun y μ4 => compL gs (wipeE ρ own) mt (evIfs Γ mifs) (evE Γ melt) (ds.drop (i + 1)) (accD ++ [y]) μ4).noexc.bind fin) Q := p2
            cases hel : evE Γ melt ρ1 μ3 with
            | exc C es m =>
              rw [hel] at p2
              exact p2.elim
            | bad =>
              rw [hel] at p2
              exact p2.elim
            | ok y μ4 =>
              rw [hel] at p2
              intro y' H5 ι5 x5 s5 ry
              have x35 := x34.trans x5
              have mv : Mv (G.wz (D :: G.z)) ι5 H5 (D :: G.z) ι5 (upd H5 D (.lst (acc ++ [y']))) := Mv.over dz
              refine ⟨acc, kD x35, by omega, rfl, hlt, ι5, μ4, acc ++ [y'], accD ++ [y], (ex.trans x35).over hD, s5.over dz, Rels.mv mv _ _ (Rels.ext x35 _ _ rv), EOk.mv (G := G.wz (D :: G.z)) (z' := D :: G.z) mv (e2.ext x35), upd_same, ?_, by simp; omega, p2⟩
              exact Rels.append (Rels.mv mv _ _ (Rels.ext x35 _ _ ra)) (by rw [rels_cons]; exact ⟨Rel.mv mv _ _ ry, by simp⟩)
    · have e0 : i = ds.length := by omega
      subst e0
      rw [List.drop_length] at p2
      unfold compL at p2
      rw [ifStill_of hst] at p2
      refine .inl ⟨hstop, ?_⟩
      have p2 : Post G E ι1 H1 (fin accD μ2) Q := p2
      subst hfin
      cases c with
      | false =>
        simp only [Bool.false_eq_true, if_false] at p2
        exact p2 (.ref D) H2 ι2 ex s2.back ⟨D, acc, rfl, ⟨by omega, h2, (s2.zl D dz).2, nz⟩, Rels.mv Mv.back _ _ ra⟩
      | true =>
        simp only [if_true] at p2
        exact p2 (.ref D) H2 (ι2 ++ [D]) (ex.adopt hD) (s2.adopt h2 nz ra (by omega)) ⟨D, by rw [← s2.len]; simp, rfl⟩
  · have hbad : compL gs (wipeE ρ own) mt (evIfs Γ mifs) (evE Γ melt) (ds.drop i) accD μ2 = .bad := by
      cases ds.drop i with
      | nil =>
        unfold compL ifStill
        rw [if_neg hst]
      | cons d r =>
        unfold compL ifStill
        rw [if_neg hst]
    rw [hbad] at p2
    exact p2.elim
theorem lc_read (hin : tgIn own mt = true) : ∀ σ H Q, TEv G E (evE Γ (.comp c melt mt ik mits mifs own)) σ H Q → tLc (iX G E Γ ik mits) (gTg G.K mt) (tIfs G Γ mifs) (tElt G Γ melt) own σ H Q := by
  rintro σ H Q ⟨ι, ρ, μ, e, s, p⟩
  have p : Post G E ι H ((evEs Γ mits ρ μ).bind fun xs μ1 => (match itemsOf ik xs μ1 with
    | some (ds, gs) => (compL gs (wipeE ρ own) mt (evIfs Γ mifs) (evE Γ melt) ds [] μ1).noexc.bind fun ys μ2 => if c then .ok (.cell μ2.length) (μ2 ++ [.lst ys]) else .ok (.lst ys) μ2
    | none => .bad)) Q := p
  refine ⟨ι, ρ, μ, e, s, PostX.bind p fun xs μ1 vs H1 ι1 _ x1 s1 r1 p1 => ?_⟩
  cases hit : itemsOf ik xs μ1 with
  | none =>
    simp only [hit] at p1
    exact p1.elim
  | some q =>
    obtain ⟨ds, gs⟩ := q
    simp only [hit] at p1
    exact ⟨xs, μ1, ι1, ds, gs, r1, s1, hit, lc_run hin (e.ext x1) s1 r1 (fun z ι2 H2 μ2 s2 rv hst => walk_at s2 rv (items_still hit hst)) p1⟩
end
theorem pts_m1 {X : Cx} {G : Gx} {Γ : Tb} {E : XK} {a : Expr} {m : Ee} (h : PTm G E Γ X a m) : PTs X [a] (TX G (fun _ _ b a => b = a) E (evIfs Γ [m])) := ⟨fun pins s σ H Q I q => (pts_one h).run pins s σ H Q I (by
  obtain ⟨ι, ρ, μ, e, s, p⟩ := q
  refine ⟨ι, ρ, μ, e, s, ?_⟩
  have e1 : evIfs Γ [m] ρ μ = evT Γ m ρ μ := by
    show ((evE Γ m ρ μ).bind fun d μ1 => tru d μ1 fun b => if b then evIfs Γ [] ρ μ1 else .ok false μ1) = (evE Γ m ρ μ).bind fun d μ1 => tru d μ1 fun b => .ok b μ1
    cases evE Γ m ρ μ with
    | ok x m1 =>
      simp only [R.bind_ok]
      unfold tru
      cases truB m1 x with
      | none => rfl
      | some b => cases b <;> rfl
    | exc C ds m => rfl
    | bad => rfl
  rw [← e1]
  exact p)⟩
theorem pts_m0 {X : Cx} {G : Gx} {Γ : Tb} {E : XK} : PTs X [] (TX G (fun _ _ b a => b = a) E (evIfs Γ [])) := ⟨fun pins s σ H Q I q => pts_nil.run pins s σ H Q I (by
  obtain ⟨ι, ρ, μ, e, s, p⟩ := q
  exact PostX.here (show PostX G (fun _ _ b a => b = a) E ι H (R.ok true μ) Q from p) s rfl)⟩
section
variable {G : Gx} {Γ : Tb} {E : XK} {X : Cx} {mt : Tg} {ik : IK} {mits mifs : List Ee} {melt : Ee} {c : Bool} {elt tg iter : Expr} {ifs : List Expr} {scope : Scope} {own : List (Str × Nat)} {pos : Pos}
theorem pm_comp (hK : X.K = G.K) (hc : X.calm = true) (hN : X.N.Nodup) (ok : BlkOk X.N X.env.scope scope own) (hin : tgIn (own.map (·.2)) mt = true) (hi : PIm G E Γ X tg iter ik mits)
    (hg : ∀ (s : Shared) (H : Hp) (C : Addr) (cl : List (Str × Addr)) (fp : List Addr), PG (X.blk s H scope (compEnvC scope cl C X.env) fp) tg (gTg G.K mt))
    (ht : ∀ z (s : Shared) (H : Hp) (C : Addr) (cl : List (Str × Addr)) (fp : List Addr), PTs (X.blk s H scope (compEnvC scope cl C X.env) fp) ifs (TX (G.wz z) (fun _ _ b a => b = a) E0 (evIfs Γ mifs)))
    (he : ∀ z (s : Shared) (H : Hp) (C : Addr) (cl : List (Str × Addr)) (fp : List Addr), PEm (G.wz z) E0 Γ (X.blk s H scope (compEnvC scope cl C X.env) fp) elt melt) (hs : isSet iter = false) :
    PEm G E Γ X (.ListComp elt [⟨tg, iter, ifs, 0⟩] scope pos) (.comp c melt mt ik mits mifs (own.map (·.2))) :=
  (pe_lc hc hN hi ok hg (fun s H C cl fp => pts_z fun z => ht z s H C cl fp) (fun s H C cl fp => pe_z fun z => he z s H C cl fp) (fold_plain hs)).weak (lc_read hin)
end
theorem lists_eq : ∀ {ds : List D} {rows : List (List D)}, lists ds = some rows → ds = rows.map .lst
  | [], rows, h => by
    cases h
    rfl
  | d :: ds, rows, h => by
    cases d with
    | lst xs =>
      have h : (lists ds).map (xs :: ·) = some rows := h
      obtain ⟨r, h1, rfl⟩ := Option.map_eq_some_iff.mp h
      rw [lists_eq h1]
      rfl
    | _ => cases h
theorem rows_rel {G : Gx} {ι : List Addr} {H : Hp} : ∀ {rows : List (List D)} {vs : List V}, Rels G ι H vs (rows.map .lst) →
    ∃ (as : List Addr) (yss : List (List V)), vs = as.map V.ref ∧ as.length = rows.length ∧ yss.length = rows.length ∧ ∀ (q : Nat) (a : Addr) (ys : List V) (row : List D), as[q]? = some a → yss[q]? = some ys → rows[q]? = some row → ys.length ≤ sizeLine ∧ H a = some (.lst ys) ∧ Rels G ι H ys row
  | [], vs, h => by
    rw [List.map_nil, rels_nil_iff] at h
    exact ⟨[], [], h, rfl, rfl, fun q a ys row h => by simp at h⟩
  | row :: rows, vs, h => by
    obtain ⟨v, r, rfl, h1, h2⟩ := rels_cons_iff.mp h
    obtain ⟨a, ys, rfl, ⟨k1, k2, _⟩, k3⟩ := h1
    obtain ⟨as, yss, e1, e2, e3, g⟩ := rows_rel h2
    refine ⟨a :: as, ys :: yss, by rw [e1]; rfl, by simp [e2], by simp [e3], fun q a' ys' row' q1 q2 q3 => ?_⟩
    cases q with
    | zero =>
      simp at q1 q2 q3
      subst q1 q2 q3
      exact ⟨k1, k2, k3⟩
    | succ q => exact g q a' ys' row' (by simpa using q1) (by simpa using q2) (by simpa using q3)
theorem colN_le : ∀ {rows : List (List D)}, ∀ r ∈ rows, colN rows ≤ r.length
  | [], r, h => by cases h
  | [x], r, h => by
    have e : r = x := by simpa using h
    subst e
    exact Nat.le_refl _
  | x :: y :: rows, r, h => by
    show min x.length (colN (y :: rows)) ≤ r.length
    rcases List.mem_cons.mp h with rfl | h
    · exact Nat.min_le_left _ _
    · exact Nat.le_trans (Nat.min_le_right _ _) (colN_le r h)
theorem colN_ex : ∀ {rows : List (List D)}, rows ≠ [] → ∃ r ∈ rows, r.length = colN rows
  | [], h => absurd rfl h
  | [x], _ => ⟨x, by simp, rfl⟩
  | x :: y :: rows, _ => by
    obtain ⟨r, h1, h2⟩ := colN_ex (rows := y :: rows) (by simp)
    by_cases hl : x.length ≤ colN (y :: rows)
    · exact ⟨x, by simp, (Nat.min_eq_left hl).symm⟩
    · exact ⟨r, List.mem_cons_of_mem _ h1, h2.trans (Nat.min_eq_right (by omega)).symm⟩
theorem refs_inj : ∀ {as bs : List Addr}, as.map V.ref = bs.map V.ref → as = bs
  | [], [], _ => rfl
  | [], _ :: _, h => by cases h
  | _ :: _, [], h => by cases h
  | a :: as, b :: bs, h => by
    rw [List.map_cons, List.map_cons] at h
    injection h with h1 h2
    injection h1 with h1
    rw [h1, refs_inj h2]
theorem rels_by {G : Gx} {ι : List Addr} {H : Hp} : ∀ {vs : List V} {ds : List D}, vs.length = ds.length → (∀ (q : Nat) (v : V) (d : D), vs[q]? = some v → ds[q]? = some d → Rel G ι H v d) → Rels G ι H vs ds
  | [], [], _, _ => by simp
  | [], _ :: _, h, _ => by simp at h
  | _ :: _, [], h, _ => by simp at h
  | v :: vs, d :: ds, h, k => by
    rw [rels_cons]
    exact ⟨k 0 v d rfl rfl, rels_by (by simpa using h) fun q v d h1 h2 => k (q + 1) v d (by simpa using h1) (by simpa using h2)⟩
section
variable {G : Gx} {Γ : Tb} {E : XK} {X : Cx} {mt : Tg} {mit melt : Ee} {own : List Nat} {c : Bool}
theorem walk_S {z : List Addr} {ι : List Addr} {H : Hp} {μ : Sto} {rows : List (List D)} {as : List Addr} (S : SOk (G.wz z) ι H μ) (hne : rows ≠ []) (h6 : rows.length ≤ 6) (r : Rels (G.wz z) ι H (as.map V.ref) (rows.map .lst)) :
    (columnsD rows).length ≤ sizeLine ∧ (∀ i d, (columnsD rows)[i]? = some d → Ylds (G.wz z) ι H (RZN.ItzS G.K as) i d) ∧ (RZN.ItzS G.K as).stop (columnsD rows).length H := by
  obtain ⟨as', yss, e1, e2, e3, g⟩ := rows_rel r
  have e1 := refs_inj e1
  subst e1
  have hl : (columnsD rows).length = colN rows := by simp [columnsD]
  have lk : ∀ (q : Nat) (row : List D), rows[q]? = some row → ∃ a ys, as[q]? = some a ∧ yss[q]? = some ys ∧ ys.length ≤ sizeLine ∧ H a = some (.lst ys) ∧ Rels (G.wz z) ι H ys row := fun q row h => by
    have hq := (List.getElem?_eq_some_iff.mp h).1
    refine ⟨as[q], yss[q], by simp [e2, hq], by simp [e3, hq], g q _ _ row (by simp [e2, hq]) (by simp [e3, hq]) h⟩
  have sq : ∀ (p : Nat) (a : Addr) (xs : List V), as[p]? = some a → yss[p]? = some xs → SqL G.K H a xs ∧ ∃ row, rows[p]? = some row ∧ Rels (G.wz z) ι H xs row := fun p a xs h1 h2 => by
    have hp : p < rows.length := by rw [← e2]; exact (List.getElem?_eq_some_iff.mp h1).1
    obtain ⟨k1, k2, k3⟩ := g p a xs rows[p] h1 h2 (by simp [hp])
    exact ⟨SqL.of k2, rows[p], by simp [hp], k3⟩
  refine ⟨?_, fun i d hd => ?_, ?_⟩
  · rw [hl]
    obtain ⟨r0, hr, hr2⟩ := colN_ex hne
    obtain ⟨q, hq⟩ := List.mem_iff_getElem?.mp hr
    obtain ⟨a, ys, _, _, k1, _, k3⟩ := lk q r0 hq
    rw [← hr2, ← k3.len]
    exact k1
  · have hi : i < colN rows := by
      rw [← hl]
      exact (List.getElem?_eq_some_iff.mp hd).1
    have ed : d = .tup (rows.map fun r => r.getD i .non) := by
      unfold columnsD at hd
      rw [List.getElem?_map, List.getElem?_range hi] at hd
      exact (Option.some.inj hd).symm
    subst ed
    refine ⟨⟨yss, e3.trans e2.symm, fun p a xs h1 h2 => ?_⟩, fun x H' y => ?_⟩
    · obtain ⟨k1, row, h3, h4⟩ := sq p a xs h1 h2
      exact ⟨k1, by rw [h4.len]; exact Nat.lt_of_lt_of_le hi (colN_le row (List.mem_of_getElem? h3))⟩
    · obtain ⟨T, us, rfl, hT, rfl, hu, hg⟩ := y
      have x3 : Ext ι H ι (upd H T (.tup us)) := Ext.new hT
      have sz : sizeLine = 2 ^ 24 := rfl
      refine ⟨.inr ⟨T, _, hT, rfl⟩, T, us, rfl, ⟨by rw [hu, e2]; omega, .inl ⟨.inl upd_same, S.fresh hT⟩⟩, rels_by (by rw [hu, e2, List.length_map]) fun q v d h1 h2 => ?_⟩
      rw [List.getElem?_map] at h2
      obtain ⟨row, h3, rfl⟩ := Option.map_eq_some_iff.mp h2
      obtain ⟨a, ys, k1, k2, k3, k4, k5⟩ := lk q row h3
      have e5 := hg q a ys k1 (SqL.of k4)
      rw [h1] at e5
      obtain ⟨d', h5, h6'⟩ := k5.getV e5
      have : row.getD i .non = d' := by rw [List.getD_eq_getElem?_getD, h5]; rfl
      rw [this]
      exact Rel.ext x3 _ _ h6'
  · rw [hl]
    obtain ⟨r0, hr, hr2⟩ := colN_ex hne
    obtain ⟨q, hq⟩ := List.mem_iff_getElem?.mp hr
    obtain ⟨a, ys, k1, k2, _, k3, k4⟩ := lk q r0 hq
    exact ⟨yss, e3.trans e2.symm, fun p a xs h1 h2 => (sq p a xs h1 h2).1, ys, List.mem_of_getElem? k2, by rw [k4.len, hr2]; exact Nat.le_refl _⟩
theorem comps_read (hin : tgIn own mt = true) : ∀ σ H Q, TEv G E (evE Γ (.compS c melt mt mit own)) σ H Q → tLc (RZN.iZipS G.K (TEv G E (evE Γ mit))) (gTg G.K mt) (tIfs G Γ []) (tElt G Γ melt) own σ H Q := by
  rintro σ H Q ⟨ι, ρ, μ, e, s, p⟩
  have p : Post G E ι H ((evE Γ mit ρ μ).bind fun x μ1 => (match rowsOf μ1 x with
    | some rows => (compL [] (wipeE ρ own) mt (fun _ μ => .ok true μ) (evE Γ melt) (columnsD rows) [] μ1).noexc.bind fun ys μ2 => if c then .ok (.cell μ2.length) (μ2 ++ [.lst ys]) else .ok (.lst ys) μ2
    | none => .bad)) Q := p
  refine ⟨ι, ρ, μ, e, s, Post.bind p fun x μ1 v H1 ι1 _ x1 s1 r1 p1 => ?_⟩
  cases hr : rowsOf μ1 x with
  | none =>
    simp only [hr] at p1
    exact p1.elim
  | some rows =>
    simp only [hr] at p1
    unfold rowsOf at hr
    obtain ⟨rows', h1, h2⟩ := Option.bind_eq_some_iff.mp hr
    obtain ⟨ds0, h3, h4⟩ := Option.bind_eq_some_iff.mp h1
    have h2 : (if (rows'.length = 0 || decide (6 < rows'.length)) = true then none else some rows') = some rows := h2
    split at h2
    · cases h2
    · rename_i hb
      cases h2
      simp only [Bool.or_eq_true, decide_eq_true_eq, not_or] at hb
      obtain ⟨q, vs, rfl, k1, k2, k3⟩ := seq_ok s1 r1 h3
      rw [lists_eq h4] at k2
      obtain ⟨as, yss, rfl, e2, e3, g⟩ := rows_rel k2
      have hne : rows ≠ [] := fun z => hb.1 (by rw [z]; rfl)
      refine ⟨q, as, yss, rfl, k1.symm, fun z => hne (List.eq_nil_of_length_eq_zero (by rw [← e2, z]; rfl)), by rw [e2]; omega, e3.trans e2.symm, fun q a ys h1 h2 => ?_, ?_⟩
      · have hq : q < rows.length := by rw [← e2]; exact (List.getElem?_eq_some_iff.mp h1).1
        exact SqL.of (g q a ys rows[q] h1 h2 (by simp [hq])).2.1
      · exact lc_run (c := c) (mifs := []) hin (e.ext x1) s1 k2 (fun z ι2 H2 μ2 s2 rv _ => walk_S s2 hne (by omega) rv) p1
theorem pm_compS {elt it : Expr} {y : Str} {q p sp pc pos : Pos} {scope : Scope} {own : List (Str × Nat)} (hK : X.K = G.K) (hc : X.calm = true) (hN : X.N.Nodup) (ok : BlkOk X.N X.env.scope scope own) (hin : tgIn (own.map (·.2)) mt = true) (hz : Gl X "zip") (hm : X.mg "zip" = none) (hi : PEm G E Γ X it mit)
    (hg : ∀ (s : Shared) (H : Hp) (C : Addr) (cl : List (Str × Addr)) (fp : List Addr), PG (X.blk s H scope (compEnvC scope cl C X.env) fp) (.Name y q) (gTg G.K mt))
    (he : ∀ z (s : Shared) (H : Hp) (C : Addr) (cl : List (Str × Addr)) (fp : List Addr), PEm (G.wz z) E0 Γ (X.blk s H scope (compEnvC scope cl C X.env) fp) elt melt) :
    PEm G E Γ X (.ListComp elt [⟨.Name y q, .Call (.Name "zip" p) [.Starred it sp] [] pc, [], 0⟩] scope pos) (.compS c melt mt mit (own.map (·.2))) := by
  have h := RZN.pi_zipS (q := q) (y := y) (p := p) (sp := sp) (pos := pc) hz hm hi
  rw [hK] at h
  exact (pe_lc hc hN h ok hg (fun s H C cl fp => pts_z fun z => pts_m0) (fun s H C cl fp => pe_z fun z => he z s H C cl fp) (fold_plain rfl)).weak (comps_read hin)
end
end T
namespace T
open PySem PySem.Spec PyProof.Rows L2
def PostF (G : Gx) (E : XK) (ι : List Addr) (H : Hp) (r : F) (D : Ends) : Prop := match r with
  | .nx ρ μ => ∀ σ H' ι', Ext ι H ι' H' → SOk G ι' H' μ → EOk G ι' H' σ ρ → D.nx σ H'
  | .rt d μ => ∀ v H' ι', Ext ι H ι' H' → SOk G ι' H' μ → Rel G ι' H' v d → D.rt v H'
  | .bk ρ μ => ∀ σ H' ι', Ext ι H ι' H' → SOk G ι' H' μ → EOk G ι' H' σ ρ → D.bk σ H'
  | .ct ρ μ => ∀ σ H' ι', Ext ι H ι' H' → SOk G ι' H' μ → EOk G ι' H' σ ρ → D.ct σ H'
  | .exc C ds μ => ∀ od H' ι', Ext ι H ι' H' → SOk G ι' H' μ → XAt G ι' H' C ds od → E (.ref (G.cad C)) od H'
  | .bad => False
def TSv (G : Gx) (E : XK) (f : Env → Sto → F) : TS := fun D σ H => ∃ ι ρ μ, EOk G ι H σ ρ ∧ SOk G ι H μ ∧ PostF G E ι H (f ρ μ) D
section
variable {α β : Type} {G : Gx} {E : XK} {ι ι1 : List Addr} {H H1 : Hp} {σ : L2.St} {ρ : Env} {μ : Sto} {Rl : List Addr → Hp → β → α → Prop} {D D' : Ends}
theorem PostF.mono {r : F} (e : Ext ι H ι1 H1) (p : PostF G E ι H r D) : PostF G E ι1 H1 r D := by
  cases r with
  | nx d m => exact fun v H' ι' x s r => p v H' ι' (e.trans x) s r
  | rt d m => exact fun v H' ι' x s r => p v H' ι' (e.trans x) s r
  | bk d m => exact fun v H' ι' x s r => p v H' ι' (e.trans x) s r
  | ct d m => exact fun v H' ι' x s r => p v H' ι' (e.trans x) s r
  | exc C ds m => exact fun od H' ι' x s r => p od H' ι' (e.trans x) s r
  | bad => exact p
theorem PostF.bindR {r : R α} {f : α → Sto → F} (p : PostF G E ι H (r.thenF f) D) {Q' : β → Hp → Prop}
    (k : ∀ a μ1 b H1 ι1, r = .ok a μ1 → Ext ι H ι1 H1 → SOk G ι1 H1 μ1 → Rl ι1 H1 b a → PostF G E ι1 H1 (f a μ1) D → Q' b H1) : PostX G Rl E ι H r Q' := by
  cases r with
  | ok d m => exact fun v H' ι' x s r => k d m v H' ι' rfl x s r (PostF.mono x p)
  | exc C ds m => exact p
  | bad => exact p
theorem PostF.then {r : F} {f : Env → Sto → F} (p : PostF G E ι H (r.then f) D) {nx' : L2.St → Hp → Prop}
    (k : ∀ ρ μ σ H' ι', r = .nx ρ μ → Ext ι H ι' H' → SOk G ι' H' μ → EOk G ι' H' σ ρ → PostF G E ι' H' (f ρ μ) D → nx' σ H') : PostF G E ι H r { D with nx := nx' } := by
  cases r with
  | nx d m => exact fun v H' ι' x s r => k d m v H' ι' rfl x s r (PostF.mono x p)
  | rt d m => exact p
  | bk d m => exact p
  | ct d m => exact p
  | exc C ds m => exact p
  | bad => exact p
theorem PostF.nxt (p : PostF G E ι H (.nx ρ μ) D) (s : SOk G ι H μ) (e : EOk G ι H σ ρ) : D.nx σ H := p σ H ι (Ext.refl _ _) s e
end
abbrev PSm (G : Gx) (E : XK) (Γ : Tb) (X : Cx) (st : Stmt) (m : Ss) : Prop := PS X st (TSv G E (exS Γ m))
abbrev PSsm (G : Gx) (E : XK) (Γ : Tb) (X : Cx) (st : List Stmt) (m : List Ss) : Prop := PSs X st (TSv G E (exB Γ m))
abbrev eN (Q : L2.St → Hp → Prop) : Ends := { nx := Q, rt := fun _ _ => True, bk := fun _ _ => True, ct := fun _ _ => True }
abbrev gT (G : Gx) (E : XK) (Γ : Tb) (t : Tgt) : TG := fun v σ H Q => ∃ ι ρ μ d, EOk G ι H σ ρ ∧ SOk G ι H μ ∧ Rel G ι H v d ∧ PostF G E ι H (setT Γ t d ρ μ) (eN Q)
abbrev gTsv (G : Gx) (E : XK) (Γ : Tb) (ts : List Tgt) : TGs := fun vs σ H Q => ∃ ι ρ μ ds, EOk G ι H σ ρ ∧ SOk G ι H μ ∧ Rels G ι H vs ds ∧ PostF G E ι H (setTs Γ ts ds ρ μ) (eN Q)
abbrev PGm (G : Gx) (E : XK) (Γ : Tb) (X : Cx) (e : Expr) (t : Tgt) : Prop := PG X e (gT G E Γ t)
theorem _root_.L2.PG.weak {X : Cx} {e : Expr} {t t' : TG} (h : PG X e t) (k : ∀ v σ H Q, t' v σ H Q → t v σ H Q) : PG X e t' := ⟨fun pins s σ H v u Q I r q => h.run pins s σ H v u Q I r (k v σ H Q q)⟩
theorem _root_.L2.PGs.weak {X : Cx} {e : List Expr} {t t' : TGs} (h : PGs X e t) (k : ∀ v σ H Q, t' v σ H Q → t v σ H Q) : PGs X e t' := ⟨fun pins s σ H v u Q I r q => h.run pins s σ H v u Q I r (k v σ H Q q)⟩
theorem ite_okF {c : Bool} {r : F} {G : Gx} {E : XK} {ι : List Addr} {H : Hp} {D : Ends} (p : PostF G E ι H (if c = true then r else .bad) D) : c = true ∧ PostF G E ι H r D := by
  cases c with
  | true => exact ⟨rfl, p⟩
  | false => exact p.elim
def swC (sc : Scope) (ts vs : List Expr) : Option (Option (List Str)) :=
  if (!(ts.length == 2 || ts.length == 3) || vs.length != ts.length) then some none
  else if vs.any isStar then some none
  else
    let line := (ts.head?.map (·.pos.line)).getD 0
    let names := ts.filterMap fun
      | .Name id pos => if sc.names.lookup id == some NameKind.local && pos.line == line then some id else none
      | _ => none
    if names.length != ts.length || names.eraseDups.length != names.length then some none
    else if vs.all (foldedForSure 8) then some none
    else if vs.all (constantsAlone 8) then none
    else some (some names)
theorem swap_tup {ts vs : List Expr} {k k2 : Nat} {p p2 : Pos} {env : PySem.Env} {o : Option (List Str)} (hk : env.scope.kind = .function) (h : swC env.scope ts vs = some o) :
    swappedStores [.Tuple ts k p] (.Tuple vs k2 p2) env = pure o := by
  have hb : env.blockKind = .function := by
    unfold PySem.Env.blockKind
    rw [hk]
    rfl
  unfold swC at h
  unfold swappedStores
  show (if (!(ts.length == 2 || ts.length == 3) || vs.length != ts.length || env.blockKind != .function) = true then pure none else _) = _
  rw [hb]
  by_cases h1 : (!(ts.length == 2 || ts.length == 3) || vs.length != ts.length) = true
  · rw [if_pos h1] at h
    cases h
    rw [if_pos (by rw [h1]; rfl)]
  · rw [if_neg h1] at h
    rw [if_neg (by
      intro hh
      rw [Bool.or_eq_true] at hh
      rcases hh with hh | hh
      · exact h1 hh
      · cases hh)]
    by_cases h2 : vs.any isStar = true
    · rw [if_pos h2] at h
      cases h
      exact if_pos h2
    · rw [if_neg h2] at h
      refine (if_neg h2).trans ?_
      simp only at h
      split at h
      · rename_i h3
        cases h
        exact if_pos h3
      · rename_i h3
        refine (if_neg h3).trans ?_
        split at h
        · rename_i h4
          cases h
          exact if_pos h4
        · rename_i h4
          refine (if_neg h4).trans ?_
          split at h
          · cases h
          · rename_i h5
            cases h
            exact if_neg h5
theorem swap_no {t v : Expr} {env : PySem.Env} (h : (match t, v with
    | .Tuple _ _ _, .Tuple _ _ _ => true
    | .List _ _, .Tuple _ _ _ => true
    | _, _ => false) = false) : swappedStores [t] v env = pure none := by
  cases t <;> first
    | rfl
    | (cases v <;> first | rfl | cases h)
section
variable {G : Gx} {Γ : Tb} {E : XK} {X : Cx} {a b : Expr} {ma mb : Ee} {pos : Pos}
theorem pg_bad {e : Expr} : PGm G E Γ X e .bad := ⟨fun pins s σ H v u Q I r h => by
  obtain ⟨ι, ρ, μ, d, _, _, _, p⟩ := h
  cases d <;> exact p.elim⟩
theorem pg_nm {i : Nat} {x : Str} (hN : X.N.Nodup) (hi : X.N[i]? = some x) (hx : Loc X.env.scope x) (hf : X.fn x = true ∨ X.env.scope.names.lookup x = some .local) : PGm G E Γ X (.Name x pos) (.nm i) :=
  (pg_name hN hi hx hf).weak (by
    rintro v σ H Q ⟨ι, ρ, μ, d, e, s, r, p⟩
    exact PostF.nxt (D := eN Q) (show PostF G E ι H (.nx (ρ.set i (some d)) μ) _ from p) s (e.set r i))
theorem pgs_mnil : PGs X [] (gTsv G E Γ []) := pgs_nil.weak (by
  rintro vs σ H Q ⟨ι, ρ, μ, ds, e, s, r, p⟩
  cases ds with
  | nil =>
    rw [rels_nil_iff] at r
    subst r
    exact ⟨rfl, PostF.nxt (D := eN Q) (show PostF G E ι H (.nx ρ μ) _ from p) s e⟩
  | cons _ _ => exact p.elim)
theorem pgs_mcons {es : List Expr} {t : Tgt} {ts : List Tgt} (hs : isStar a = false) (h : PGm G E Γ X a t) (hr : PGs X es (gTsv G E Γ ts)) : PGs X (a :: es) (gTsv G E Γ (t :: ts)) :=
  (pgs_cons h hr (by rw [each_cons hs]; rfl)).weak (by
    rintro vs σ H Q ⟨ι, ρ, μ, ds, e, s, r, p⟩
    cases ds with
    | nil => exact p.elim
    | cons d ds =>
      obtain ⟨v, vr, rfl, rv, rr⟩ := rels_cons_iff.mp r
      have p : PostF G E ι H ((setT Γ t d ρ μ).then fun ρ1 μ1 => setTs Γ ts ds ρ1 μ1) (eN Q) := p
      exact ⟨v, vr, rfl, ι, ρ, μ, d, e, s, rv, PostF.then p fun ρ1 μ1 σ1 H1 ι1 _ x1 s1 e1 p1 => ⟨ι1, ρ1, μ1, ds, e1, s1, Rels.ext x1 _ _ rr, p1⟩⟩)
theorem pg_mtup {es : List Expr} {k : Nat} {ts : List Tgt} (hK : X.K = G.K) (hc : X.calm = true) (hs : es.all (fun e => !isStar e) = true) (hl : es.length = ts.length) (h : PGs X es (gTsv G E Γ ts)) : PGm G E Γ X (.Tuple es k pos) (.tp ts) := by
  have h1 := pg_tup (pos := pos) (k := k) hc h (n := ts.length) (by rw [each_len hs, hl]) (each_no hs)
  have h2 := pg_lst (pos := pos) (k := k) hc h (n := ts.length) (by rw [each_len hs, hl]) (each_no hs)
  rw [hK] at h1 h2
  have key : ∀ (v : V) (σ : L2.St) (H : Hp) (Q : L2.St → Hp → Prop), gT G E Γ (.tp ts) v σ H Q → gTup G.K ts.length (gTsv G E Γ ts) v σ H Q ∨ gLst G.K ts.length (gTsv G E Γ ts) v σ H Q := by
    rintro v σ H Q ⟨ι, ρ, μ, d, e, s, r, p⟩
    cases d with
    | tup ds =>
      obtain ⟨q, vs, rfl, h1, h2, h3⟩ := tup_ok r
      have p : PostF G E ι H (if ds.length = ts.length then setTs Γ ts ds ρ μ else .bad) (eN Q) := p
      by_cases hn : ds.length = ts.length
      · rw [if_pos hn] at p
        exact .inl ⟨q, vs, rfl, h1, h2.len.trans hn, ι, ρ, μ, ds, e, s, h2, p⟩
      · rw [if_neg hn] at p
        exact p.elim
    | lst ds =>
      obtain ⟨q, vs, rfl, h1, h2, h3⟩ := lst_ok (ds := ds) s r rfl
      have p : PostF G E ι H (if ds.length = ts.length then setTs Γ ts ds ρ μ else .bad) (eN Q) := p
      by_cases hn : ds.length = ts.length
      · rw [if_pos hn] at p
        exact .inr ⟨q, vs, rfl, SqL.of h1, h2.len.trans hn, ι, ρ, μ, ds, e, s, h2, p⟩
      · rw [if_neg hn] at p
        exact p.elim
    | cell j =>
      have p : PostF G E ι H (match μ[j]? with
        | some (.lst ds) => if ds.length = ts.length then setTs Γ ts ds ρ μ else .bad
        | _ => .bad) (eN Q) := p
      cases hk : μ[j]? with
      | none =>
        simp only [hk] at p
        exact p.elim
      | some c =>
        cases c with
        | lst ds =>
          simp only [hk] at p
          obtain ⟨q, vs, rfl, h1, h2, h3⟩ := lst_ok (ds := ds) s r (by simp [lstOf, hk])
          by_cases hn : ds.length = ts.length
          · rw [if_pos hn] at p
            exact .inr ⟨q, vs, rfl, SqL.of h1, h2.len.trans hn, ι, ρ, μ, ds, e, s, h2, p⟩
          · rw [if_neg hn] at p
            exact p.elim
        | ins _ _ _ =>
          simp only [hk] at p
          exact p.elim
        | dic _ _ =>
          simp only [hk] at p
          exact p.elim
    | _ => exact p.elim
  exact ⟨fun pins s σ H v u Q I r h => (key v σ H Q h).elim (h1.run pins s σ H v u Q I r) (h2.run pins s σ H v u Q I r)⟩
theorem pg_msub {o i : Expr} {mo mi : Ee} (hb : isSlice i = false) (ho : PEm G E Γ X o mo) (hi : PEm G E Γ X i mi) : PGm G E Γ X (.Subscript o i pos) (.sub mo mi) :=
  (pg_sub ho hi set_list (fun v => by
    cases i <;> first | rfl | cases hb)).weak (by
    rintro v σ H Q ⟨ι, ρ, μ, d, e, s, r, p⟩
    have p : PostF G E ι H ((evE Γ mo ρ μ).thenF fun o μ1 => (evE Γ mi ρ μ1).thenF fun j μ2 => (match setItemD o j d μ2 with
      | some μ3 => .nx ρ μ3
      | none => .bad)) (eN Q) := p
    refine ⟨ι, ρ, μ, e, s, PostF.bindR p fun x μ1 v1 H1 ι1 _ x1 s1 r1 p1 => ?_⟩
    refine ⟨ι1, ρ, μ1, e.ext x1, s1, PostF.bindR p1 fun y μ2 v2 H2 ι2 _ x2 s2 r2 p2 => ?_⟩
    cases x with
    | cell k =>
      cases y with
      | int j =>
        cases r2
        obtain ⟨a, ha, rfl⟩ := Rel.ext x2 _ _ r1
        cases hk : μ2[k]? with
        | none =>
          simp only [setItemD, hk] at p2
          exact p2.elim
        | some c =>
          cases c with
          | lst ds =>
            obtain ⟨b, h2, vs, h3, h4, h5⟩ := s2.at_ k _ hk
            rw [ha] at h2
            cases h2
            cases hn : ixN ds.length j with
            | none =>
              simp only [setItemD, hk, hn, Option.map_none] at p2
              exact p2.elim
            | some n =>
              simp only [setItemD, hk, hn, Option.map_some] at p2
              have x3 : Ext ι2 H2 ι2 (upd H2 a (.lst (vs.set n v))) := s2.ext_write ha
              refine ⟨a, vs, j, n, rfl, rfl, h3, by rw [h4.len]; exact hn, ?_⟩
              refine p2 σ _ ι2 x3 (s2.write ha ⟨_, upd_same, Rels.ext x3 _ _ (Rels.set (Rel.ext (x1.trans x2) _ _ r) n h4), by rw [List.length_set]; exact h5⟩) (e.ext ((x1.trans x2).trans x3))
          | ins C fs ds =>
            simp only [setItemD, hk] at p2
            exact p2.elim
          | dic ks ds =>
            simp only [setItemD, hk] at p2
            exact p2.elim
      | _ => exact p2.elim
    | _ => exact p2.elim)
theorem sm_bad {st : Stmt} : PSm G E Γ X st .bad := ⟨fun pins s σ H D I h => by
  obtain ⟨ι, ρ, μ, _, _, p⟩ := h
  exact p.elim⟩
theorem bm_nil : PSsm G E Γ X [] [] := pss_nil.weak (by
  rintro D σ H ⟨ι, ρ, μ, e, s, p⟩
  exact PostF.nxt (show PostF G E ι H (.nx ρ μ) D from p) s e)
theorem bm_cons {st : Stmt} {sts : List Stmt} {m : Ss} {ms : List Ss} (h : PSm G E Γ X st m) (hr : PSsm G E Γ X sts ms) : PSsm G E Γ X (st :: sts) (m :: ms) :=
  (pss_cons h hr).weak (by
    rintro D σ H ⟨ι, ρ, μ, e, s, p⟩
    have p : PostF G E ι H ((exS Γ m ρ μ).then fun ρ1 μ1 => exB Γ ms ρ1 μ1) D := p
    exact ⟨ι, ρ, μ, e, s, PostF.then p fun ρ1 μ1 σ1 H1 ι1 _ x1 s1 e1 p1 => ⟨ι1, ρ1, μ1, e1, s1, p1⟩⟩)
theorem sm_pass : PSm G E Γ X (.Pass pos) .pass := ps_pass.weak (by
  rintro D σ H ⟨ι, ρ, μ, e, s, p⟩
  exact PostF.nxt (show PostF G E ι H (.nx ρ μ) D from p) s e)
theorem sm_doc {x j p2} : PSm G E Γ X (.Expr (.Constant (.str x) j p2) pos) .pass := ps_doc.weak (by
  rintro D σ H ⟨ι, ρ, μ, e, s, p⟩
  exact PostF.nxt (show PostF G E ι H (.nx ρ μ) D from p) s e)
theorem sm_brk : PSm G E Γ X (.Break pos) .brk := ps_break.weak (by
  rintro D σ H ⟨ι, ρ, μ, e, s, p⟩
  exact p σ H ι (Ext.refl _ _) s e)
theorem sm_cont : PSm G E Γ X (.Continue pos) .cont := ps_continue.weak (by
  rintro D σ H ⟨ι, ρ, μ, e, s, p⟩
  exact p σ H ι (Ext.refl _ _) s e)
theorem sm_ret (h : PEm G E Γ X a ma) : PSm G E Γ X (.Return (some a) pos) (.ret ma) := (ps_ret h).weak (by
  rintro D σ H ⟨ι, ρ, μ, e, s, p⟩
  exact ⟨ι, ρ, μ, e, s, PostF.bindR (show PostF G E ι H ((evE Γ ma ρ μ).thenF fun d μ1 => .rt d μ1) D from p) fun d μ1 v H1 ι1 _ x1 s1 r1 p1 => p1 v H1 ι1 (Ext.refl _ _) s1 r1⟩)
theorem sm_retN : PSm G E Γ X (.Return none pos) .retN := ps_retN.weak (by
  rintro D σ H ⟨ι, ρ, μ, e, s, p⟩
  exact (show PostF G E ι H (.rt .non μ) D from p) .non H ι (Ext.refl _ _) s rfl)
theorem sm_ex (hs : isComp a = false) (h : PEm G E Γ X a ma) : PSm G E Γ X (.Expr a pos) (.ex ma) := (ps_expr h (swap_plain hs)).weak (by
  rintro D σ H ⟨ι, ρ, μ, e, s, p⟩
  exact ⟨ι, ρ, μ, e, s, PostF.bindR (show PostF G E ι H ((evE Γ ma ρ μ).thenF fun _ μ1 => .nx ρ μ1) D from p) fun d μ1 v H1 ι1 _ x1 s1 r1 p1 => PostF.nxt p1 s1 (e.ext x1)⟩)
theorem asg_read {t : Tgt} : ∀ D σ H, TSv G E (exS Γ (.asg t ma)) D σ H → tAsg (TEv G E (evE Γ ma)) (gT G E Γ t) D σ H := by
  rintro D σ H ⟨ι, ρ, μ, e, s, p⟩
  refine ⟨ι, ρ, μ, e, s, PostF.bindR (show PostF G E ι H ((evE Γ ma ρ μ).thenF fun d μ1 => setT Γ t d ρ μ1) D from p) fun d μ1 v H1 ι1 _ x1 s1 r1 p1 => ⟨ι1, ρ, μ1, d, e.ext x1, s1, r1, ?_⟩⟩
  show PostF G E ι1 H1 (setT Γ t d ρ μ1) (eN D.nx)
  cases h : setT Γ t d ρ μ1 with
  | nx _ _ =>
    rw [h] at p1
    exact p1
  | rt d m => exact fun _ _ _ _ _ _ => trivial
  | bk d m => exact fun _ _ _ _ _ _ => trivial
  | ct d m => exact fun _ _ _ _ _ _ => trivial
  | exc _ _ _ =>
    rw [h] at p1
    exact p1
  | bad =>
    rw [h] at p1
    exact p1
def isNm : Expr → Bool
  | .Name _ _ => true
  | _ => false
theorem swap_plain2 {e t : Expr} {n : Nat} {env : PySem.Env} (h : (isComp e && isNm t) = false) : swapsWith e (some t) n env = pure false := by
  cases hc : isComp e with
  | false => exact swap_plain hc
  | true =>
    rw [hc, Bool.true_and] at h
    cases e <;> first
      | (cases hc; done)
      | (cases t <;> first | rfl | cases h)
theorem sm_asg {t : Tgt} {tg : Expr} (hs : (isComp a && isNm tg) = false) (hw : swappedStores [tg] a X.env = pure none) (h1 : isStar tg = false) (h : PEm G E Γ X a ma) (hg : PGm G E Γ X tg t) : PSm G E Γ X (.Assign [tg] a pos) (.asg t ma) :=
  (ps_asg h hg (show swapsWith a (some tg) pos.line X.env = pure false from swap_plain2 hs) hw (by rw [each_cons h1]; rfl)).weak asg_read
def swL (sc : Scope) (y : Str) (py pos : Pos) (scope : Scope) : Bool := sc.names.lookup y == some NameKind.local && py.line == pos.line && !(scope.names.any fun (n, k) => n == y && (k == .local || k == .cell))
theorem swL_ok {elt : Expr} {gs : List Comprehension} {scope : Scope} {p py : Pos} {y : Str} {l : Nat} {env : PySem.Env} (hk : env.scope.kind = .function) : swapsWith (.ListComp elt gs scope p) (some (.Name y py)) l env = pure (swL env.scope y py p scope) := by
  have hb : env.blockKind = .function := by
    unfold PySem.Env.blockKind
    rw [hk]
    rfl
  unfold swapsWith
  simp only [hb, Expr.pos]
  rfl
theorem sm_asgC {i : Nat} {y : Str} {py : Pos} {mt : Tg} {ik : IK} {mits mifs : List Ee} {melt : Ee} {c : Bool} {elt tg iter : Expr} {ifs : List Expr} {scope : Scope} {own : List (Str × Nat)} {p : Pos}
    (hK : X.K = G.K) (hc : X.calm = true) (hN : X.N.Nodup) (hkf : X.env.scope.kind = .function) (hy : X.N[i]? = some y) (hx : Loc X.env.scope y) (hf : X.fn y = true ∨ X.env.scope.names.lookup y = some .local)
    (ok : BlkOk X.N X.env.scope scope own) (hin : tgIn (own.map (·.2)) mt = true) (hi : PIm G E Γ X tg iter ik mits)
    (hg : ∀ (s : Shared) (H : Hp) (C : Addr) (cl : List (Str × Addr)) (fp : List Addr), PG (X.blk s H scope (compEnvC scope cl C X.env) fp) tg (gTg G.K mt))
    (ht : ∀ z (s : Shared) (H : Hp) (C : Addr) (cl : List (Str × Addr)) (fp : List Addr), PTs (X.blk s H scope (compEnvC scope cl C X.env) fp) ifs (TX (G.wz z) (fun _ _ b a => b = a) E0 (evIfs Γ mifs)))
    (he : ∀ z (s : Shared) (H : Hp) (C : Addr) (cl : List (Str × Addr)) (fp : List Addr), PEm (G.wz z) E0 Γ (X.blk s H scope (compEnvC scope cl C X.env) fp) elt melt) (hs : isSet iter = false) :
    PSm G E Γ X (.Assign [.Name y py] (.ListComp elt [⟨tg, iter, ifs, 0⟩] scope p) pos) (.asg (.nm i) (.comp c melt mt ik mits mifs (own.map (·.2)))) := by
  cases hsw : swL X.env.scope y py p scope with
  | true =>
    have hyl : X.env.scope.names.lookup y = some .local := by
      unfold swL at hsw
      rw [Bool.and_eq_true, Bool.and_eq_true] at hsw
      simpa using hsw.1.1
    refine (ps_setLc hc hN hy hyl (by rw [swL_ok hkf, hsw]) hi ok hg (fun s H C cl fp => pts_z fun z => ht z s H C cl fp) (fun s H C cl fp => pe_z fun z => he z s H C cl fp) (fold_plain hs)).weak fun D σ H q => ?_
    obtain ⟨ι, ρ, μ, e, so, pq⟩ := asg_read (G := G) D σ H q
    refine lc_read hin σ H _ ⟨ι, ρ, μ, e, so, PostX.bind (f := fun d μ => T.R.ok d μ) (show PostX G (Rel G) E ι H _ _ from by
      cases h : evE Γ (.comp c melt mt ik mits mifs (own.map (·.2))) ρ μ <;> (rw [h] at pq; exact pq)) fun d μ1 v H1 ι1 _ x1 s1 r1 p1 => ?_⟩
    obtain ⟨ι2, ρ2, μ2, d2, e2, s2, r2, p2⟩ := PostX.here p1 s1 r1
    exact PostF.nxt (D := eN D.nx) (show PostF G E ι2 H1 (.nx (ρ2.set i (some d2)) μ2) _ from p2) s2 (e2.set r2 i)
  | false =>
    refine (ps_set hN hy hx (pm_comp (c := c) hK hc hN ok hin hi hg ht he hs) (by rw [swL_ok hkf, hsw]) hf).weak fun D σ H q => ?_
    obtain ⟨ι, ρ, μ, e, so, pq⟩ := asg_read (G := G) D σ H q
    refine ⟨ι, ρ, μ, e, so, PostX.bind (f := fun d μ => T.R.ok d μ) (show PostX G (Rel G) E ι H _ _ from by
      cases h : evE Γ (.comp c melt mt ik mits mifs (own.map (·.2))) ρ μ <;> (rw [h] at pq; exact pq)) fun d μ1 v H1 ι1 _ x1 s1 r1 p1 => ?_⟩
    obtain ⟨ι2, ρ2, μ2, d2, e2, s2, r2, p2⟩ := PostX.here p1 s1 r1
    exact PostF.nxt (D := eN D.nx) (show PostF G E ι2 H1 (.nx (ρ2.set i (some d2)) μ2) _ from p2) s2 (e2.set r2 i)
theorem fits_small {n : Nat} (h : n ≤ 1000) : fits n = true := fits_iff.mpr (Nat.le_of_lt (small1000 h))
theorem sm_par {i j : Nat} {x y : Str} {px py pt : Pos} {kt k2 : Nat} {pt2 : Pos} (hc : X.calm = true) (hN : X.N.Nodup) (hkf : X.env.scope.kind = .function) (hi : X.N[i]? = some x) (hj : X.N[j]? = some y) (hij : i ≠ j)
    (hx : X.env.scope.names.lookup x = some .local) (hy : X.env.scope.names.lookup y = some .local) (ha : PAm G E Γ X [a, b] [ma, mb]) (hw : swC X.env.scope [.Name x px, .Name y py] [a, b] = some (some [x, y])) :
    PSm G E Γ X (.Assign [.Tuple [.Name x px, .Name y py] kt pt] (.Tuple [a, b] k2 pt2) pos) (.asg (.tp [.nm i, .nm j]) (.tup [ma, mb])) :=
  (ps_par hc hN hi hj hij hx hy ha (swap_tup hkf hw)).weak (by
    rintro D σ H ⟨ι, ρ, μ, e, s, p⟩
    have p : PostF G E ι H (((evEs Γ [ma, mb] ρ μ).bind fun ds μ1 => if fits ds.length then .ok (.tup ds) μ1 else .bad).thenF fun d μ1 => setT Γ (.tp [.nm i, .nm j]) d ρ μ1) D := p
    have p : PostF G E ι H ((evEs Γ [ma, mb] ρ μ).thenF fun ds μ1 => if ds.length = 2 then setT Γ (.tp [.nm i, .nm j]) (.tup ds) ρ μ1 else .bad) D := by
      cases h : evEs Γ [ma, mb] ρ μ with
      | ok ds m =>
        have hl : ds.length = 2 := evEs_len _ _ _ _ _ h
        rw [h] at p
        simp only [R.bind_ok, hl] at p
        rw [if_pos (fits_small (by omega))] at p
        show PostF G E ι H (if ds.length = 2 then _ else _) D
        rw [if_pos hl]
        exact p
      | exc C ds m =>
        rw [h] at p
        exact p
      | bad =>
        rw [h] at p
        exact p
    refine ⟨ι, ρ, μ, e, s, PostF.bindR p fun ds μ1 vs H1 ι1 _ x1 s1 r1 p1 => ?_⟩
    by_cases hl : ds.length = 2
    · rw [if_pos hl] at p1
      obtain ⟨d1, d2, rfl⟩ : ∃ d1 d2, ds = [d1, d2] := by
        match ds, hl with
        | [d1, d2], _ => exact ⟨d1, d2, rfl⟩
      obtain ⟨v, w, rfl, rv, rw'⟩ := r2_of r1
      exact ⟨v, w, rfl, PostF.nxt (show PostF G E ι1 H1 (.nx ((ρ.set i (some d1)).set j (some d2)) μ1) D from p1) s1 (((e.ext x1).set rv i).set rw' j)⟩
    · rw [if_neg hl] at p1
      exact p1.elim)
def tPar3 (i j k : Nat) (ta : TA) : TS := fun D σ H => ta σ H fun vs H1 => ∃ u v w, vs = [u, v, w] ∧ D.nx (((σ.set i (some u)).set j (some v)).set k (some w)) H1
theorem ps_par3 {i j k : Nat} {x y z : Str} {a b c : Expr} {ta : TA} {px py pz pt : Pos} {kt k2 : Nat} {pt2 : Pos} (hc : X.calm = true) (hN : X.N.Nodup) (hi : X.N[i]? = some x) (hj : X.N[j]? = some y) (hk : X.N[k]? = some z) (hij : i ≠ j) (hik : i ≠ k) (hjk : j ≠ k)
    (hx : X.env.scope.names.lookup x = some .local) (hy : X.env.scope.names.lookup y = some .local) (hz : X.env.scope.names.lookup z = some .local) (ha : PA X [a, b, c] ta)
    (hw : swappedStores [.Tuple [.Name x px, .Name y py, .Name z pz] kt pt] (.Tuple [a, b, c] k2 pt2) X.env = pure (some [x, y, z])) :
    PS X (.Assign [.Tuple [.Name x px, .Name y py, .Name z pz] kt pt] (.Tuple [a, b, c] k2 pt2) pos) (tPar3 i j k ta) := by
  refine ⟨fun pins s σ H D I h => ?_⟩
  rw [exec_Assign_arm]
  refine wpAny_bind (wpAny_standAt ?_)
  rw [show swapsWithSole [.Tuple [.Name x px, .Name y py, .Name z pz] kt pt] (.Tuple [a, b, c] k2 pt2) pos.line X.env = pure false from rfl]
  refine wpAny_bind (wpAny_pure ?_)
  rw [if_neg (by decide)]
  refine wpAny_bind (Tuple_ (thn (ha.run _ pins s σ H _ I h) fun us s1 ⟨vs, H1, I1, r1, q1⟩ => ?_))
  obtain ⟨v1, v2, v3, e1, q1⟩ := q1
  subst e1
  obtain ⟨u1, u2, u3, rfl, rv1, rv2, rv3⟩ : ∃ u1 u2 u3, us = [u1, u2, u3] ∧ RelV v1 u1 ∧ RelV v2 u2 ∧ RelV v3 u3 := by
    cases r1 with
    | cons p q =>
      cases q with
      | cons p' q' =>
        cases q' with
        | cons p'' q'' =>
          cases q''
          exact ⟨_, _, _, rfl, p, p', p''⟩
  refine wpAny_newObj_type ?_ (by show 3 ≤ sizeLine; decide)
  have I2 : Inv X pins σ H1 { s1 with heap := s1.heap.push { cls := .type "tuple", data := .seq [u1, u2, u3].toArray } } := I1.kept (t' := s1.toks) fun b o e => Heap.get?_push_of_some _ e
  rw [hw]
  refine wpAny_bind (wpAny_pure ?_)
  show wpAny (model X.prog X.w) X.A (do rule "assign.swapped-stores"; let items ← unpackItems (.ref s1.heap.objs.size) 3 none; assignInOrder [fun v => bindName X.env z v, fun v => bindName X.env y v, fun v => bindName X.env x v] items.reverse; pure Flow.next) _ _ _
  refine wpAny_bind (wpAny_rule (wpAny_bind (unpackItems_tuple (items := #[u1, u2, u3]) (I.ok.hd hc) (IsTup.new s1.heap _) fun h' hx' => ?_)))
  have I3 := I2.kept (h' := h') (t' := s1.toks) fun b o e => hx' b o (Nat.ne_of_lt (Heap.lt_size e)) e
  show wpAny _ _ (assignInOrder [fun v => bindName X.env z v, fun v => bindName X.env y v, fun v => bindName X.env x v] [u3, u2, u1] >>= fun _ => pure Flow.next) _ _ _
  refine wpAny_bind (assignInOrder_cons (wpAny_bindName (store_ok I3 hN hk (.inl hz) rv3 (fun s2 I4 => ?_) (.inr hz))))
  refine assignInOrder_cons (wpAny_bindName (store_ok I4 hN hj (.inl hy) rv2 (fun s3 I5 => ?_) (.inr hy)))
  refine assignInOrder_cons (wpAny_bindName (store_ok I5 hN hi (.inl hx) rv1 (fun s4 I6 => assignInOrder_nil (wpAny_pure ?_)) (.inr hx)))
  rw [List.set_comm _ _ (Ne.symm hij), List.set_comm _ _ (Ne.symm hik), List.set_comm _ _ (Ne.symm hjk)] at I6
  exact ⟨_, H1, I6, q1⟩
theorem sm_par3 {i j k : Nat} {x y z : Str} {c : Expr} {mc : Ee} {px py pz pt : Pos} {kt k2 : Nat} {pt2 : Pos} (hc : X.calm = true) (hN : X.N.Nodup) (hkf : X.env.scope.kind = .function) (hi : X.N[i]? = some x) (hj : X.N[j]? = some y) (hk : X.N[k]? = some z) (hij : i ≠ j) (hik : i ≠ k) (hjk : j ≠ k)
    (hx : X.env.scope.names.lookup x = some .local) (hy : X.env.scope.names.lookup y = some .local) (hz : X.env.scope.names.lookup z = some .local) (ha : PAm G E Γ X [a, b, c] [ma, mb, mc]) (hw : swC X.env.scope [.Name x px, .Name y py, .Name z pz] [a, b, c] = some (some [x, y, z])) :
    PSm G E Γ X (.Assign [.Tuple [.Name x px, .Name y py, .Name z pz] kt pt] (.Tuple [a, b, c] k2 pt2) pos) (.asg (.tp [.nm i, .nm j, .nm k]) (.tup [ma, mb, mc])) :=
  (ps_par3 hc hN hi hj hk hij hik hjk hx hy hz ha (swap_tup hkf hw)).weak (by
    rintro D σ H ⟨ι, ρ, μ, e, s, p⟩
    have p : PostF G E ι H (((evEs Γ [ma, mb, mc] ρ μ).bind fun ds μ1 => if fits ds.length then .ok (.tup ds) μ1 else .bad).thenF fun d μ1 => setT Γ (.tp [.nm i, .nm j, .nm k]) d ρ μ1) D := p
    have p : PostF G E ι H ((evEs Γ [ma, mb, mc] ρ μ).thenF fun ds μ1 => if ds.length = 3 then setT Γ (.tp [.nm i, .nm j, .nm k]) (.tup ds) ρ μ1 else .bad) D := by
      cases h : evEs Γ [ma, mb, mc] ρ μ with
      | ok ds m =>
        have hl : ds.length = 3 := evEs_len _ _ _ _ _ h
        rw [h] at p
        simp only [R.bind_ok, hl] at p
        rw [if_pos (fits_small (by omega))] at p
        show PostF G E ι H (if ds.length = 3 then _ else _) D
        rw [if_pos hl]
        exact p
      | exc C ds m =>
        rw [h] at p
        exact p
      | bad =>
        rw [h] at p
        exact p
    refine ⟨ι, ρ, μ, e, s, PostF.bindR p fun ds μ1 vs H1 ι1 _ x1 s1 r1 p1 => ?_⟩
    by_cases hl : ds.length = 3
    · rw [if_pos hl] at p1
      obtain ⟨d1, d2, d3, rfl⟩ : ∃ d1 d2 d3, ds = [d1, d2, d3] := by
        match ds, hl with
        | [d1, d2, d3], _ => exact ⟨d1, d2, d3, rfl⟩
      obtain ⟨u, r, rfl, ru, rr⟩ := rels_cons_iff.mp r1
      obtain ⟨v, w, rfl, rv, rw'⟩ := r2_of rr
      exact ⟨u, v, w, rfl, PostF.nxt (show PostF G E ι1 H1 (.nx (((ρ.set i (some d1)).set j (some d2)).set k (some d3)) μ1) D from p1) s1 ((((e.ext x1).set ru i).set rv j).set rw' k)⟩
    · rw [if_neg hl] at p1
      exact p1.elim)
def ipM : TIp := fun x y H Q => ∃ i j, x = .int i ∧ y = .int j ∧ IntMulOk i j ∧ Q (.int (i * j)) H
theorem ip_mul : PIp X .Mult ipM := by
  intro pins s σ H x y v u Q I r1 r2 h
  obtain ⟨i, j, e1, e2, hm, q⟩ := h
  subst e1; subst e2
  obtain ⟨t, rfl⟩ := r1
  obtain ⟨t', rfl⟩ := r2
  exact PyProof.Rows.imul_int ⟨.int _, H, I.tok _, ⟨_, rfl⟩, q⟩ hm
theorem mulOk_ok {i j : Int} (h : mulOk i j = true) : IntMulOk i j := by
  unfold mulOk at h
  rw [Bool.or_eq_true, Bool.or_eq_true] at h
  rcases h with (h | h) | h
  · exact CMul.ok (.inl (of_decide_eq_true h))
  · exact CMul.ok (.inr (of_decide_eq_true h))
  · exact CMulW.ok (show i.natAbs.log2 + j.natAbs.log2 < 1000000 from of_decide_eq_true h)
def ipA (o : BOp) : TIp := match o with
  | .add => ipI fun i j => i + j
  | .sub => ipI fun i j => i - j
  | .mul => ipM
  | _ => fun _ _ _ _ => False
theorem ip_all (o : BOp) : PIp X o.op (ipA o) := by
  cases o with
  | add => exact ip_add
  | sub => exact ip_sub
  | mul => exact ip_mul
  | _ => exact fun pins s σ H x y v u Q I r1 r2 h => h.elim
theorem sm_aug {o : BOp} {i : Nat} {x : Str} {p2 : Pos} (hN : X.N.Nodup) (hi : X.N[i]? = some x) (hx : Loc X.env.scope x) (hf : X.fn x = true ∨ X.env.scope.names.lookup x = some .local) (h : PEm G E Γ X a ma) : PSm G E Γ X (.AugAssign (.Name x p2) o.op a pos) (.aug i o ma) :=
  (ps_aug hN hi hx h (ip_all o) hf).weak (by
    rintro D σ H ⟨ι, ρ, μ, e, s, p⟩
    have p : PostF G E ι H (match ρ[i]? with
      | some (some x) => (evE Γ ma ρ μ).thenF fun y μ1 => augD o i x y ρ μ1
      | _ => .bad) D := p
    cases hr : ρ[i]? with
    | none =>
      rw [hr] at p
      exact p.elim
    | some oo =>
      cases oo with
      | none =>
        rw [hr] at p
        exact p.elim
      | some d =>
        rw [hr] at p
        obtain ⟨v, h1, h2⟩ := e.at_ i d hr
        refine ⟨v, h1, ι, ρ, μ, e, s, PostF.bindR p fun y μ1 w H1 ι1 _ x1 s1 r1 p1 => ?_⟩
        cases d with
        | int n =>
          cases y with
          | int m =>
            cases h2
            cases r1
            cases o with
            | add => exact ⟨n, m, rfl, rfl, PostF.nxt p1 s1 ((e.ext x1).set (show Rel G ι1 H1 (.int (n + m)) (.int (n + m)) from rfl) i)⟩
            | sub => exact ⟨n, m, rfl, rfl, PostF.nxt p1 s1 ((e.ext x1).set (show Rel G ι1 H1 (.int (n - m)) (.int (n - m)) from rfl) i)⟩
            | mul =>
              obtain ⟨hm, p1⟩ := ite_okF p1
              exact ⟨n, m, rfl, rfl, mulOk_ok hm, PostF.nxt p1 s1 ((e.ext x1).set (show Rel G ι1 H1 (.int (n * m)) (.int (n * m)) from rfl) i)⟩
            | _ => exact p1.elim
          | _ => cases o <;> exact p1.elim
        | _ => cases o <;> exact p1.elim)
theorem sm_if {sa sb : List Stmt} {la lb : List Ss} (ht : PTm G E Γ X a ma) (h1 : PSsm G E Γ X sa la) (h2 : PSsm G E Γ X sb lb) : PSm G E Γ X (.If a sa sb pos) (.ite ma la lb) :=
  (ps_if ht h1 h2).weak (by
    rintro D σ H ⟨ι, ρ, μ, e, s, p⟩
    have p : PostF G E ι H ((evT Γ ma ρ μ).thenF fun c μ1 => if c then exB Γ la ρ μ1 else exB Γ lb ρ μ1) D := p
    refine ⟨ι, ρ, μ, e, s, PostF.bindR p fun t μ1 v H1 ι1 _ x1 s1 r1 p1 => ?_⟩
    have r1 : v = t := r1
    subst r1
    cases v with
    | true => exact ⟨ι1, ρ, μ1, e.ext x1, s1, p1⟩
    | false => exact ⟨ι1, ρ, μ1, e.ext x1, s1, p1⟩)
theorem PostF.loopB {r : F} {f : Env → Sto → F} {ι : List Addr} {H : Hp} {D : Ends} (p : PostF G E ι H (match r with
      | .nx ρ2 μ2 => f ρ2 μ2
      | .ct ρ2 μ2 => f ρ2 μ2
      | .bk ρ2 μ2 => .nx ρ2 μ2
      | r => r) D) {N : L2.St → Hp → Prop} (k : ∀ ρ μ σ H' ι', Ext ι H ι' H' → SOk G ι' H' μ → EOk G ι' H' σ ρ → PostF G E ι' H' (f ρ μ) D → N σ H') : PostF G E ι H r { D with nx := N, ct := N, bk := D.nx } := by
  cases r with
  | nx d m => exact fun v H' ι' x s r => k d m v H' ι' x s r (PostF.mono x p)
  | rt d m => exact p
  | bk d m => exact p
  | ct d m => exact fun v H' ι' x s r => k d m v H' ι' x s r (PostF.mono x p)
  | exc C ds m => exact p
  | bad => exact p
theorem sm_loop {tg it : Expr} {mt : Tg} {ik : IK} {mits : List Ee} {body : List Stmt} {mb : List Ss} (hp : PassesOwn (model X.prog X.w) X.A X.env X.xe) (hc : X.calm = true) (hi : PIm G E Γ X tg it ik mits) (hg : PG X tg (gTg G.K mt)) (hb : PSsm G E Γ X body mb) (hs : isSet it = false) :
    PSm G E Γ X (.For tg it body [] pos) (.loop mt ik mits mb) :=
  (ps_for hp hc hi hg hb (fold_plain hs)).weak (by
    rintro D σ H ⟨ι, ρ, μ, e, s, p⟩
    have p : PostF G E ι H ((evEs Γ mits ρ μ).thenF fun xs μ1 => (match itemsOf ik xs μ1 with
      | some (ds, gs) => forL gs mt (exB Γ mb) ds ρ μ1
      | none => .bad)) D := p
    refine ⟨ι, ρ, μ, e, s, PostF.bindR p fun xs μ1 vs H1 ι1 _ x1 s1 r1 p1 => ?_⟩
    cases hit : itemsOf ik xs μ1 with
    | none =>
      simp only [hit] at p1
      exact p1.elim
    | some q =>
      obtain ⟨ds, gs⟩ := q
      simp only [hit] at p1
      refine ⟨xs, μ1, ι1, ds, gs, r1, s1, hit, fun i m σ H => m = ds.length - i ∧ i ≤ ds.length ∧ ∃ ι' ρ' μ', EOk G ι' H σ ρ' ∧ SOk G ι' H μ' ∧ Rels G ι' H vs xs ∧ PostF G E ι' H (forL gs mt (exB Γ mb) (ds.drop i) ρ' μ') D, ⟨ds.length, rfl, Nat.zero_le _, ι1, ρ, μ1, e.ext x1, s1, r1, p1⟩, ?_⟩
      rintro i m σ2 H2 ⟨rfl, hi, ι2, ρ2, μ2, e2, s2, rv, p2⟩
      by_cases hst : still gs μ2
      · obtain ⟨hsz, hyl, hstop⟩ := walk_at s2 rv (items_still hit hst)
        by_cases hlt : i < ds.length
        · have hdr : ds.drop i = ds[i] :: ds.drop (i + 1) := by simp
          rw [hdr] at p2
          unfold forL at p2
          rw [ifStill_of hst] at p2
          cases hset : setTg μ2 mt ds[i] ρ2 with
          | none =>
            simp only [hset] at p2
            exact p2.elim
          | some ρ3 =>
            simp only [hset] at p2
            obtain ⟨go, hy⟩ := hyl i ds[i] (by simp [hlt])
            refine .inr ⟨go, fun σ' H' => i + 1 ≤ ds.length ∧ ∃ ι' ρ' μ', EOk G ι' H' σ' ρ' ∧ SOk G ι' H' μ' ∧ Rels G ι' H' vs xs ∧ PostF G E ι' H' (forL gs mt (exB Γ mb) (ds.drop (i + 1)) ρ' μ') D, fun σ' H' n => ⟨ds.length - (i + 1), by omega, rfl, n⟩, fun x H3 y => ?_⟩
            obtain ⟨hH, rx⟩ := hy x H3 y
            have x3 : Ext ι2 H2 ι2 H3 := by
              rcases hH with rfl | ⟨T, o, hT, rfl⟩
              · exact Ext.refl _ _
              · exact Ext.new hT
            have s3 : SOk G ι2 H3 μ2 := by
              rcases hH with rfl | ⟨T, o, hT, rfl⟩
              · exact s2
              · exact s2.new hT
            refine gTg_ok (G := G) (ι := ι2) (μ := μ2) mt ds[i] x σ2 ρ2 ρ3 _ hset rx (e2.ext x3) fun σ1 e3 _ => ?_
            exact ⟨ι2, ρ3, μ2, e3, s3, PostF.loopB (PostF.mono x3 p2) fun ρ4 μ4 σ4 H4 ι4 x4 s4 e4 p4 => ⟨hlt, ι4, ρ4, μ4, e4, s4, Rels.ext (x3.trans x4) _ _ rv, p4⟩⟩
        · have e0 : i = ds.length := by omega
          subst e0
          rw [List.drop_length] at p2
          unfold forL at p2
          rw [ifStill_of hst] at p2
          exact .inl ⟨hstop, PostF.nxt p2 s2 e2⟩
      · have hbad : forL gs mt (exB Γ mb) (ds.drop i) ρ2 μ2 = .bad := by
          cases ds.drop i with
          | nil =>
            unfold forL ifStill
            rw [if_neg hst]
          | cons d r =>
            unfold forL ifStill
            rw [if_neg hst]
        rw [hbad] at p2
        exact p2.elim)
theorem sm_whl {n : Nat} {body : List Stmt} {mb : List Ss} (hp : PassesOwn (model X.prog X.w) X.A X.env X.xe) (ht : PTm G E Γ X a ma) (hb : PSsm G E Γ X body mb) : PSm G E Γ X (.While a body [] pos) (.whl n ma mb) :=
  (ps_while hp ht hb).weak (by
    rintro D σ H ⟨ι, ρ, μ, e, s, p⟩
    have p : PostF G E ι H (whlL (evT Γ ma) (exB Γ mb) n ρ μ) D := p
    refine ⟨fun m σ H => ∃ ι ρ μ, EOk G ι H σ ρ ∧ SOk G ι H μ ∧ PostF G E ι H (whlL (evT Γ ma) (exB Γ mb) m ρ μ) D, ⟨n, ι, ρ, μ, e, s, p⟩, ?_⟩
    rintro m σ1 H1 ⟨ι1, ρ1, μ1, e1, s1, p1⟩
    cases m with
    | zero => exact p1.elim
    | succ m =>
      refine ⟨ι1, ρ1, μ1, e1, s1, PostF.bindR p1 fun t μ2 v H2 ι2 _ x2 s2 r2 p2 => ?_⟩
      have r2 : v = t := r2
      subst r2
      cases v with
      | true =>
        rw [if_pos rfl] at p2 ⊢
        exact ⟨fun σ' H' => ∃ ι ρ μ, EOk G ι H' σ' ρ ∧ SOk G ι H' μ ∧ PostF G E ι H' (whlL (evT Γ ma) (exB Γ mb) m ρ μ) D, fun σ' H' w => ⟨m, Nat.lt_succ_self _, w⟩, ι2, ρ1, μ2, e1.ext x2, s2, PostF.loopB p2 fun ρ4 μ4 σ4 H4 ι4 x4 s4 e4 p4 => ⟨ι4, ρ4, μ4, e4, s4, p4⟩⟩
      | false =>
        rw [if_neg Bool.false_ne_true] at p2 ⊢
        exact PostF.nxt p2 s2 (e1.ext x2))
end
end T
namespace T
open PySem PySem.Spec PyProof.Rows L2
structure Cut (ι2 ι3 : List Addr) (n : Nat) : Prop where
  idx : ∀ (k : Nat) a, k < n → ι2[k]? = some a → ι3[k]? = some a
  sub : ∀ a ∈ ι3, a ∈ ι2
section
variable {G : Gx} {ι2 ι3 : List Addr} {H : Hp} {n : Nat}
theorem Cut.non (c : Cut ι2 ι3 n) {p : Addr} (h : G.non ι2 p) : G.non ι3 p := ⟨fun m => h.1 (c.sub p m), h.2⟩
theorem TupAt.cut (c : Cut ι2 ι3 n) {p : Addr} {vs : List V} (h : TupAt G ι2 H p vs) : TupAt G ι3 H p vs := ⟨h.1, h.2.elim (fun z => .inl ⟨z.1, c.non z.2⟩) .inr⟩
theorem LstAt.cut (c : Cut ι2 ι3 n) {p : Addr} {vs : List V} (h : LstAt G ι2 H p vs) : LstAt G ι3 H p vs := ⟨h.1, h.2.elim (fun z => .inl ⟨z.1, c.non z.2⟩) .inr⟩
mutual
theorem Rel.cut (c : Cut ι2 ι3 n) : ∀ (d : D) (v : V), Rel G ι2 H v d → below n d = true → Rel G ι3 H v d
  | .non, _, h, _ => h
  | .bl _, _, h, _ => h
  | .int _, _, h, _ => h
  | .str _, _, h, _ => h
  | .tup ds, _, h, b => by
    obtain ⟨p, vs, e1, h1, h2⟩ := h
    exact ⟨p, vs, e1, h1.cut c, Rels.cut c ds vs h2 b⟩
  | .lst ds, _, h, b => by
    obtain ⟨p, vs, e1, ⟨h0, h1, nn⟩, h2⟩ := h
    exact ⟨p, vs, e1, ⟨h0, h1, c.non nn⟩, Rels.cut c ds vs h2 b⟩
  | .fro ds, _, h, b => by
    obtain ⟨p, vs, e1, h1, h2⟩ := h
    exact ⟨p, vs, e1, h1.cut c, Rels.cut c ds vs h2 b⟩
  | .dic ks ds, _, h, b => by
    obtain ⟨p, vs, e1, h1, h2, h3⟩ := h
    exact ⟨p, vs, e1, ⟨h1.1, c.non h1.2⟩, Rels.cut c ds vs h2 b, h3⟩
  | .wdic ks ds, _, h, b => by
    obtain ⟨p, vs, e1, h1, h2, h3⟩ := h
    exact ⟨p, vs, e1, h1, Rels.cut c ds vs h2 b, h3⟩
  | .cell k, _, h, b => by
    obtain ⟨a, h1, h2⟩ := h
    exact ⟨a, c.idx k a (of_decide_eq_true b) h1, h2⟩
  | .ins C fs ds, _, h, b => by
    obtain ⟨p, dx, vs, e1, nn, h1, h2, h3⟩ := h
    exact ⟨p, dx, vs, e1, c.non nn, h1, Rels.cut c ds vs h2 b, h3⟩
  | .fn _, _, h, _ => h
  | .cls _, _, h, _ => h
  | .ty _, _, h, _ => h
theorem Rels.cut (c : Cut ι2 ι3 n) : ∀ (ds : List D) (vs : List V), Rels G ι2 H vs ds → belows n ds = true → Rels G ι3 H vs ds
  | [], [], h, _ => by simp
  | [], _ :: _, h, _ => by simp [Rels] at h
  | _ :: _, [], h, _ => by simp [Rels] at h
  | d :: ds, v :: vs, h, b => by
    have b : (below n d && belows n ds) = true := b
    rw [Bool.and_eq_true] at b
    rw [rels_cons] at h
    rw [rels_cons]
    exact ⟨Rel.cut c d v h.1 b.1, Rels.cut c ds vs h.2 b.2⟩
end
theorem CellAt.cut (c : Cut ι2 ι3 n) {a : Addr} {x : Cell} (h : CellAt G ι2 H a x) (b : belowC n x = true) : CellAt G ι3 H a x := by
  cases x with
  | lst ds =>
    obtain ⟨vs, h, r, z⟩ := h
    exact ⟨vs, h, Rels.cut c _ _ r b, z⟩
  | ins C fs ds =>
    obtain ⟨dx, vs, h, r, z⟩ := h
    exact ⟨dx, vs, h, Rels.cut c _ _ r b, z⟩
  | dic ks ds =>
    obtain ⟨vs, h, r, z⟩ := h
    exact ⟨vs, h, Rels.cut c _ _ r b, z⟩
end
section
variable {G : Gx} {E : XK} {ι ι2 : List Addr} {H H2 : Hp} {μ μ2 : Sto} {n : Nat} {Q : VK} {v : V} {d : D}
theorem take_get {α : Type} {l : List α} {n k : Nat} {x : α} (h : (l.take n)[k]? = some x) : k < n ∧ l[k]? = some x := by
  rw [List.getElem?_take] at h
  split at h
  · rename_i hk
    exact ⟨hk, h⟩
  · cases h
theorem SOk.cut (S0 : SOk G ι H μ) (hn : μ.length = n) (e : Ext ι H ι2 H2) (S : SOk G ι2 H2 μ2) (b : (μ2.take n).all (belowC n) = true) : Cut ι2 ι n ∧ SOk G ι H2 (μ2.take n) ∧ Ext ι H ι H2 := by
  obtain ⟨new, rfl, hnew⟩ := id e.pre
  have hl : ι.length = n := S0.len.trans hn
  have c : Cut (ι ++ new) ι n := ⟨fun k a hk q => by
    rw [List.getElem?_append_left (by omega)] at q
    exact q, fun a m => List.mem_append_left _ m⟩
  refine ⟨c, ⟨?_, S0.nd, fun a m => ⟨(S.zl a m).1, fun q => (S.zl a m).2 (List.mem_append_left _ q)⟩, fun k x hk => ?_⟩, ⟨⟨[], by simp, by simp⟩, fun a o h q => e.keep a o h q, e.live⟩⟩
  · have h2 := S.len
    rw [List.length_append] at h2
    rw [List.length_take]
    omega
  · obtain ⟨h1, h2⟩ := take_get hk
    obtain ⟨a, h3, h4⟩ := S.at_ k x h2
    exact ⟨a, c.idx k a h1 h3, h4.cut c (List.all_eq_true.mp b x (List.mem_of_getElem? hk))⟩
theorem leave_ok {keep : Bool} (S0 : SOk G ι H μ) (hn : μ.length = n) (e : Ext ι H ι2 H2) (S : SOk G ι2 H2 μ2) (r : Rel G ι2 H2 v d) (p : Post G E ι H (leave keep n d μ2) Q) : Q v H2 := by
  unfold leave at p
  split at p
  · exact p v H2 ι2 e S r
  · split at p
    · rename_i hb
      obtain ⟨c, S3, e3⟩ := S0.cut hn e S hb
      obtain ⟨new, rfl, hnew⟩ := id e.pre
      have hl : ι.length = n := S0.len.trans hn
      have far : ∀ k a, ¬ k < n → (ι ++ new)[k]? = some a → a ∉ ι ∧ H a = none := fun k a hk q => by
        have q' : new[k - n]? = some a := by
          rw [List.getElem?_append_right (by omega), hl] at q
          exact q
        have hm : a ∈ new := List.mem_of_getElem? q'
        refine ⟨fun m => ?_, hnew a hm⟩
        exact (List.nodup_append.mp S.nd).2.2 a m a hm rfl
      split at p
      · rename_i k
        split at p
        · exact p.elim
        · rename_i hk
          cases hx : μ2[k]? with
          | none =>
            rw [hx] at p
            exact p.elim
          | some x =>
            rw [hx] at p
            cases hbx : belowC n x with
            | false =>
              simp only [hbx] at p
              exact p.elim
            | true =>
              simp only [hbx, if_true] at p
              obtain ⟨a, ha, rfl⟩ := r
              obtain ⟨b, hb2, cx⟩ := S.at_ k x hx
              rw [ha] at hb2
              cases hb2
              obtain ⟨na, fa⟩ := far k a hk ha
              have c2 : Cut (ι ++ new) (ι ++ [a]) n := ⟨fun j y hj q => by
                rw [List.getElem?_append_left (by omega)] at q ⊢
                exact q, fun y m => by
                  rcases List.mem_append.mp m with m | m
                  · exact List.mem_append_left _ m
                  · have e1 : y = a := by simpa using m
                    rw [e1]
                    exact List.mem_of_getElem? ha⟩
              have hlen : (μ2.take n).length = n := by rw [← S3.len, hl]
              refine p (.ref a) H2 (ι ++ [a]) ⟨⟨[a], rfl, fun y m => by
                have e1 : y = a := by simpa using m
                rw [e1]
                exact fa⟩, fun y o h q => e.keep y o h q, e.live⟩ ⟨by simp [hlen, hl], ?_, fun y m => ⟨(S.zl y m).1, fun q => (S.zl y m).2 (c2.sub y q)⟩, fun j y hj => ?_⟩ ⟨a, ?_, rfl⟩
              · rw [List.nodup_append]
                refine ⟨S0.nd, by simp, fun y m z hz => ?_⟩
                have e1 : z = a := by simpa using hz
                rw [e1]
                exact fun q => na (q ▸ m)
              · by_cases hjn : j < n
                · rw [List.getElem?_append_left (by rw [hlen]; exact hjn)] at hj
                  obtain ⟨h1, h2⟩ := take_get hj
                  obtain ⟨b, h3, h4⟩ := S.at_ j y h2
                  exact ⟨b, c2.idx j b h1 h3, h4.cut c2 (List.all_eq_true.mp hb y (List.mem_of_getElem? hj))⟩
                · rw [List.getElem?_append_right (by rw [hlen]; omega), hlen] at hj
                  have hj0 : j = n := by
                    have := (List.getElem?_eq_some_iff.mp hj).1
                    simp at this
                    omega
                  subst hj0
                  simp at hj
                  subst hj
                  exact ⟨a, by rw [← hl]; simp, cx.cut c2 hbx⟩
              · rw [← hl]
                simp
      · cases ht : thaw n μ2 d with
        | none =>
          simp only [ht] at p
          exact p v H2 _ e S r
        | some d' =>
          simp only [ht] at p
          refine p v H2 ι e3 S3 ?_
          have one : ∀ (d d' : D) (v : V), Rel G (ι ++ new) H2 v d → thaw1 n μ2 d = some d' → Rel G ι H2 v d' := by
            intro d d' v r ht
            cases d with
            | cell k =>
              have ht : (if k < n then some (.cell k) else (match μ2[k]? with
                | some (.lst ds) => if belows n ds then some (.lst ds) else none
                | some (.ins C fs ds) => if belows n ds then some (.ins C fs ds) else none
                | some (.dic ks ds) => if belows n ds then some (.dic ks ds) else none
                | none => none)) = some d' := ht
              obtain ⟨a, ha, rfl⟩ := r
              split at ht
              · rename_i hk
                cases ht
                exact ⟨a, c.idx k a hk ha, rfl⟩
              · rename_i hk
                obtain ⟨na, fa⟩ := far k a hk ha
                have nn : G.non ι a := ⟨na, fun m => (S.zl a m).2 (List.mem_of_getElem? ha)⟩
                cases hx : μ2[k]? with
                | none =>
                  rw [hx] at ht
                  cases ht
                | some x =>
                  rw [hx] at ht
                  obtain ⟨b, hb2, cx⟩ := S.at_ k x hx
                  rw [ha] at hb2
                  cases hb2
                  cases x with
                  | lst ds =>
                    simp only at ht
                    split at ht
                    · rename_i hbl
                      cases ht
                      obtain ⟨vs, h1, h2, h3⟩ := cx
                      exact ⟨a, vs, rfl, ⟨h3, h1, nn⟩, Rels.cut c _ _ h2 hbl⟩
                    · cases ht
                  | ins C fs ds =>
                    simp only at ht
                    split at ht
                    · rename_i hbl
                      cases ht
                      obtain ⟨dx, vs, h1, h2, h3⟩ := cx
                      exact ⟨a, dx, vs, rfl, nn, h1, Rels.cut c _ _ h2 hbl, h3⟩
                    · cases ht
                  | dic ks ds =>
                    simp only at ht
                    split at ht
                    · rename_i hbl
                      cases ht
                      obtain ⟨vs, h1, h2, h3⟩ := cx
                      exact ⟨a, vs, rfl, ⟨.inl h1, nn⟩, Rels.cut c _ _ h2 hbl, h3⟩
                    · cases ht
            | _ =>
              unfold thaw1 at ht
              simp only at ht
              split at ht
              · rename_i hbl
                cases ht
                exact Rel.cut c _ _ r hbl
              · cases ht
          have many : ∀ (ds ds' : List D) (vs : List V), Rels G (ι ++ new) H2 vs ds → thaws n μ2 ds = some ds' → Rels G ι H2 vs ds' := by
            intro ds
            induction ds with
            | nil =>
              intro ds' vs r ht
              cases ht
              cases vs with
              | nil => simp
              | cons _ _ => simp [Rels] at r
            | cons x ds ih =>
              intro ds' vs r ht
              obtain ⟨u, ws, rfl, r1, r2⟩ := rels_cons_iff.mp r
              simp only [thaws, Option.bind_eq_some_iff, Option.map_eq_some_iff] at ht
              obtain ⟨y, e1, ys, e2, rfl⟩ := ht
              rw [rels_cons]
              exact ⟨one x y u r1 e1, ih ys ws r2 e2⟩
          have wide : (∀ ds, d ≠ .tup ds) → thaw n μ2 d = thaw1 n μ2 d := fun h => by
            cases d with
            | tup ds => exact absurd rfl (h ds)
            | _ => rfl
          cases d with
          | tup ds =>
            have ht : (if below n (D.tup ds) = true then some (D.tup ds) else Option.map D.tup (thaws n μ2 ds)) = some d' := ht
            by_cases hbl : below n (D.tup ds) = true
            · rw [if_pos hbl] at ht
              cases ht
              exact Rel.cut c _ _ r hbl
            · rw [if_neg hbl] at ht
              simp only [Option.map_eq_some_iff] at ht
              obtain ⟨ys, e1, rfl⟩ := ht
              obtain ⟨q, vs, e2, h1, h2⟩ := r
              exact ⟨q, vs, e2, h1.cut c, many ds ys vs h2 e1⟩
          | _ => exact one _ _ _ r (by rw [← wide (fun ds e => by cases e)]; exact ht)
    · exact p v H2 ι2 e S r
theorem leaveX_ok {α : Type} {Rl : List Addr → Hp → V → D → Prop} {C : Nat} {ds : List D} {od : Option Addr} (S0 : SOk G ι H μ) (hn : μ.length = n) (e : Ext ι H ι2 H2) (S : SOk G ι2 H2 μ2) (r : XAt G ι2 H2 C ds od) (p : PostX G Rl E ι H (leaveX n C ds μ2) Q) : E (.ref (G.cad C)) od H2 := by
  unfold leaveX at p
  split at p
  · exact p od H2 ι2 e S r
  · split at p
    · rename_i hb
      rw [Bool.and_eq_true] at hb
      obtain ⟨c, S3, e3⟩ := S0.cut hn e S hb.1
      refine p od H2 ι e3 S3 ?_
      rcases r with r | ⟨a, vs, h1, h2, h3, h4, h5⟩
      · exact .inl r
      · exact .inr ⟨a, vs, h1, c.non h2, h3, Rels.cut c _ _ h4 hb.2, h5⟩
    · exact p.elim
end
section
variable {CX : CXT} {G : Gx} {Γ : Tb} {E : XK} {X : Cx} {a b : Expr} {ma mb : Ee} {pos : Pos} {es : List Expr} {ms : List Ee}
theorem pm_mk {k n C : Nat} {f : Addr} {fd : FuncData} {ps : List Str} {x : Str} {pp : Pos} (M : Mk X.K (G.cad C) f) (F : FnG X.prog X.w X.K X.mg X.base CX k f fd ps (spOf G (n + 1) (Γ.ini C))) (gd : X.A.guards = some []) (hr : Room (k + 1) X.A) (hg : Gl X x) (hm : X.mg x = some (.ref (G.cad C))) (hb : Binds X.K fd ps []) (hx : Passes CX X E)
    (hdb : (x == ("__debug__" : Str)) = false) (hs : (a :: es).all (fun e => !isStar e) = true) (hn : (a :: es).length = n) (hmn : (a :: es).length = ms.length) (ha : PAm G E Γ X (a :: es) ms) : PEm G E Γ X (.Call (.Name x pp) (a :: es) [] pos) (.mk C ms) := by
  rw [List.all_cons, Bool.and_eq_true] at hs
  refine (g_make M F gd hr hg hm hb hx ha hdb (star_cons (by simpa using hs.1)) (star_plain hs.2)).weak ?_
  rintro σ H Q ⟨ι, ρ, μ, e, s, p⟩
  refine ⟨ι, ρ, μ, e, s, PostX.bind p fun ds μ1 vs H1 ι1 ev x1 s1 r1 p1 => ?_⟩
  intro x dx hx1 hdx hne
  have e1 : Ext ι1 H1 ι1 (upd H1 dx (.own x)) := Ext.new hdx
  have hx2 : upd H1 dx (.own x) x = none := by
    rw [upd_ne (Ne.symm hne)]
    exact hx1
  have e2 : Ext ι1 (upd H1 dx (.own x)) (ι1 ++ [x]) (upd (upd H1 dx (.own x)) x (.ins (G.cad C) dx [])) := Ext.cell hx2
  have S2 : SOk G (ι1 ++ [x]) (upd (upd H1 dx (.own x)) x (.ins (G.cad C) dx [])) (μ1 ++ [.ins C [] []]) := (s1.new hdx).push hx2 ⟨dx, [], upd_same, by simp, rfl⟩
  have hix : (ι1 ++ [x])[μ1.length]? = some x := by
    rw [← s1.len]
    simp
  refine ⟨?_, G.z, ι1 ++ [x], .cell μ1.length :: ds, μ1 ++ [.ins C [] []], ?_, S2, ?_⟩
  · rw [List.length_cons, r1.len, ← hn, hmn]
    exact congrArg Nat.succ (evEs_len ms ρ μ ds μ1 ev)
  · rw [rels_cons]
    exact ⟨⟨x, hix, rfl⟩, Rels.ext (e1.trans e2) _ _ r1⟩
  · have p1 : Post G E ι1 H1 (match Γ.ini C (.cell μ1.length :: ds) (μ1 ++ [.ins C [] []]) with
      | .ok d μ2 => (match d with
        | .non => leave false μ1.length (.cell μ1.length) μ2
        | _ => .bad)
      | .exc X ds μ2 => leaveX μ1.length X ds μ2
      | .bad => .bad) Q := p1
    show Post G E _ _ (Γ.ini C (.cell μ1.length :: ds) (μ1 ++ [.ins C [] []])) _
    cases hi : Γ.ini C (.cell μ1.length :: ds) (μ1 ++ [.ins C [] []]) with
    | ok d μ2 =>
      rw [hi] at p1
      intro v H2 ι2 x2 s2 r2
      cases d with
      | non => exact ⟨r2, leave_ok s1 rfl ((e1.trans e2).trans x2) s2 (show Rel G ι2 H2 (.ref x) (.cell μ1.length) from ⟨x, x2.idx hix, rfl⟩) p1⟩
      | _ => exact p1.elim
    | exc X ds μ2 =>
      rw [hi] at p1
      intro od H2 ι2 x2 s2 r2
      exact leaveX_ok (α := Unit) s1 rfl ((e1.trans e2).trans x2) s2 r2 p1
    | bad =>
      rw [hi] at p1
      exact p1.elim
theorem look_fld {ι : List Addr} {H : Hp} {f : Str} {d : D} : ∀ {fs : List Str} {ds : List D} {vs : List V}, fs.length = ds.length → Rels G ι H vs ds → (fs.zip ds).lookup f = some d → ∃ v, (fs.zip vs).lookup f = some v ∧ Rel G ι H v d
  | [], _, _, _, _, h => by simp at h
  | _ :: _, [], _, h, _, _ => by simp at h
  | g :: fs, x :: ds, vs, hl, r, h => by
    obtain ⟨v, vr, rfl, r1, r2⟩ := rels_cons_iff.mp r
    rw [List.zip_cons_cons, List.lookup_cons] at h
    rw [List.zip_cons_cons, List.lookup_cons]
    cases hb : f == g with
    | true =>
      rw [hb] at h
      cases h
      exact ⟨v, rfl, r1⟩
    | false =>
      rw [hb] at h
      exact look_fld (by simpa using hl) r2 h
theorem fld_ok {ι : List Addr} {H : Hp} {μ : Sto} {x : D} {v : V} {f : Str} {Q : VK} (hK : X.K = G.K) (hat : ∀ C f, Γ.at_ C f = true → Cls X.K (G.cad C) ∧ NoAttr X.K (G.cad C) f) (s1 : SOk G ι H μ) (r1 : Rel G ι H v x) (p1 : Post G E ι H (fldD Γ.at_ x f μ) Q) :
    ∃ a C dx fs u, v = .ref a ∧ H a = some (.ins C dx fs) ∧ Cls X.K C ∧ NoAttr X.K C f ∧ fs.lookup f = some u ∧ Q u H := by
  cases x with
  | ins C fs ds =>
    obtain ⟨hc, p1⟩ := ite_ok (show Post G E ι H (if Γ.at_ C f = true then (match (fs.zip ds).lookup f with
      | some d => .ok d μ
      | none => .bad) else .bad) Q from p1)
    obtain ⟨p, dx, vs, rfl, nn, h1, h2, h3⟩ := r1
    cases hl : (fs.zip ds).lookup f with
    | none =>
      rw [hl] at p1
      exact p1.elim
    | some d =>
      rw [hl] at p1
      obtain ⟨u, h4, h5⟩ := look_fld h3 h2 hl
      exact ⟨p, _, dx, _, u, rfl, h1, (hat C f hc).1, (hat C f hc).2, h4, Post.val p1 s1 h5⟩
  | cell k =>
    obtain ⟨a, ha, rfl⟩ := r1
    cases hk : μ[k]? with
    | none =>
      simp only [fldD, hk] at p1
      exact p1.elim
    | some c =>
      cases c with
      | ins C fs ds =>
        simp only [fldD, hk] at p1
        obtain ⟨hc, p1⟩ := ite_ok p1
        obtain ⟨b, hb, dx, vs, h1, h2, h3⟩ := s1.at_ k _ hk
        rw [ha] at hb
        cases hb
        cases hl : (fs.zip ds).lookup f with
        | none =>
          rw [hl] at p1
          exact p1.elim
        | some d =>
          rw [hl] at p1
          obtain ⟨u, h4, h5⟩ := look_fld h3 h2 hl
          exact ⟨a, _, dx, _, u, rfl, h1, (hat C f hc).1, (hat C f hc).2, h4, Post.val p1 s1 h5⟩
      | lst _ =>
        simp only [fldD, hk] at p1
        exact p1.elim
      | dic _ _ =>
        simp only [fldD, hk] at p1
        exact p1.elim
  | _ => exact p1.elim
theorem pm_fld {f : Str} (hK : X.K = G.K) (hat : ∀ C f, Γ.at_ C f = true → Cls X.K (G.cad C) ∧ NoAttr X.K (G.cad C) f) (hcn : isCallN a = false) (ha : PEm G E Γ X a ma) : PEm G E Γ X (.Attribute a f pos) (.fld ma f) :=
  (pe_fld ha (base_plain hcn)).weak (by
    rintro σ H Q ⟨ι, ρ, μ, e, s, p⟩
    refine ⟨ι, ρ, μ, e, s, PostX.bind (show Post G E ι H ((evE Γ ma ρ μ).bind fun x μ1 => fldD Γ.at_ x f μ1) Q from p) fun x μ1 v H1 ι1 _ x1 s1 r1 p1 => ?_⟩
    exact fld_ok (Γ := Γ) (X := X) hK hat s1 r1 p1)
theorem putL_ok {ι : List Addr} {H : Hp} {f : Str} {d : D} {v : V} (rv : Rel G ι H v d) : ∀ {fs : List Str} {ds : List D} {vs : List V}, fs.length = ds.length → Rels G ι H vs ds →
    putF f v (fs.zip vs) = (putL f d fs ds).1.zip (putL f v fs vs).2 ∧ Rels G ι H (putL f v fs vs).2 (putL f d fs ds).2 ∧ (putL f d fs ds).1.length = (putL f d fs ds).2.length
  | [], [], vs, _, r => by
    rw [rels_nil_iff] at r
    subst r
    exact ⟨rfl, by simp [putL, rv], rfl⟩
  | [], _ :: _, _, h, _ => by simp at h
  | _ :: _, [], _, h, _ => by simp at h
  | g :: fs, x :: ds, vs, hl, r => by
    obtain ⟨w, vr, rfl, r1, r2⟩ := rels_cons_iff.mp r
    obtain ⟨i1, i2, i3⟩ := putL_ok rv (by simpa using hl) r2
    by_cases hg : g = f
    · have e1 : putL f d (g :: fs) (x :: ds) = (g :: fs, d :: ds) := if_pos hg
      have e2 : putL f v (g :: fs) (w :: vr) = (g :: fs, v :: vr) := if_pos hg
      rw [e1, e2]
      refine ⟨?_, by rw [rels_cons]; exact ⟨rv, r2⟩, by simpa using hl⟩
      rw [List.zip_cons_cons, List.zip_cons_cons]
      exact if_pos hg
    · have e1 : putL f d (g :: fs) (x :: ds) = (g :: (putL f d fs ds).1, x :: (putL f d fs ds).2) := if_neg hg
      have e2 : putL f v (g :: fs) (w :: vr) = (g :: (putL f v fs vr).1, w :: (putL f v fs vr).2) := if_neg hg
      rw [e1, e2]
      refine ⟨?_, by rw [rels_cons]; exact ⟨r1, i2⟩, by simp [i3]⟩
      rw [List.zip_cons_cons, List.zip_cons_cons, ← i1]
      exact if_neg hg
theorem sm_fld {f : Str} {p2 : Pos} (hK : X.K = G.K) (hat : ∀ C f, Γ.at_ C f = true → Cls X.K (G.cad C) ∧ NoAttr X.K (G.cad C) f) (hs : isComp b = false) (ha : PEm G E Γ X a ma) (hb : PEm G E Γ X b mb) : PSm G E Γ X (.Assign [.Attribute a f p2] b pos) (.fld ma f mb) :=
  (ps_fld ha hb (swap_plain hs)).weak (by
    rintro D σ H ⟨ι, ρ, μ, e, s, p⟩
    have p : PostF G E ι H ((evE Γ mb ρ μ).thenF fun d μ1 => (evE Γ ma ρ μ1).thenF fun o μ2 => (match setFldD Γ.at_ o f d μ2 with
      | some μ3 => .nx ρ μ3
      | none => .bad)) D := p
    refine ⟨ι, ρ, μ, e, s, PostF.bindR p fun d μ1 v H1 ι1 _ x1 s1 r1 p1 => ?_⟩
    refine ⟨ι1, ρ, μ1, e.ext x1, s1, PostF.bindR p1 fun o μ2 w H2 ι2 _ x2 s2 r2 p2 => ?_⟩
    cases o with
    | cell k =>
      obtain ⟨q, hq, rfl⟩ := r2
      cases hk : μ2[k]? with
      | none =>
        simp only [setFldD, hk] at p2
        exact p2.elim
      | some c =>
        cases c with
        | ins C fs ds =>
          cases hc : (Γ.at_ C f && decide (fs.length < 1000)) with
          | false =>
            simp only [setFldD, hk, hc] at p2
            exact p2.elim
          | true =>
            simp only [setFldD, hk, hc, if_true] at p2
            rw [Bool.and_eq_true] at hc
            obtain ⟨b, hb, dx, vs, h1, h2, h3⟩ := s2.at_ k _ hk
            rw [hq] at hb
            cases hb
            obtain ⟨i1, i2, i3⟩ := putL_ok (Rel.ext x2 _ _ r1) h3 h2
            have hlen : (fs.zip vs).length < 1000 := by
              rw [List.length_zip]
              have := of_decide_eq_true hc.2
              omega
            refine ⟨q, _, dx, _, rfl, h1, (hat C f hc.1).1, (hat C f hc.1).2, hlen, ?_⟩
            rw [i1]
            have x3 : Ext ι2 H2 ι2 (upd H2 q (.ins (G.cad C) dx ((putL f d fs ds).1.zip (putL f v fs vs).2))) := s2.ext_write hq
            exact p2 σ _ ι2 x3 (s2.write hq ⟨dx, _, upd_same, Rels.ext x3 _ _ i2, i3⟩) (e.ext ((x1.trans x2).trans x3))
        | lst _ =>
          simp only [setFldD, hk] at p2
          exact p2.elim
        | dic _ _ =>
          simp only [setFldD, hk] at p2
          exact p2.elim
    | _ => exact p2.elim)
end
end T
namespace T
open PySem PySem.Spec PyProof.Rows L2
section
variable {CX : CXT} {G : Gx} {Γ : Tb} {cc : Cc} {E : XK} {lv : Nat} {X : Cx} {sc : Scope} {stb : Str → Bool} {a b c : Expr} {ma mb mc : Ee} {pos apos : Pos} {es : List Expr} {ms : List Ee} {m : Str}
theorem ins_of {ι : List Addr} {H : Hp} {μ : Sto} {v : V} {x : D} {C : Nat} {fs : List Str} (S : SOk G ι H μ) (r : Rel G ι H v x) (h : insOf μ x = some (C, fs)) : ∃ p dx vs, v = .ref p ∧ H p = some (.ins (G.cad C) dx (fs.zip vs)) ∧ fs.length = vs.length := by
  cases x with
  | ins C' fs' ds =>
    cases h
    obtain ⟨p, dx, vs, e, _, h1, h2, h3⟩ := r
    exact ⟨p, dx, vs, e, h1, h3.trans h2.len.symm⟩
  | cell k =>
    obtain ⟨p, hp, e⟩ := r
    unfold insOf at h
    cases hk : μ[k]? with
    | none => simp [hk] at h
    | some c =>
      cases c with
      | ins C' fs' ds =>
        simp only [hk, Option.some.injEq, Prod.mk.injEq] at h
        obtain ⟨rfl, rfl⟩ := h
        obtain ⟨b, hb, dx, vs, h1, h2, h3⟩ := S.at_ k _ hk
        rw [hp] at hb
        cases hb
        exact ⟨p, dx, vs, e, h1, h3.trans h2.len.symm⟩
      | lst _ => simp [hk] at h
      | dic _ _ => simp [hk] at h
  | _ => cases h
theorem zip_none {α : Type} {m : Str} : ∀ {fs : List Str} {vs : List α}, fs.contains m = false → (fs.zip vs).lookup m = none
  | [], _, _ => rfl
  | f :: fs, [], _ => rfl
  | f :: fs, v :: vs, h => by
    rw [List.contains_cons, Bool.or_eq_false_iff] at h
    rw [List.zip_cons_cons, List.lookup_cons, h.1]
    exact zip_none h.2
theorem meth_tree {o : Expr} {args : List Expr} {env : PySem.Env} (hb : attributeBase o m env (eval o env) = eval o env) (hs : args.all (fun e => !isStar e) = true) (hlen : args.length < 30) (hline : (apos.endLine == pos.line) = true) :
    eval (.Call (.Attribute o m apos) args [] pos) env = (do
      let ov ← eval o env
      standAt apos.atName
      let (f, first) ← holding [ov] (getMethod ov m (do return (← importBound o env).getD true))
      callWith pos f first (backTo pos (starEach args env)) (backToKw pos (keywordEach [] env))) := by
  have h1 : (backTo pos (starEach args env)).all (fun x => !x.1) = true := by
    rw [List.all_eq_true]
    intro x hx
    have := star_plain (env := env) (pos := pos) hs
    rw [List.any_eq_false] at this
    simpa using this x hx
  have hform : methodCallForm (args.length + ([] : List Keyword).length) (backTo pos (starEach args env)) (backToKw pos (keywordEach [] env)) = true := by
    unfold methodCallForm
    rw [h1]
    have h2 : (backToKw pos (keywordEach [] env)).all (fun x => x.1.isSome) = true := rfl
    rw [h2]
    show (true && true && decide (args.length + 0 + 0 < 30)) = true
    simpa using hlen
  have hpos : methodCallPos true o env apos pos = pure pos := by
    unfold methodCallPos
    simp [hline]
  rw [arm_eval_Call, hb]
  unfold methodCall
  rw [hform]
  simp only [hpos]
  rfl
theorem meth_read {t : TA} (hmt : ∀ C m F, Γ.mt C m = some F → MtOk CX G X lv C m F) (hr : Room lv X.A)
    (ht : ∀ σ H Q, TAv G E (evEs Γ ms) σ H Q → t σ H Q) : ∀ σ H Q, TEv G E (evE Γ (.meth ma m ms)) σ H Q → tGo X CX E m (TEv G E (evE Γ ma)) t σ H Q := by
  rintro σ H Q ⟨ι, ρ, μ, e, s, p⟩
  have p : Post G E ι H ((evE Γ ma ρ μ).bind fun x μ1 => (match methOf Γ x m μ1 with
    | some f => (evEs Γ ms ρ μ1).bind fun ds μ2 => f (x :: ds) μ2
    | none => .bad)) Q := p
  refine ⟨ι, ρ, μ, e, s, Post.bind p fun x μ1 v H1 ι1 _ x1 s1 r1 p1 => ?_⟩
  cases hm : methOf Γ x m μ1 with
  | none =>
    simp only [hm] at p1
    exact p1.elim
  | some F =>
    simp only [hm] at p1
    unfold methOf at hm
    obtain ⟨⟨C, fs⟩, hi, hf⟩ := Option.bind_eq_some_iff.mp hm
    have hf : (if fs.contains m = true then none else Γ.mt C m) = some F := hf
    cases hc : fs.contains m with
    | true =>
      rw [if_pos hc] at hf
      cases hf
    | false =>
      rw [hc, if_neg Bool.false_ne_true] at hf
      obtain ⟨pa, dx, vs, rfl, h1, _⟩ := ins_of s1 r1 hi
      obtain ⟨cl, n, f, fd, ps, k, hM, hb, hF, hk, har⟩ := hmt C m F hf
      refine ⟨pa, G.cad C, dx, fs.zip vs, spOf G n F, rfl, h1, ⟨cl, f, fd, ps, k, hM, hb, hF, hr.mono hk⟩, zip_none hc, ht _ _ _ ⟨ι1, ρ, μ1, e.ext x1, s1, PostX.bind p1 fun ds μ2 vs2 H2 ι2 _ x2 s2 r2 p2 => ?_⟩⟩
      have rr : Rels G ι2 H2 (V.ref pa :: vs2) (x :: ds) := by
        rw [rels_cons]
        exact ⟨Rel.ext x2 _ _ r1, r2⟩
      refine call_post ?_ rr s2 p2
      rw [rr.len]
      by_cases hl : (x :: ds).length = n
      · exact hl
      · rw [har _ _ hl] at p2
        exact p2.elim
theorem pm_meth (hmt : ∀ C m F, Γ.mt C m = some F → MtOk CX G X lv C m F) (hr : Room lv X.A) (gd : X.A.guards = some []) (hx : Passes CX X E) (hs : (b :: es).all (fun e => !isStar e) = true) (ha : PEm G E Γ X a ma) (hb : PAm G E Γ X (b :: es) ms) (hcn : isCallN a = false) (hlen : (b :: es).length < 30) (hline : (apos.endLine == pos.line) = true) :
    PEm G E Γ X (.Call (.Attribute a m apos) (b :: es) [] pos) (.meth ma m ms) := by
  have hs' := hs
  rw [List.all_cons, Bool.and_eq_true] at hs
  exact (g_meth gd ha hx hb (star_cons (by simpa using hs.1)) (star_plain hs.2) (meth_tree (base_plain hcn) hs' hlen hline)).weak (meth_read hmt hr fun _ _ _ h => h)
theorem pm_meth0 (hmt : ∀ C m F, Γ.mt C m = some F → MtOk CX G X lv C m F) (hr : Room lv X.A) (gd : X.A.guards = some []) (hx : Passes CX X E) (ha : PEm G E Γ X a ma) (hcn : isCallN a = false) (hline : (apos.endLine == pos.line) = true) :
    PEm G E Γ X (.Call (.Attribute a m apos) [] [] pos) (.meth ma m []) := by
  refine (g_meth0 gd ha hx (meth_tree (base_plain hcn) rfl (by show 0 < 30; decide) hline)).weak (meth_read hmt hr fun σ H Q h => ?_)
  obtain ⟨ι, ρ, μ, e, s, q⟩ := h
  exact q [] H ι (.refl _ _) s (by simp)
theorem pm_prop {f : Str} (hpr : ∀ C f F, Γ.pr C f = some F → PrOk CX G X lv C f F) (hr : Room lv X.A) (gd : X.A.guards = some []) (gd1 : X.A.in1.guards = some []) (hx : Passes CX X.nox E) (ha : PEm G E Γ X a ma) (hcn : isCallN a = false) : PEm G E Γ X (.Attribute a f pos) (.prop ma f) := by
  refine (g_prop gd gd1 ha hx (base_plain hcn)).weak ?_
  rintro σ H Q ⟨ι, ρ, μ, e, s, p⟩
  have p : Post G E ι H ((evE Γ ma ρ μ).bind fun x μ1 => (match propOf Γ x f μ1 with
    | some g => g [x] μ1
    | none => .bad)) Q := p
  refine ⟨ι, ρ, μ, e, s, Post.bind p fun x μ1 v H1 ι1 _ x1 s1 r1 p1 => ?_⟩
  cases hm : propOf Γ x f μ1 with
  | none =>
    simp only [hm] at p1
    exact p1.elim
  | some F =>
    simp only [hm] at p1
    unfold propOf at hm
    obtain ⟨⟨C, fs⟩, hi, hf⟩ := Option.bind_eq_some_iff.mp hm
    obtain ⟨pa, dx, vs, rfl, h1, _⟩ := ins_of s1 r1 hi
    obtain ⟨cl, p, g, fd, ps, k, hM, hb, hF, hk⟩ := hpr C f F hf
    refine ⟨pa, G.cad C, dx, fs.zip vs, spOf G 1 F, rfl, h1, ⟨cl, p, g, fd, ps, k, hM, hb, hF, hr.mono hk⟩, ?_⟩
    exact call_post rfl (by simp [r1]) s1 p1
theorem pm_isi {x : Str} {pp : Pos} (hK : X.K = G.K) (hisc : ∀ A C b, Γ.isc A C = some b → InsX X.K (G.cad A) ∧ PySem.W.kitOne X.K (.ref (G.cad A)) (.ref (G.cad C)) = some b ∧ Γ.gl (500 + C) = .cls C)
    (hisb : ∀ C, Γ.isb C = true → (∀ t ∈ tyK, PySem.W.kitOne X.K (.type t) (.ref (G.cad C)) = some false) ∧ Γ.gl (500 + C) = .cls C) {C : Nat}
    (hg : Gl X x) (hm : X.mg x = none) (hv : bootBuiltins x = some (.builtin "isinstance")) (hn : x ≠ "__name__") (hdb : (x == ("__debug__" : Str)) = false) (hs : isStar a = false) (hs2 : isStar b = false) (ha : PEm G E Γ X a ma) (hb : PEm G E Γ X b (.g (500 + C))) :
    PEm G E Γ X (.Call (.Name x pp) [a, b] [] pos) (.isi ma C) := by
  refine (pe_callB call_isi hg hm hv (am_cons hs ha (am_cons hs2 hb am_nil)) hn hdb (star_cons hs) (star_plain (by simp [hs2]))).weak ?_
  rintro σ H Q ⟨ι, ρ, μ, e, s, p⟩
  have p : Post G E ι H ((evE Γ ma ρ μ).bind fun x μ1 => (match isiOf Γ x C μ1 with
    | some b => .ok (.bl b) μ1
    | none => .bad)) Q := p
  refine ⟨ι, ρ, μ, e, s, ?_⟩
  have e1 : evEs Γ [ma, .g (500 + C)] ρ μ = (evE Γ ma ρ μ).bind fun x μ1 => R.ok [x, Γ.gl (500 + C)] μ1 := by
    show ((evE Γ ma ρ μ).bind fun d μ1 => (R.ok [Γ.gl (500 + C)] μ1).bind fun ds μ2 => R.ok (d :: ds) μ2) = _
    rfl
  rw [e1]
  cases h : evE Γ ma ρ μ with
  | exc C ds m =>
    rw [h] at p
    exact p
  | bad =>
    rw [h] at p
    exact p
  | ok x μ1 =>
    rw [h] at p
    intro vs H1 ι1 x1 s1 r1
    obtain ⟨v, w, rfl, rv, r2⟩ := r2_of r1
    have p1 : Post G E ι1 H1 (match isiOf Γ x C μ1 with
      | some b => .ok (.bl b) μ1
      | none => .bad) Q := PostX.mono x1 p
    rw [hK]
    cases hi : isiOf Γ x C μ1 with
    | none =>
      simp only [hi] at p1
      exact p1.elim
    | some bb =>
      simp only [hi] at p1
      unfold isiOf at hi
      cases ho : insOf μ1 x with
      | some q =>
        obtain ⟨A, fs⟩ := q
        simp only [ho] at hi
        obtain ⟨iX, hk, hc⟩ := hisc A C bb hi
        rw [hc] at r2
        have r2 : w = V.ref (G.cad C) := r2
        subst r2
        obtain ⟨pa, dx, ws, rfl, h1, _⟩ := ins_of s1 rv ho
        rw [hK] at iX hk
        exact ⟨_, _, .ref (G.cad A), .ref (G.cad C), bb, rfl, .own _, .base (.ins h1 iX.cl iX.ha iX.hn iX.htk iX.hm), hk, Post.val p1 s1 rfl⟩
      | none =>
        simp only [ho] at hi
        cases hB : Γ.isb C with
        | false => simp [hB] at hi
        | true =>
          simp only [hB, if_true, Option.map_eq_some_iff] at hi
          obtain ⟨t, ht, rfl⟩ := hi
          obtain ⟨hk, hc⟩ := hisb C hB
          rw [hc] at r2
          have r2 : w = V.ref (G.cad C) := r2
          subst r2
          obtain ⟨h1, h2⟩ := ty_X s1 rv ht
          rw [hK] at hk
          exact ⟨_, _, .type t, .ref (G.cad C), false, rfl, .own _, h1, hk t h2, Post.val p1 s1 rfl⟩
def gAtt (K : PySem.W.Frag) (to : TE) (f : Str) : TG := fun v σ H Q => to σ H fun x H1 => ∃ a C dx fs, x = .ref a ∧ H1 a = some (.ins C dx fs) ∧ Cls K C ∧ NoAttr K C f ∧ fs.length < 1000 ∧ Q σ (upd H1 a (.ins C dx (putF f v fs)))
theorem pg_att {o : Expr} {f : Str} {to : TE} (ho : PE X o to) : PG X (.Attribute o f pos) (gAtt X.K to f) := by
  refine ⟨fun pins s σ H v u Q I r h => ?_⟩
  have e : assign (.Attribute o f pos) X.env u = (do
      let ov ← holding [u] (eval o X.env)
      standAt pos.atName
      holding [u, ov] (setAttr ov f u)
      release [u, ov] []) := by rfl
  rw [e]
  refine wpAny_bind (wpAny_holding (thn (ho.run pins s σ H _ I h) fun ov s2 ⟨x, H2, I2, rx, a, C, dx, fs, ex, ea, c, n, l, q2⟩ => ?_))
  subst ex
  obtain rfl : ov = Value.ref a := rx
  exact wpAny_bind (wpAny_standAt (wpAny_bind (wpAny_holding (setattr_ok I2 ea c n l r fun s3 I3 => wpAny_release ⟨σ, _, I3, q2⟩))))
theorem pg_mat {o : Expr} {f : Str} {mo : Ee} (hK : X.K = G.K) (hat : ∀ C f, Γ.at_ C f = true → Cls X.K (G.cad C) ∧ NoAttr X.K (G.cad C) f) (ho : PEm G E Γ X o mo) : PGm G E Γ X (.Attribute o f pos) (.at mo f) :=
  (pg_att ho).weak (by
    rintro v σ H Q ⟨ι, ρ, μ, d, e, s, r, p⟩
    have p : PostF G E ι H ((evE Γ mo ρ μ).thenF fun o μ1 => (match setFldD Γ.at_ o f d μ1 with
      | some μ2 => .nx ρ μ2
      | none => .bad)) (eN Q) := p
    refine ⟨ι, ρ, μ, e, s, PostF.bindR p fun o μ2 w H2 ι2 _ x2 s2 r2 p2 => ?_⟩
    cases o with
    | cell k =>
      obtain ⟨q, hq, rfl⟩ := r2
      cases hk : μ2[k]? with
      | none =>
        simp only [setFldD, hk] at p2
        exact p2.elim
      | some c =>
        cases c with
        | ins C fs ds =>
          cases hc : (Γ.at_ C f && decide (fs.length < 1000)) with
          | false =>
            simp only [setFldD, hk, hc] at p2
            exact p2.elim
          | true =>
            simp only [setFldD, hk, hc, if_true] at p2
            rw [Bool.and_eq_true] at hc
            obtain ⟨b, hb, dx, vs, h1, h2, h3⟩ := s2.at_ k _ hk
            rw [hq] at hb
            cases hb
            obtain ⟨i1, i2, i3⟩ := putL_ok (Rel.ext x2 _ _ r) h3 h2
            have hlen : (fs.zip vs).length < 1000 := by
              rw [List.length_zip]
              have := of_decide_eq_true hc.2
              omega
            refine ⟨q, _, dx, _, rfl, h1, (hat C f hc.1).1, (hat C f hc.1).2, hlen, ?_⟩
            rw [i1]
            have x3 : Ext ι2 H2 ι2 (upd H2 q (.ins (G.cad C) dx ((putL f d fs ds).1.zip (putL f v fs vs).2))) := s2.ext_write hq
            exact p2 σ _ ι2 x3 (s2.write hq ⟨dx, _, upd_same, Rels.ext x3 _ _ i2, i3⟩) (e.ext (x2.trans x3))
        | lst _ =>
          simp only [setFldD, hk] at p2
          exact p2.elim
        | dic _ _ =>
          simp only [setFldD, hk] at p2
          exact p2.elim
    | _ => exact p2.elim)
abbrev PXm (G : Gx) (E : XK) (Γ : Tb) (X : Cx) (es : List Expr) (ms : List Ee) (ss : List Bool) : Prop := PA X es (TAv G E (evXs Γ ms ss))
theorem xm_nil : PXm G E Γ X [] [] [] := pa_nil.weak (by
    rintro σ H Q ⟨ι, ρ, μ, e, s, p⟩
    exact PostX.here (show PostX G (Rels G) E ι H (R.ok [] μ) Q from p) s (by simp))
theorem xm_cons {ss : List Bool} (hs : isStar a = false) (ha : PEm G E Γ X a ma) (hr : PXm G E Γ X es ms ss) : PXm G E Γ X (a :: es) (ma :: ms) (false :: ss) :=
  (pa_cons ha hr (star_cons hs)).weak (by
    rintro σ H Q ⟨ι, ρ, μ, e, s, p⟩
    have p : PostX G (Rels G) E ι H ((evE Γ ma ρ μ).bind fun d μ1 => (evXs Γ ms ss ρ μ1).bind fun ys μ2 => .ok ([d] ++ ys) μ2) Q := p
    refine ⟨ι, ρ, μ, e, s, PostX.bind p fun x μ1 v H1 ι1 _ x1 s1 r1 p1 => ?_⟩
    refine ⟨ι1, ρ, μ1, e.ext x1, s1, PostX.bind p1 fun ds μ2 vs H2 ι2 _ x2 s2 r2 p2 => ?_⟩
    exact PostX.here p2 s2 (by rw [List.singleton_append, rels_cons]; exact ⟨Rel.ext x2 _ _ r1, r2⟩))
theorem xm_star {ss : List Bool} {ps : Pos} (hK : X.K = G.K) (ha : PEm G E Γ X a ma) (hr : PXm G E Γ X es ms ss) : PXm G E Γ X (.Starred a ps :: es) (ma :: ms) (true :: ss) :=
  (StX.pa_star ha hr).weak (by
    rintro σ H Q ⟨ι, ρ, μ, e, s, p⟩
    have p : PostX G (Rels G) E ι H ((evE Γ ma ρ μ).bind fun d μ1 => (match seqOf μ1 d with
      | some xs => (evXs Γ ms ss ρ μ1).bind fun ys μ2 => .ok (xs ++ ys) μ2
      | none => .bad)) Q := p
    refine ⟨ι, ρ, μ, e, s, PostX.bind p fun x μ1 v H1 ι1 _ x1 s1 r1 p1 => ?_⟩
    cases h : seqOf μ1 x with
    | none =>
      simp only [h] at p1
      exact p1.elim
    | some xs =>
      simp only [h] at p1
      obtain ⟨q, vs, rfl, k1, k2, _⟩ := seq_ok s1 r1 h
      rw [hK]
      refine ⟨q, vs, rfl, k1.symm, ι1, ρ, μ1, e.ext x1, s1, PostX.bind p1 fun ds μ2 ws H2 ι2 _ x2 s2 r2 p2 => ?_⟩
      exact PostX.here p2 s2 (Rels.append (Rels.ext x2 _ _ k2) r2))
theorem pm_starT {ss : List Bool} {k : Nat} (h : PXm G E Γ X es ms ss) : PEm G E Γ X (.Tuple es k pos) (.star true ms ss) :=
  (pe_tup h).weak (by
    rintro σ H Q ⟨ι, ρ, μ, e, s, p⟩
    refine ⟨ι, ρ, μ, e, s, PostX.bind p fun ds μ1 vs H1 ι1 _ x1 s1 r1 p1 => ?_⟩
    obtain ⟨hf, p1⟩ := ite_ok p1
    have z := fits_iff.mp hf
    rw [← r1.len] at z
    exact ⟨z, fun q hq => Post.newT p1 s1 hq r1 z⟩)
theorem pm_starL {ss : List Bool} (h : PXm G E Γ X es ms ss) : PEm G E Γ X (.List es pos) (.star false ms ss) :=
  (pe_lst h).weak (by
    rintro σ H Q ⟨ι, ρ, μ, e, s, p⟩
    refine ⟨ι, ρ, μ, e, s, PostX.bind p fun ds μ1 vs H1 ι1 _ x1 s1 r1 p1 => ?_⟩
    obtain ⟨hf, p1⟩ := ite_ok p1
    have z := fits_iff.mp hf
    rw [← r1.len] at z
    exact ⟨z, fun q hq => Post.newL p1 s1 hq r1 z⟩)
theorem pm_calld {k n : Nat} {f : Addr} {fd : FuncData} {ps : List Str} {x : Str} {j : Nat} {pp : Pos} {ds : List Value} {ns : List Int} (F : FnG X.prog X.w X.K X.mg X.base CX k f fd ps (spOf G n (Γ.fn j))) (gd : X.A.guards = some []) (hr : Room k X.A) (hg : Gl X x) (hm : X.mg x = some (.ref f)) (hk : PySem.W.keepIn X.K (.ref f) = true) (hb : Binds X.K fd ps ds)
    (hd : Vals (ns.map V.int) ds) (hx : Passes CX X E) (hdb : (x == ("__debug__" : Str)) = false) (hs : (a :: es).all (fun e => !isStar e) = true) (hn : (a :: es).length + ns.length = n) (hmn : (a :: es).length = ms.length) (ha : PAm G E Γ X (a :: es) ms) : PEm G E Γ X (.Call (.Name x pp) (a :: es) [] pos) (.calld j ms (ns.map D.int)) := by
  rw [List.all_cons, Bool.and_eq_true] at hs
  refine ⟨fun pins s σ H Q I h => ?_⟩
  refine wpAny_Call_Name_kw (ld_glob I hg hm (PySem.W.callWith_K (h₀ := X.base) I.ok.mod.kin hk (thn (ha.run pos pins s σ H (fun xs H1 => spOf G n (Γ.fn j) (xs ++ ns.map V.int) H1 Q E) I ?_) fun us st1 ⟨xs, H1, I1, r, q⟩ => ⟨I1.kIn, ?_⟩) (star_cons (by simpa using hs.1)) (star_plain hs.2)) hdb)
  · obtain ⟨ι, ρ, μ, e, s, p⟩ := h
    have p : Post G E ι H ((evEs Γ ms ρ μ).bind fun ds μ1 => Γ.fn j (ds ++ ns.map D.int) μ1) Q := p
    refine ⟨ι, ρ, μ, e, s, PostX.bind p fun ds μ1 vs H1 ι1 ev x1 s1 r1 p1 => ?_⟩
    have rn : ∀ ns : List Int, Rels G ι1 H1 (ns.map V.int) (ns.map D.int) := fun ns => by
      induction ns with
      | nil => simp
      | cons i r ih =>
        rw [List.map_cons, List.map_cons, rels_cons]
        exact ⟨rfl, ih⟩
    refine call_post ?_ (r1.append (rn ns)) s1 p1
    rw [List.length_append, List.length_map, r1.len, ← hn, hmn, evEs_len ms ρ μ ds μ1 ev]
  · have hl : (us ++ ds).length = ps.length := by
      rw [← F.ar _ _ _ _ q, List.length_append, List.length_append, r.length, hd.length]
    exact g_run F gd hr hx I1 (hb st1 us I1.kIn hl) (r.append hd) q
end
end T
namespace T
open PySem PySem.Spec PyProof.Rows L2
structure Lk (q : Addr) (kvs : List (Key × V)) (H H' : Hp) : Prop where
  one : H q = some (.dK kvs) ∨ ∃ o, H q = some (.frz o (.dK kvs))
  two : H' q = some (.dK kvs) ∨ ∃ o, H' q = some (.frz o (.dK kvs))
  keep : ∀ p, p ≠ q → H' p = H p
section
variable {G : Gx} {ι : List Addr} {H H' : Hp} {q : Addr} {kvs : List (Key × V)}
theorem Lk.of (e : Lk q kvs H H') {p : Addr} {o : HO} (h : H p = some o) (h1 : o ≠ .dK kvs) (h2 : ∀ x, o ≠ .frz x (.dK kvs)) : H' p = some o := by
  rw [e.keep p fun z => ?_]
  · exact h
  · subst z
    rcases e.one with k | ⟨x, k⟩
    · rw [h] at k
      exact h1 (Option.some.inj k)
    · rw [h] at k
      exact h2 x (Option.some.inj k)
theorem Lk.rd (e : Lk q kvs H H') {p : Addr} {u : HO} (h : Rd H p u) (h1 : u ≠ .dK kvs) (h2 : ∀ o, u ≠ .frz o (.dK kvs)) : Rd H' p u := by
  rcases h with h | ⟨o, h⟩
  · exact .inl (e.of h h1 h2)
  · exact .inr ⟨o, e.of h (fun z => nomatch z) fun x z => h1 (by cases z; rfl)⟩
theorem Lk.rdK (e : Lk q kvs H H') {p : Addr} {kws : List (Key × V)} (h : Rd H p (.dK kws)) : Rd H' p (.dK kws) := by
  by_cases hp : p = q
  · subst hp
    have : kws = kvs := by
      rcases h with h | ⟨o, h⟩
      · rcases e.one with k | ⟨x, k⟩
        · rw [h] at k
          cases k
          rfl
        · rw [h] at k
          cases k
      · rcases e.one with k | ⟨x, k⟩
        · rw [h] at k
          cases k
        · rw [h] at k
          cases k
          rfl
    subst this
    exact e.two
  · rcases h with h | ⟨o, h⟩
    · exact .inl ((e.keep p hp).trans h)
    · exact .inr ⟨o, (e.keep p hp).trans h⟩
mutual
theorem Rel.lk (e : Lk q kvs H H') : ∀ (d : D) (v : V), Rel G ι H v d → Rel G ι H' v d
  | .non, _, h => h
  | .bl _, _, h => h
  | .int _, _, h => h
  | .str _, _, h => h
  | .tup ds, _, h => by
    obtain ⟨p, vs, e1, ⟨h0, h1⟩, h2⟩ := h
    exact ⟨p, vs, e1, ⟨h0, h1.elim (fun z => .inl ⟨e.rd z.1 (fun z => nomatch z) (fun _ z => nomatch z), z.2⟩) .inr⟩, Rels.lk e ds vs h2⟩
  | .lst ds, _, h => by
    obtain ⟨p, vs, e1, ⟨h0, h1, n⟩, h2⟩ := h
    exact ⟨p, vs, e1, ⟨h0, e.of h1 (fun z => nomatch z) (fun _ z => nomatch z), n⟩, Rels.lk e ds vs h2⟩
  | .fro ds, _, h => by
    obtain ⟨p, vs, e1, ⟨h0, h1⟩, h2⟩ := h
    exact ⟨p, vs, e1, ⟨h0, h1.elim (fun z => .inl ⟨e.rd z.1 (fun z => nomatch z) (fun _ z => nomatch z), z.2⟩) .inr⟩, Rels.lk e ds vs h2⟩
  | .dic ks ds, _, h => by
    obtain ⟨p, vs, e1, h1, h2, h3⟩ := h
    exact ⟨p, vs, e1, ⟨e.rdK h1.1, h1.2⟩, Rels.lk e ds vs h2, h3⟩
  | .wdic ks ds, _, h => by
    obtain ⟨p, vs, e1, h1, h2, h3⟩ := h
    exact ⟨p, vs, e1, h1, Rels.lk e ds vs h2, h3⟩
  | .cell k, _, h => h
  | .ins C fs ds, _, h => by
    obtain ⟨p, dx, vs, e1, n, h1, h2, h3⟩ := h
    exact ⟨p, dx, vs, e1, n, e.of h1 (fun z => nomatch z) (fun _ z => nomatch z), Rels.lk e ds vs h2, h3⟩
  | .fn _, _, h => h
  | .cls _, _, h => h
  | .ty _, _, h => h
theorem Rels.lk (e : Lk q kvs H H') : ∀ (ds : List D) (vs : List V), Rels G ι H vs ds → Rels G ι H' vs ds
  | [], [], h => by simp
  | [], _ :: _, h => by simp [Rels] at h
  | _ :: _, [], h => by simp [Rels] at h
  | d :: ds, v :: vs, h => by
    rw [rels_cons] at h
    rw [rels_cons]
    exact ⟨Rel.lk e d v h.1, Rels.lk e ds vs h.2⟩
end
theorem CellAt.lk (e : Lk q kvs H H') {a : Addr} {c : Cell} (ha : H' a = H a) (h : CellAt G ι H a c) : CellAt G ι H' a c := by
  cases c with
  | lst ds =>
    obtain ⟨vs, h, r, z⟩ := h
    exact ⟨vs, ha.trans h, Rels.lk e _ _ r, z⟩
  | ins C fs ds =>
    obtain ⟨dx, vs, h, r, z⟩ := h
    exact ⟨dx, vs, ha.trans h, Rels.lk e _ _ r, z⟩
  | dic ks ds =>
    obtain ⟨vs, h, r, z⟩ := h
    exact ⟨vs, ha.trans h, Rels.lk e _ _ r, z⟩
theorem SOk.lk {μ : Sto} (S : SOk G ι H μ) (e : Lk q kvs H H') (hq : q ∉ ι) : SOk G ι H' μ := by
  have ne : ∀ a ∈ ι, H' a = H a := fun a m => e.keep a fun z => hq (z ▸ m)
  refine ⟨S.len, S.nd, fun a m => ⟨?_, (S.zl a m).2⟩, fun k c hk => ?_⟩
  · by_cases z : a = q
    · subst z
      rcases e.two with k | ⟨o, k⟩ <;> (rw [k]; exact fun z => nomatch z)
    · rw [e.keep a z]
      exact (S.zl a m).1
  · obtain ⟨a, h1, h2⟩ := S.at_ k c hk
    exact ⟨a, h1, h2.lk e (ne a (List.mem_of_getElem? h1))⟩
theorem EOk.lk {σ : L2.St} {ρ : Env} (e : Lk q kvs H H') (h : EOk G ι H σ ρ) : EOk G ι H' σ ρ := ⟨h.len, fun i d z => let ⟨v, h1, h2⟩ := h.at_ i d z; ⟨v, h1, Rel.lk e d v h2⟩⟩
theorem Ext.lk {ι' : List Addr} {o : Obj} (h : H q = some (.dK kvs)) (hq : q ∉ ι) (e : Ext ι (upd H q (.frz o (.dK kvs))) ι' H') : Ext ι H ι' (upd H' q (.dK kvs)) ∧ q ∉ ι' ∧ H' q = some (.frz o (.dK kvs)) := by
  have hk : H' q = some (.frz o (.dK kvs)) := e.keep q _ upd_same hq
  have hq' : q ∉ ι' := e.nin upd_same hq
  obtain ⟨new, rfl, hn⟩ := id e.pre
  refine ⟨⟨⟨new, rfl, fun a m => ?_⟩, fun a u z n => ?_, fun a m z => ?_⟩, hq', hk⟩
  · have := hn a m
    have ha : a ≠ q := fun z => hq' (by rw [← z]; exact List.mem_append_right _ m)
    rw [upd_ne ha] at this
    exact this
  · by_cases ha : a = q
    · subst ha
      rw [h] at z
      cases z
      exact upd_same
    · rw [upd_ne ha]
      refine e.keep a u ?_ n
      rw [upd_ne ha]
      exact z
  · have ha : a ≠ q := fun z => hq (z ▸ m)
    rw [upd_ne ha]
    refine e.live a m ?_
    rw [upd_ne ha]
    exact z
end
theorem forL_noexc {tg : Tg} {body : Env → Sto → F} {gs : List (Nat × List D)} : ∀ (ds : List D) (ρ : Env) (μ : Sto) C xs m, forL gs tg (fun ρ μ => (body ρ μ).noexc) ds ρ μ ≠ .exc C xs m
  | [], ρ, μ, C, xs, m => by
    unfold forL ifStill
    split <;> exact fun z => nomatch z
  | d :: ds, ρ, μ, C, xs, m => by
    unfold forL ifStill
    split
    · cases setTg μ tg d ρ with
      | none => exact fun z => nomatch z
      | some ρ1 =>
        show (match (body ρ1 μ).noexc with
          | .nx ρ2 μ2 => forL gs tg (fun ρ μ => (body ρ μ).noexc) ds ρ2 μ2
          | .ct ρ2 μ2 => forL gs tg (fun ρ μ => (body ρ μ).noexc) ds ρ2 μ2
          | .bk ρ2 μ2 => .nx ρ2 μ2
          | r => r) ≠ _
        cases h : body ρ1 μ with
        | nx a b => exact forL_noexc ds a b C xs m
        | ct a b => exact forL_noexc ds a b C xs m
        | bk a b => exact fun z => nomatch z
        | rt a b => exact fun z => nomatch z
        | exc a b c => exact fun z => nomatch z
        | bad => exact fun z => nomatch z
    · exact fun z => nomatch z
theorem _root_.L2.PS.or {X : Cx} {st : Stmt} {t u : TS} (h : PS X st t) (k : PS X st u) : PS X st (fun D σ H => t D σ H ∨ u D σ H) := ⟨fun pins s σ H D I q => q.elim (fun q => h.run pins s σ H D I q) fun q => k.run pins s σ H D I q⟩
section
variable {G : Gx} {Γ : Tb} {E : XK} {X : Cx} {pos : Pos} {tg it : Expr} {mt : Tg} {i : Nat} {f : Option Str} {body : List Stmt} {mb : List Ss} {ma : Ee}
theorem keyV_ok {ι : List Addr} {H : Hp} (k : Key) : Rel G ι H (kV k) (keyV k) := by
  cases k <;> rfl
theorem loopK_core {te : TE} {ι : List Addr} {σ : L2.St} {ρ : Env} {μ : Sto} {H : Hp} {D : Ends} {q : Addr} {od : Obj} {ks : List Key} {vs : List V} (hl : ks.length = vs.length) (hte : ∀ Q : VK, Q (.ref q) H → te σ H Q) (hq : H q = some (.frz od (.dK (ks.zip vs)))) (nq : q ∉ ι)
    (e : EOk G ι H σ ρ) (s : SOk G ι H μ) (p : PostF G E ι H (forL [] mt (fun ρ μ => (exB Γ mb ρ μ).noexc) (ks.map keyV) ρ μ) D) : tFor (iKeys te) (gTg G.K mt) (TSv G E (exB Γ mb)) D σ H := by
  refine hte _ ⟨q, od, rfl, .inl ⟨ks.zip vs, hq, ?_⟩⟩
  generalize hds : ks.map keyV = ds at p
  have hlen : (ks.zip vs).length = ds.length := by
    rw [← hds, List.length_zip, List.length_map]
    omega
  refine ⟨fun i m σ H' => m = ds.length - i ∧ i ≤ ds.length ∧ ∃ ι' ρ' μ', Ext ι H ι' H' ∧ EOk G ι' H' σ ρ' ∧ SOk G ι' H' μ' ∧ PostF G E ι' H' (forL [] mt (fun ρ μ => (exB Γ mb ρ μ).noexc) (ds.drop i) ρ' μ') D, ⟨ds.length, rfl, Nat.zero_le _, ι, ρ, μ, Ext.refl _ _, e, s, p⟩, ?_⟩
  rintro i m σ2 H2 ⟨rfl, hi, ι2, ρ2, μ2, x2, e2, s2, p2⟩
  have hq2 : H2 q = some (.frz od (.dK (ks.zip vs))) := x2.keep q _ hq nq
  by_cases hlt : i < ds.length
  · have hdr : ds.drop i = ds[i] :: ds.drop (i + 1) := by simp
    rw [hdr] at p2
    unfold forL at p2
    rw [ifStill_nil] at p2
    cases hset : setTg μ2 mt ds[i] ρ2 with
    | none =>
      simp only [hset] at p2
      exact p2.elim
    | some ρ3 =>
      simp only [hset] at p2
      refine .inr ⟨⟨hq2, by omega⟩, fun σ' H' => i + 1 ≤ ds.length ∧ ∃ ι' ρ' μ', Ext ι H ι' H' ∧ EOk G ι' H' σ' ρ' ∧ SOk G ι' H' μ' ∧ PostF G E ι' H' (forL [] mt (fun ρ μ => (exB Γ mb ρ μ).noexc) (ds.drop (i + 1)) ρ' μ') D, fun σ' H' n => ⟨ds.length - (i + 1), by omega, rfl, n⟩, ?_⟩
      rintro x H3 ⟨rfl, k, v, hk, rfl⟩
      have hk2 : ds[i] = keyV k := by
        have h1 : ds[i]? = some ds[i] := by simp [hlt]
        have h2 : ks[i]? = some k := by
          rw [List.getElem?_zip_eq_some] at hk
          exact hk.1
        have h3 : ds[i]? = some (keyV k) := by
          rw [← hds, List.getElem?_map, h2]
          rfl
        rw [h1] at h3
        exact Option.some.inj h3
      refine gTg_ok (G := G) (ι := ι2) (μ := μ2) mt ds[i] (kV k) σ2 ρ2 ρ3 _ hset (by rw [hk2]; exact keyV_ok k) e2 fun σ1 e3 _ => ?_
      refine ⟨ι2, ρ3, μ2, e3, s2, ?_⟩
      have p3 : PostF G E ι2 H3 (match (exB Γ mb ρ3 μ2).noexc with
          | .nx ρ2 μ2 => forL [] mt (fun ρ μ => (exB Γ mb ρ μ).noexc) (ds.drop (i + 1)) ρ2 μ2
          | .ct ρ2 μ2 => forL [] mt (fun ρ μ => (exB Γ mb ρ μ).noexc) (ds.drop (i + 1)) ρ2 μ2
          | .bk ρ2 μ2 => .nx ρ2 μ2
          | r => r) D := p2
      have p4 := PostF.loopB (f := fun a b => forL [] mt (fun ρ μ => (exB Γ mb ρ μ).noexc) (ds.drop (i + 1)) a b) p3 (N := fun σ' H' => i + 1 ≤ ds.length ∧ ∃ ι' ρ' μ', Ext ι H ι' H' ∧ EOk G ι' H' σ' ρ' ∧ SOk G ι' H' μ' ∧ PostF G E ι' H' (forL [] mt (fun ρ μ => (exB Γ mb ρ μ).noexc) (ds.drop (i + 1)) ρ' μ') D) fun ρ4 μ4 σ4 H4 ι4 x4 s4 e4 p4 => ⟨hlt, ι4, ρ4, μ4, x2.trans x4, e4, s4, p4⟩
      cases h : exB Γ mb ρ3 μ2 with
      | exc C xs m =>
        rw [h] at p4
        exact p4.elim
      | nx a b =>
        rw [h] at p4
        exact p4
      | rt a b =>
        rw [h] at p4
        exact p4
      | bk a b =>
        rw [h] at p4
        exact p4
      | ct a b =>
        rw [h] at p4
        exact p4
      | bad =>
        rw [h] at p4
        exact p4
  · have e0 : i = ds.length := by omega
    subst e0
    rw [List.drop_length] at p2
    unfold forL at p2
    rw [ifStill_nil] at p2
    exact .inl ⟨⟨hq2, by omega⟩, PostF.nxt p2 s2 e2⟩
theorem loopK_read {te : TE} (hw : ∀ ι H σ ρ d ks, EOk G ι H σ ρ → ρ[i]? = some (some d) → dicOf Γ.at_ d f = some ks → ∃ q vs, ks.length = vs.length ∧ Rd H q (.dK (ks.zip vs)) ∧ G.non ι q ∧ ∀ H', (H' = H ∨ ∃ o, H q = some (.dK (ks.zip vs)) ∧ H' = upd H q (.frz o (.dK (ks.zip vs)))) → ∀ Q : VK, Q (.ref q) H' → te σ H' Q) :
    ∀ D σ H, TSv G E (exS Γ (.loopK mt i f mb)) D σ H → tLock (tFor (iKeys te) (gTg G.K mt) (TSv G E (exB Γ mb))) D σ H ∨ tFor (iKeys te) (gTg G.K mt) (TSv G E (exB Γ mb)) D σ H := by
  rintro D σ H ⟨ι, ρ, μ, e, s, p⟩
  have p : PostF G E ι H (match ρ[i]? with
    | some (some d) => (match dicOf Γ.at_ d f with
      | some ks => (forL [] mt (fun ρ μ => (exB Γ mb ρ μ).noexc) (ks.map keyV) ρ μ)
      | none => .bad)
    | _ => .bad) D := p
  cases hr : ρ[i]? with
  | none =>
    rw [hr] at p
    exact p.elim
  | some oo =>
    cases oo with
    | none =>
      rw [hr] at p
      exact p.elim
    | some d =>
      rw [hr] at p
      cases hd : dicOf Γ.at_ d f with
      | none =>
        simp only [hd] at p
        exact p.elim
      | some ks =>
        simp only [hd] at p
        obtain ⟨q, vs, hl, h1, nq, hte⟩ := hw ι H σ ρ d ks e hr hd
        rcases h1 with h1 | ⟨o, h1⟩
        · refine .inl ⟨q, .dK (ks.zip vs), h1, trivial, fun od => ?_⟩
          have lk : Lk q (ks.zip vs) H (upd H q (.frz od (.dK (ks.zip vs)))) := ⟨.inl h1, .inr ⟨od, upd_same⟩, fun p z => upd_ne z⟩
          refine loopK_core hl (hte _ (.inr ⟨od, h1, rfl⟩)) upd_same nq.1 (e.lk lk) (s.lk lk nq.1) ?_
          have ul : ∀ {ι' H'}, Ext ι (upd H q (.frz od (.dK (ks.zip vs)))) ι' H' → Ext ι H ι' (upd H' q (.dK (ks.zip vs))) ∧ q ∉ ι' ∧ H' q = some (.frz od (.dK (ks.zip vs))) ∧ Lk q (ks.zip vs) H' (upd H' q (.dK (ks.zip vs))) := fun {ι' H'} x => by
            obtain ⟨a, b, c⟩ := Ext.lk h1 nq.1 x
            exact ⟨a, b, c, .inr ⟨od, c⟩, .inl upd_same, fun p z => upd_ne z⟩
          cases hf : forL [] mt (fun ρ μ => (exB Γ mb ρ μ).noexc) (ks.map keyV) ρ μ with
          | nx ρ2 μ2 =>
            rw [hf] at p
            intro σ' H' ι' x s' e'
            obtain ⟨a, b, c, l⟩ := ul x
            exact ⟨c, p σ' _ ι' a (s'.lk l b) (e'.lk l)⟩
          | rt d2 μ2 =>
            rw [hf] at p
            intro v' H' ι' x s' r'
            obtain ⟨a, b, c, l⟩ := ul x
            exact ⟨c, p v' _ ι' a (s'.lk l b) (Rel.lk l _ _ r')⟩
          | bk ρ2 μ2 =>
            rw [hf] at p
            intro σ' H' ι' x s' e'
            obtain ⟨a, b, c, l⟩ := ul x
            exact ⟨c, p σ' _ ι' a (s'.lk l b) (e'.lk l)⟩
          | ct ρ2 μ2 =>
            rw [hf] at p
            intro σ' H' ι' x s' e'
            obtain ⟨a, b, c, l⟩ := ul x
            exact ⟨c, p σ' _ ι' a (s'.lk l b) (e'.lk l)⟩
          | exc C xs m => exact absurd hf (forL_noexc _ _ _ _ _ _)
          | bad =>
            rw [hf] at p
            exact p.elim
        · exact .inr (loopK_core hl (hte H (.inl rfl)) h1 nq.1 e s p)
theorem sm_loopK {x : Str} {p1 : Pos} (hN : X.N[i]? = some x) (hv : Vis X.env.scope x) (hd : (x == ("__debug__" : Str)) = false) (hcd : (x == ("__classdict__" : Str)) = false) (hp : PassesOwn (model X.prog X.w) X.A X.env X.xe) (hc : X.calm = true) (hg : PG X tg (gTg G.K mt)) (hb : PSsm G E Γ X body mb) :
    PSm G E Γ X (.For tg (.Name x p1) body [] pos) (.loopK mt i none mb) := by
  have he : PE X (.Name x p1) (tVar i) := pe_var hN hv hd hcd
  have h := ps_for (pos := pos) hp hc (pi_keys (tg := tg) he) hg hb (fold_plain rfl)
  refine (PS.or (ps_lock h) h).weak (loopK_read fun ι H σ ρ d ks e hr hd => ?_)
  obtain ⟨v, h1, h2⟩ := e.at_ i d hr
  cases d with
  | dic kk ds =>
    cases hd
    obtain ⟨q, vs, rfl, ⟨h3, h4⟩, h5, h6, _⟩ := h2
    exact ⟨q, vs, by rw [h6, h5.len], h3, h4, fun H' _ Q hq => ⟨.ref q, h1, hq⟩⟩
  | _ => cases hd
theorem sm_loopKf {x g : Str} {p1 p2 : Pos} (hK : X.K = G.K) (hat : ∀ C f, Γ.at_ C f = true → Cls X.K (G.cad C) ∧ NoAttr X.K (G.cad C) f) (hN : X.N[i]? = some x) (hv : Vis X.env.scope x) (hd : (x == ("__debug__" : Str)) = false) (hcd : (x == ("__classdict__" : Str)) = false) (hp : PassesOwn (model X.prog X.w) X.A X.env X.xe) (hc : X.calm = true)
    (hg : PG X tg (gTg G.K mt)) (hb : PSsm G E Γ X body mb) : PSm G E Γ X (.For tg (.Attribute (.Name x p1) g p2) body [] pos) (.loopK mt i (some g) mb) := by
  have he : PE X (.Attribute (.Name x p1) g p2) (tFld X.K (tVar i) g) := pe_fld (pe_var hN hv hd hcd) (base_plain rfl)
  have h := ps_for (pos := pos) hp hc (pi_keys (tg := tg) he) hg hb (fold_plain rfl)
  refine (PS.or (ps_lock h) h).weak (loopK_read fun ι H σ ρ d ks e hr hd => ?_)
  obtain ⟨v, h1, h2⟩ := e.at_ i d hr
  cases d with
  | ins C fs ds =>
    unfold dicOf at hd
    simp only at hd
    cases hc : Γ.at_ C g with
    | false => simp [hc] at hd
    | true =>
      simp only [hc, if_true] at hd
      obtain ⟨p, dx, vs, rfl, nn, h3, h4, h5⟩ := h2
      cases hl : (fs.zip ds).lookup g with
      | none => simp [hl] at hd
      | some u =>
        rw [hl] at hd
        obtain ⟨w, h6, h7⟩ := look_fld h5 h4 hl
        cases u with
        | dic kk es =>
          cases hd
          obtain ⟨q, ws, rfl, ⟨h8, h9⟩, h10, h11, _⟩ := h7
          refine ⟨q, ws, by rw [h11, h10.len], h8, h9, fun H' hH Q hq => ⟨.ref p, h1, p, _, dx, _, .ref q, rfl, ?_, (hat C g hc).1, (hat C g hc).2, h6, hq⟩⟩
          rcases hH with rfl | ⟨o, h12, rfl⟩
          · exact h3
          · rw [upd_ne]
            · exact h3
            · intro z
              subst z
              rw [h3] at h12
              cases h12
        | _ => cases hd
  | _ => cases hd
section
variable {ι : List Addr} {H : Hp} {μ : Sto} {v : V} {x : D} {Q : VK}
theorem newStrs {ys : List Str} (p : Post G E ι H (.ok (.lst (ys.map D.str)) μ) Q) (S : SOk G ι H μ) (z : ys.length ≤ sizeLine) : rNewStrs ys H Q := fun q hq => Post.newL p S hq (rels_strs ys) (by rw [List.length_map]; exact z)
theorem ms_split : MSim G E "str" rSplit .split := by
  refine ⟨fun ι H μ v x S r h => ty_str (μ := μ) r (show recv .split x μ = true from h), fun ι H μ v x vs ds Q S r rs p => ?_⟩
  cases ds with
  | nil => exact p.elim
  | cons d ds =>
    cases ds with
    | cons _ _ => cases d <;> exact p.elim
    | nil =>
      obtain ⟨u, rfl, ru⟩ := r1_of rs
      cases d with
      | str b =>
        cases x with
        | str a =>
          cases ru
          cases r
          obtain ⟨hf, p⟩ := ite_ok (show Post G E ι H (if (b.length != 0 && fits (a.length + 2) && fits (Txt.split a b).length) = true then .ok (.lst ((Txt.split a b).map .str)) μ else .bad) Q from p)
          rw [Bool.and_eq_true, Bool.and_eq_true] at hf
          exact ⟨a, b, rfl, rfl, by simpa using hf.1.1, fits_iff.mp hf.1.2, newStrs p S (fits_iff.mp hf.2)⟩
        | _ => exact p.elim
      | _ => exact p.elim
def rPart : V → List V → Hp → VK → Prop := fun x xs H Q => ∃ a b, x = .str a ∧ xs = [.str b] ∧ (b.length == 0) = false ∧ a.length ≤ sizeLine ∧
    ∀ p, H p = none → Q (.ref p) (upd H p (.tup [.str (Txt.partition a b).1, .str (Txt.partition a b).2.1, .str (Txt.partition a b).2.2]))
theorem ms_partition : MSim G E "str" rPart .partition := by
  refine ⟨fun ι H μ v x S r h => ty_str (μ := μ) r (show recv .split x μ = true from h), fun ι H μ v x vs ds Q S r rs p => ?_⟩
  cases ds with
  | nil => exact p.elim
  | cons d ds =>
    cases ds with
    | cons _ _ => cases d <;> exact p.elim
    | nil =>
      obtain ⟨u, rfl, ru⟩ := r1_of rs
      cases d with
      | str b =>
        cases x with
        | str a =>
          cases ru
          cases r
          obtain ⟨hf, p⟩ := ite_ok (show Post G E ι H (if (b.length != 0 && fits a.length) = true then .ok (.tup [.str (Txt.partition a b).1, .str (Txt.partition a b).2.1, .str (Txt.partition a b).2.2]) μ else .bad) Q from p)
          rw [Bool.and_eq_true] at hf
          exact ⟨a, b, rfl, rfl, by simpa using hf.1, fits_iff.mp hf.2, fun q hq => Post.newT p S hq (by simp [rels_cons, Rel]) (by show 3 ≤ sizeLine; decide)⟩
        | _ => exact p.elim
      | _ => exact p.elim
def rJoin (K : PySem.W.Frag) : V → List V → Hp → VK → Prop := fun x xs H Q => ∃ a p, ∃ ys : List Str, x = .str a ∧ xs = [.ref p] ∧ (SqL K H p (ys.map V.str) ∨ SqT K H p (ys.map V.str)) ∧ (ys.map (·.length)).sum + ys.length * a.length ≤ 16777216 ∧ Q (.str (Txt.join a ys)) H
def joinR (a : Str) (o : Option (List Str)) (μ : Sto) : R D := match o with
  | some ys => if fits ((ys.map Str.length).sum + a.length * ys.length) then .ok (.str (Txt.join a ys)) μ else .bad
  | none => .bad
theorem ms_join : MSim G E "str" (rJoin G.K) .join := by
  refine ⟨fun ι H μ v x S r h => ty_str (μ := μ) r (show recv .split x μ = true from h), fun ι H μ v x vs ds Q S r rs p => ?_⟩
  cases ds with
  | nil => exact p.elim
  | cons d ds =>
    cases ds with
    | cons _ _ => exact p.elim
    | nil =>
      obtain ⟨u, rfl, ru⟩ := r1_of rs
      cases x with
      | str a =>
        cases r
        have e0 : meD .join (.str a) [d] μ = joinR a ((seqOf μ d).bind strsD) μ := by
          simp only [meD, joinR]
          cases (seqOf μ d).bind strsD <;> rfl
        rw [e0] at p
        cases hs : seqOf μ d with
        | none =>
          rw [hs] at p
          exact p.elim
        | some es =>
          rw [hs] at p
          cases hy : strsD es with
          | none =>
            rw [Option.bind_some, hy] at p
            exact p.elim
          | some ys =>
            rw [Option.bind_some, hy] at p
            obtain ⟨hf, p⟩ := ite_ok (show Post G E ι H (if fits ((ys.map Str.length).sum + a.length * ys.length) = true then .ok (.str (Txt.join a ys)) μ else .bad) Q from p)
            obtain ⟨q, ws, rfl, h1, h2, _⟩ := seq_ok S ru hs
            have e := strs_V h2 hy
            subst e
            have hz := fits_iff.mp hf
            refine ⟨a, q, ys, rfl, rfl, h1, ?_, Post.val p S rfl⟩
            rw [Nat.mul_comm ys.length]
            exact hz
      | _ => exact p.elim
def tGetA (X : Cx) (td ty : TE) : TE := fun σ H Q => td σ H fun x H1 => ∃ a, x = .ref a ∧ (IsD H1 a ∨ ∃ es n, KDict X.K X.w a es n) ∧ ty σ H1 fun y H2 => (∃ o, DGet H2 a y o ∧ Q (o.getD .non) H2) ∨
  ∃ es n z r v, KDict X.K X.w a es n ∧ y = .str z ∧ PySem.W.nsIn X.K a z = some r ∧ RelO v r ∧ Q (v.getD .non) H2
theorem pe_getA {o e : Expr} {apos cpos : Pos} {td ty : TE} (hu : X.A.units + 1 < cLine) (ho : PE X o td) (he : PE X e ty) (m : M1 X o "get" apos e cpos) : PE X (.Call (.Attribute o "get" apos) [e] [] cpos) (tGetA X td ty) := by
  refine ⟨fun pins s σ H Q I h => ?_⟩
  refine wpAny_Call_method m.base m.few m.line PySem.F.plainAttrs_dict PySem.F.slot_dict_get PySem.F.type_dict_get (thn (ho.run pins s σ H _ I h) fun u s1 ⟨x, H1, I1, rx, a, ex, d, q1⟩ => ?_)
  subst ex
  obtain rfl : u = Value.ref a := rx
  have hty : s1.TypeIs (.ref a) "dict" ∧ (∀ b, Value.ref a = .ref b → ∃ ob, s1.heap.get? b = some ob ∧ ob.dict = none) := by
    rcases d with d | ⟨es, n, d⟩
    · obtain ⟨t1, t2, _⟩ := isD_at I1 d
      exact ⟨t1, t2⟩
    · refine ⟨kd_type d I1, fun b q => ?_⟩
      cases q
      exact ⟨_, I1.kIn _ _ d.at_, rfl⟩
  refine ⟨hty.1, hty.2, ?_⟩
  rw [m.trees]
  refine Calls.callWith_builtin rfl (Calls.evalArgs_plain (Calls.spliced_cons (thn (he.run pins s1 σ H1 _ I1 q1) fun iv s2 ⟨y, H2, I2, ry, q2⟩ => Calls.spliced_nil ?_)))
  rcases q2 with ⟨ov, g, q2⟩ | ⟨es, n, z, r, v, d2, rfl, hz, rv, q2⟩
  · exact d_get1 hu I2 g ry fun w' s3 I3 rw' => ⟨_, H2, I3, rw', q2⟩
  · obtain ⟨t, rfl⟩ := ry
    have hm := PySem.W.mapOf_K (prog := X.prog) (w := X.w) I2.kIn d2.at_ d2.lit
    refine call_meetsIn PySem.F.slot_dict_get hm.typeIs PySem.F.entry_dict_get (PySem.F.args_dict_get_2 _ _) (meets_dict_get (strKind X.prog X.w) a (strKind_is X.prog X.w z t) d2.low) ⟨_, hm, ?_⟩
    refine ⟨v.getD .non, H2, I2.tok _, ?_, q2⟩
    show RelV (v.getD .non) ((findBy Value.isStrOf es z).getD .none)
    rw [PySem.W.find_K d2.at_ hz]
    exact rv.getD rfl
theorem m1_of {a b : Expr} {m : Str} {apos : Pos} (hcn : isCallN a = false) (hs : isStar b = false) (hline : (apos.endLine == pos.line) = true) : M1 X a m apos b pos := by
  have e1 : starEach [b] X.env = [(false, eval b X.env)] := star_cons hs
  refine ⟨base_plain hcn, ?_, hline, ?_⟩
  · rw [e1]
    rfl
  · rw [e1]
    rfl
theorem pm_get1 {a b : Expr} {mb : Ee} {apos : Pos} (hK : X.K = G.K) (hW : X.w = G.w) (hu : X.A.units + 1 < cLine) (hcn : isCallN a = false) (hs : isStar b = false) (hline : (apos.endLine == pos.line) = true) (ha : PEm G E Γ X a ma) (hb : PEm G E Γ X b mb) :
    PEm G E Γ X (.Call (.Attribute a "get" apos) [b] [] pos) (.me .get1 ma [mb]) :=
  (pe_getA hu ha hb (m1_of hcn hs hline)).weak (by
    rintro σ H Q ⟨ι, ρ, μ, e, s, p⟩
    have p : Post G E ι H ((evE Γ ma ρ μ).bind fun x μ1 => if recv .get1 x μ1 then ((evE Γ mb ρ μ1).bind fun d μ2 => T.R.ok [d] μ2).bind fun ds μ2 => meD .get1 x ds μ2 else .bad) Q := p
    refine ⟨ι, ρ, μ, e, s, Post.bind p fun x μ1 v H1 ι1 _ x1 s1 r1 p1 => ?_⟩
    obtain ⟨hr, p1⟩ := ite_ok p1
    have p1 : Post G E ι1 H1 ((evE Γ mb ρ μ1).bind fun d μ2 => meD .get1 x [d] μ2) Q := by
      cases h : evE Γ mb ρ μ1 <;> (rw [h] at p1; exact p1)
    have dk : ∀ ks (ds : List T.D) {ι H vs}, Rels G ι H vs ds → ks.length = ds.length → ∀ k, (∀ d, lookK ks ds k = some d → ∃ u, valV (ks.zip vs) k = some u ∧ Rel G ι H u d) ∧ (valV (ks.zip vs) k).isSome = (lookK ks ds k).isSome := fun ks ds {ι H vs} r hl k => ⟨fun d h => by
      obtain ⟨u, e1, r'⟩ := look_ok r hl d h
      exact ⟨u, e1, r'⟩, look_some r hl⟩
    cases x with
    | dic ks ds =>
      obtain ⟨q, vs, rfl, ⟨h1, nn⟩, h2, h3, _⟩ := r1
      refine ⟨q, rfl, .inl (.inl ⟨_, h1⟩), ι1, ρ, μ1, e.ext x1, s1, Post.bind p1 fun y μ2 w H2 ι2 _ x2 s2 r2 p2 => ?_⟩
      cases hk : keyD y with
      | none =>
        simp only [meD, hk] at p2
        exact p2.elim
      | some k =>
        simp only [meD, hk] at p2
        refine .inl ⟨valV (ks.zip vs) k, .inl ⟨_, k, (Rd.ext x2 h1 nn).1, key_V r2 hk, rfl⟩, ?_⟩
        obtain ⟨d1, d2⟩ := dk ks ds (Rels.ext x2 _ _ h2) h3 k
        cases hl : lookK ks ds k with
        | none =>
          rw [hl] at p2 d2
          have : valV (ks.zip vs) k = none := by
            cases hv : valV (ks.zip vs) k with
            | none => rfl
            | some u =>
              rw [hv] at d2
              cases d2
          rw [this]
          exact Post.val p2 s2 rfl
        | some d =>
          rw [hl] at p2
          obtain ⟨u, h4, h5⟩ := d1 d hl
          rw [h4]
          exact Post.val p2 s2 h5
    | wdic ks ds =>
      obtain ⟨q, vs, rfl, ⟨es, n, h1, h4⟩, h2, h3⟩ := r1
      refine ⟨q, rfl, .inr ⟨es, n, by rw [hK, hW]; exact h1⟩, ι1, ρ, μ1, e.ext x1, s1, Post.bind p1 fun y μ2 w H2 ι2 _ x2 s2 r2 p2 => ?_⟩
      cases y with
      | str z =>
        cases r2
        obtain ⟨r, h5, h6⟩ := h4 z
        refine .inr ⟨es, n, z, r, (ks.zip vs).lookup z, by rw [hK, hW]; exact h1, rfl, by rw [hK]; exact h5, h6, ?_⟩
        have p2 : Post G E ι2 H2 (.ok (((ks.zip ds).lookup z).getD .non) μ2) Q := p2
        have r3 := Rels.ext x2 _ _ h2
        cases hl : (ks.zip ds).lookup z with
        | none =>
          have : (ks.zip vs).lookup z = none := lookup_none2 h3 (h2.len) hl
          rw [hl] at p2
          rw [this]
          exact Post.val p2 s2 rfl
        | some d =>
          obtain ⟨u, h7, h8⟩ := look_fld h3 r3 hl
          rw [hl] at p2
          rw [h7]
          exact Post.val p2 s2 h8
      | _ => exact p2.elim
    | _ => cases hr)
where
  lookup_none2 {ks : List Str} {ds : List T.D} {vs : List V} {z : Str} (h3 : ks.length = ds.length) (hv : vs.length = ds.length) (hl : (ks.zip ds).lookup z = none) : (ks.zip vs).lookup z = none := by
    induction ks generalizing ds vs with
    | nil => rfl
    | cons k ks ih =>
      cases ds with
      | nil => simp at h3
      | cons d ds =>
        cases vs with
        | nil => simp at hv
        | cons v vs =>
          rw [List.zip_cons_cons, List.lookup_cons] at hl ⊢
          cases hb : z == k with
          | true =>
            rw [hb] at hl
            cases hl
          | false =>
            rw [hb] at hl
            exact ih (by simpa using h3) (by simpa using hv) hl
end
end
end T
namespace T
open PySem PySem.Spec PyProof.Rows L2
structure Cs where
  cc : Cc
  sc : Scope
  stb : Str → Bool
def Cs.gl (c : Cs) (x : Str) : Bool := match c.sc.names.lookup x with
  | some .globalImplicit => true
  | _ => false
def Cs.vis (c : Cs) (x : Str) : Bool := match c.sc.names.lookup x with
  | some .local => true
  | some .cell => true
  | some .free => true
  | _ => false
def okN (x : Str) : Bool := !(x == ("__debug__" : Str)) && !(x == ("__classdict__" : Str))
def Cs.bl (c : Cs) (x : Str) : Bool := c.gl x && c.cc.blt.contains x
def stbB (scope sc : Scope) (x : Str) : Bool := match (relS scope sc).names.lookup x with
  | some .local => true
  | some .cell => scope.names.lookup x == some .cell
  | _ => false
def stbF (sc : Scope) (x : Str) : Bool := match sc.names.lookup x with
  | some .local => true
  | some .cell => true
  | _ => false
def Cs.blk (c : Cs) (scope : Scope) : Cs := ⟨c.cc, relS scope c.sc, stbB scope c.sc⟩
structure Rc where
  e : Cs → Expr → Ee → Bool
  t : Cs → Expr → Ee → Bool
def all2 {α β : Type} (f : α → β → Bool) : List α → List β → Bool
  | [], [] => true
  | a :: as, b :: bs => f a b && all2 f as bs
  | _, _ => false
def ckL (f : Expr → Ee → Bool) (es : List Expr) (ms : List Ee) : Bool := es.all (fun e => !isStar e) && all2 f es ms
def ckO (f : Expr → Ee → Bool) : Option Expr → Ee → Bool
  | none, .no => true
  | some e, m => (match m with
    | .no => false
    | _ => true) && f e m
  | _, _ => false
def ckAnd (t : Expr → Ee → Bool) : List Expr → Ee → Bool
  | [], _ => false
  | [b], m => t b m
  | a :: b :: r, .and ma mb => t a ma && ckAnd t (b :: r) mb
  | _, _ => false
def ckOr (t : Expr → Ee → Bool) : List Expr → Ee → Bool
  | [], _ => false
  | [b], m => t b m
  | a :: b :: r, .or ma mb => t a ma && ckOr t (b :: r) mb
  | _, _ => false
def biName : BI → Option (String × Nat)
  | .len => some ("len", 1) | .abs => some ("abs", 1) | .all => some ("all", 1) | .any => some ("any", 1) | .sum => some ("sum", 1) | .int => some ("int", 1) | .bool => some ("bool", 1) | .repr => some ("repr", 1)
  | .sorted => some ("sorted", 1) | .maxl => some ("max", 1) | .minl => some ("min", 1) | .tuple => some ("tuple", 1) | .list => some ("list", 1) | .clist => some ("list", 1) | .max2 => some ("max", 2) | .min2 => some ("min", 2) | .divmod => some ("divmod", 2) | .dict => some ("dict", 1)
  | _ => none
def tyN : List String := ["bool", "int", "str", "tuple", "list", "dict"]
def ckBi (r : Rc) (c : Cs) (b : BI) (ms : List Ee) (x : Str) (es : List Expr) : Bool := match b, es, ms with
  | .isty T, [a, .Name y _], [ma] => c.bl x && x == Str.ofString "isinstance" && tyN.contains T && y == Str.ofString T && c.bl y && !isStar a && r.e c a ma
  | .range1, [.Call (.Name y _) [a] [] _], [ma] => c.bl x && x == Str.ofString "list" && c.bl y && y == Str.ofString "range" && !isStar a && r.e c a ma
  | .crange1, [.Call (.Name y _) [a] [] _], [ma] => c.bl x && x == Str.ofString "list" && c.bl y && y == Str.ofString "range" && !isStar a && r.e c a ma
  | .lenset, [.Call (.Name y _) [a] [] _], [ma] => c.bl x && x == Str.ofString "len" && c.bl y && y == Str.ofString "set" && !isStar a && r.e c a ma
  | b, e :: es, ms => (match biName b with
    | some (n, _) => c.bl x && x == Str.ofString n && ckL (r.e c) (e :: es) ms
    | none => false)
  | _, _, _ => false
def meName : ME → Option (String × Nat)
  | .append => some ("append", 1) | .pop0 => some ("pop", 0) | .pop => some ("pop", 1) | .index => some ("index", 1) | .split => some ("split", 1) | .partition => some ("partition", 1) | .join => some ("join", 1)
  | _ => none
def ckMe (r : Rc) (c : Cs) (m : ME) (ma : Ee) (ms : List Ee) (a : Expr) (nm : Str) (es : List Expr) (apos pos : Pos) : Bool := !isCallN a && apos.endLine == pos.line && r.e c a ma && (match m, es, ms with
  | .get1, [b], [mb] => nm == Str.ofString "get" && !isStar b && r.e c b mb
  | m, [], [] => (match meName m with
    | some (n, 0) => nm == Str.ofString n
    | _ => false)
  | m, [e], ms => (match meName m with
    | some (n, 1) => nm == Str.ofString n && ckL (r.e c) [e] ms
    | _ => false)
  | _, _, _ => false)
def ckTg (c : Cs) : Nat → Expr → Tg → Bool
  | 0, _, _ => false
  | _ + 1, _, .bad => true
  | _ + 1, .Name x _, .nm i => decide (c.cc.N[i]? = some x) && c.stb x
  | n + 1, .Tuple es _ _, .tp ts => es.all (fun e => !isStar e) && all2 (ckTg c n) es ts
  | _ + 1, _, _ => false
def isTup : Expr → Bool
  | .Tuple _ _ _ => true
  | _ => false
def ckIt (r : Rc) (c : Cs) (tg it : Expr) (ik : IK) (ms : List Ee) : Bool := match ik, it, ms with
  | .plain, e, [m] => r.e c e m
  | .enum, .Call (.Name x _) [a] [] _, [m] => isTup tg && c.bl x && x == Str.ofString "enumerate" && !isStar a && r.e c a m
  | .zip, .Call (.Name x _) [a, b] [] _, [m, m2] => isTup tg && c.bl x && x == Str.ofString "zip" && !isStar a && !isStar b && r.e c a m && r.e c b m2
  | .range, .Call (.Name x _) [a] [] _, [m] => c.bl x && x == Str.ofString "range" && !isStar a && r.e c a m
  | .range, .Call (.Name x _) [a, b] [] _, [m, m2] => c.bl x && x == Str.ofString "range" && !isStar a && !isStar b && r.e c a m && r.e c b m2
  | _, _, _ => false
def ckIfs (t : Expr → Ee → Bool) : List Expr → List Ee → Bool
  | [], [] => true
  | [e], [m] => t e m
  | _, _ => false
def ckComp (r : Rc) (c : Cs) (melt : Ee) (mt : Tg) (ik : IK) (mits mifs : List Ee) (own : List Nat) (elt tg iter : Expr) (ifs : List Expr) (scope : Scope) : Bool :=
  let ow := own.filterMap fun i => (c.cc.N[i]?).map fun x => (x, i)
  blkC c.cc.N c.sc scope ow && decide (ow.map (·.2) = own) && tgIn own mt && ckIt r c tg iter ik mits && !isSet iter && ckTg (c.blk scope) 10 tg mt && ckIfs (r.t (c.blk scope)) ifs mifs && r.e (c.blk scope) elt melt
def ckCompS (r : Rc) (c : Cs) (melt : Ee) (mt : Tg) (mit : Ee) (own : List Nat) (elt tg it : Expr) (z : Str) (scope : Scope) : Bool :=
  let ow := own.filterMap fun i => (c.cc.N[i]?).map fun x => (x, i)
  blkC c.cc.N c.sc scope ow && decide (ow.map (·.2) = own) && tgIn own mt && c.bl z && z == Str.ofString "zip" && r.e c it mit && ckTg (c.blk scope) 10 tg mt && r.e (c.blk scope) elt melt
def ckX (f : Expr → Ee → Bool) : List Expr → List Ee → List Bool → Bool
  | [], [], [] => true
  | .Starred a _ :: es, m :: ms, true :: ss => f a m && ckX f es ms ss
  | e :: es, m :: ms, false :: ss => !isStar e && f e m && ckX f es ms ss
  | _, _, _ => false
def ckE (r : Rc) (c : Cs) (e : Expr) (m : Ee) : Bool := match m, e with
  | .bad, _ => true
  | .v i, .Name x _ => decide (c.cc.N[i]? = some x) && c.vis x && okN x
  | .g j, .Name x _ => c.gl x && c.cc.gls.contains (x, j) && okN x
  | .k (.int j), .Constant (.int i) _ _ => decide (i = j)
  | .k (.bl j), .Constant (.bool i) _ _ => decide (i = j)
  | .k .non, .Constant .none _ _ => true
  | .k (.str y), .Constant (.str x) _ _ => decide (x = y)
  | .bin o ma mb, .BinOp a op b _ => decide (op = o.op) && r.e c a ma && r.e c b mb
  | .cbin o ma mb, .BinOp a op b _ => decide (op = o.op) && r.e c a ma && r.e c b mb
  | .neg ma, .UnaryOp .USub a _ => r.e c a ma
  | .not ma, .UnaryOp .Not a _ => r.e c a ma
  | .cmp o ma mb, .Compare a [op] [b] _ => decide (op = o.op) && !(behindInMarks op b) && r.e c a ma && r.e c b mb
  | .cmp2 o p ma mb mc, .Compare a [op1, op2] [b, d] _ => decide (op1 = o.op) && decide (op2 = p.op) && !(lastMarks [op1, op2] [b, d]) && r.e c a ma && r.e c b mb && r.e c d mc
  | .and ma mb, .BoolOp .And es _ => ckAnd (r.e c) es (.and ma mb)
  | .or ma mb, .BoolOp .Or es _ => ckOr (r.e c) es (.or ma mb)
  | .ife mt ma mb, .IfExp t a b _ => r.t c t mt && r.e c a ma && r.e c b mb
  | .tup ms, .Tuple es _ _ => ckL (r.e c) es ms
  | .lst ms, .List es _ => ckL (r.e c) es ms
  | .clst ms, .List es _ => ckL (r.e c) es ms
  | .sl ma ml mh, .Subscript a (.Slice lo hi none _) _ => r.e c a ma && ckO (r.e c) lo ml && ckO (r.e c) hi mh
  | .rev ma, .Subscript a (.Slice none none (some (.UnaryOp .USub (.Constant (.int 1) _ _) _)) _) _ => r.e c a ma
  | .ix ma mb, .Subscript a b _ => !isSlice b && r.e c a ma && r.e c b mb
  | .fld ma g, .Attribute a f _ => decide (f = g) && !isCallN a && r.e c a ma
  | .comp _ melt mt ik mits mifs own, .ListComp elt [⟨tg, iter, ifs, 0⟩] scope _ => ckComp r c melt mt ik mits mifs own elt tg iter ifs scope
  | .call j ms, .Call (.Name x _) es [] _ => c.gl x && okN x && c.cc.fns.contains (x, j, es.length) && ckL (r.e c) es ms
  | .callk j ms mks pm, .Call (.Name x _) es kws _ => c.gl x && okN x && c.cc.kws.contains (x, j, es.length, kws.filterMap (·.arg), pm) && kws.all (fun k => k.arg.isSome) && ckL (r.e c) es ms && all2 (fun k m => r.e c k.value m) kws mks
  | .mk C ms, .Call (.Name x _) (e :: es) [] _ => c.gl x && okN x && c.cc.cls.contains (x, C, es.length + 1) && ckL (r.e c) (e :: es) ms
  | .bi b ms, .Call (.Name x _) es [] _ => ckBi r c b ms x es
  | .me m ma ms, .Call (.Attribute a nm apos) es [] pos => ckMe r c m ma ms a nm es apos pos
  | .meth ma m ms, .Call (.Attribute a nm apos) es [] pos => decide (m = nm) && !isCallN a && apos.endLine == pos.line && decide (es.length < 30) && r.e c a ma && ckL (r.e c) es ms
  | .prop ma f, .Attribute a g _ => decide (f = g) && !isCallN a && r.e c a ma
  | .isi ma C, .Call (.Name x _) [a, .Name y _] [] _ => c.bl x && x == Str.ofString "isinstance" && c.gl y && c.cc.gls.contains (y, 500 + C) && okN y && !isStar a && r.e c a ma
  | .star true ms ss, .Tuple es _ _ => ckX (r.e c) es ms ss
  | .star false ms ss, .List es _ => ckX (r.e c) es ms ss
  | .calld j ms dv, .Call (.Name x _) (e :: es) [] _ => (match intsD dv with
    | some ns => c.gl x && okN x && c.cc.dfs.contains (x, j, es.length + 1, ns) && ckL (r.e c) (e :: es) ms
    | none => false)
  | .compS _ melt mt mit own, .ListComp elt [⟨.Name y q, .Call (.Name z _) [.Starred it _] [] _, [], 0⟩] scope _ => ckCompS r c melt mt mit own elt (.Name y q) it z scope
  | _, _ => false
def ckT (r : Rc) (c : Cs) (e : Expr) (m : Ee) : Bool := match m, e with
  | .not ma, .UnaryOp .Not a _ => r.t c a ma
  | .and ma mb, .BoolOp .And es _ => ckAnd (r.t c) es (.and ma mb)
  | .or ma mb, .BoolOp .Or es _ => ckOr (r.t c) es (.or ma mb)
  | .ife mt ma mb, .IfExp t a b _ => r.t c t mt && r.t c a ma && r.t c b mb
  | .cmp o ma mb, .Compare a [op] [b] _ => decide (op = o.op) && !(behindInMarks op b) && r.e c a ma && r.e c b mb
  | .cmp2 o p ma mb mc, .Compare a [op1, op2] [b, d] _ => decide (op1 = o.op) && decide (op2 = p.op) && !(lastMarks [op1, op2] [b, d]) && r.e c a ma && r.e c b mb && r.e c d mc
  | m, e => plainT e && r.e c e m
def rc : Nat → Rc
  | 0 => ⟨fun _ _ _ => false, fun _ _ _ => false⟩
  | n + 1 => ⟨ckE (rc n), ckT (rc n)⟩
theorem XOk.wz {CX : CXT} {G : Gx} {Γ : Tb} {c : Cc} {E : XK} {lv : Nat} {X : Cx} {sc : Scope} {stb : Str → Bool} (o : XOk CX G Γ c E lv X sc stb) (z : List Addr) : XOk CX (G.wz z) Γ c E lv X sc stb :=
  ⟨o.K, o.N, o.nd, o.sc, o.calm, o.room, o.gd, o.blt, o.fns, o.kws, o.gls, o.cls, o.at_, o.W, o.dfs, fun C m F h => let q := o.mt C m F h; ⟨q.cl, q.ex⟩, fun C f F h => let q := o.pr C f F h; ⟨q.cl, q.ex⟩, o.isc, o.isb, o.passN, o.pass, o.passB, o.st⟩
theorem XOk.blk {CX : CXT} {G : Gx} {Γ : Tb} {c : Cc} {E : XK} {lv : Nat} {X : Cx} {sc : Scope} {stb : Str → Bool} (o : XOk CX G Γ c E lv X sc stb) (scope : Scope) (s : Shared) (H : Hp) (C : Addr) (cl : List (Str × Addr)) (fp : List Addr) :
    XOk CX G Γ c E0 lv (X.blk s H scope (compEnvC scope cl C X.env) fp) (relS scope sc) (stbB scope sc) := by
  have hsc : (X.blk s H scope (compEnvC scope cl C X.env) fp).env.scope = relS scope sc := by
    show relS scope X.env.scope = relS scope sc
    rw [o.sc]
  refine ⟨o.K, o.N, o.nd, hsc, o.calm, o.room, o.gd, o.blt, o.fns, o.kws, o.gls, o.cls, o.at_, o.W, o.dfs, fun C m F h => let q := o.mt C m F h; ⟨q.cl, q.ex⟩, fun C f F h => let q := o.pr C f F h; ⟨q.cl, q.ex⟩, o.isc, o.isb, o.passB _ rfl rfl, o.passB _ rfl rfl, fun X' h1 h2 => o.passB X' h1 h2, fun x h => ?_⟩
  rw [hsc]
  unfold stbB at h
  split at h
  · rename_i hl
    exact ⟨.inl hl, .inr hl⟩
  · rename_i hl
    exact ⟨.inr hl, .inl h⟩
  · cases h
section
variable {CX : CXT} {G : Gx} {Γ : Tb} {E : XK} {lv : Nat} {X : Cx} {c : Cs}
theorem XOk.glo (o : XOk CX G Γ c.cc E lv X c.sc c.stb) {x : Str} (h : c.gl x = true) : Gl X x := by
  show X.env.scope.names.lookup x = _
  rw [o.sc]
  unfold Cs.gl at h
  split at h
  · assumption
  · cases h
theorem XOk.visi (o : XOk CX G Γ c.cc E lv X c.sc c.stb) {x : Str} (h : c.vis x = true) : Vis X.env.scope x := by
  rw [o.sc]
  unfold Cs.vis at h
  split at h
  · rename_i hl
    exact .inl hl
  · rename_i hl
    exact .inr (.inl hl)
  · rename_i hl
    exact .inr (.inr hl)
  · cases h
theorem XOk.bli (o : XOk CX G Γ c.cc E lv X c.sc c.stb) {x : Str} (h : c.bl x = true) : Gl X x ∧ X.mg x = none := by
  unfold Cs.bl at h
  rw [Bool.and_eq_true] at h
  exact ⟨o.glo h.1, o.blt x (by simpa using h.2)⟩
theorem okN_ok {x : Str} (h : okN x = true) : (x == ("__debug__" : Str)) = false ∧ (x == ("__classdict__" : Str)) = false := by
  unfold okN at h
  rw [Bool.and_eq_true] at h
  exact ⟨by simpa using h.1, by simpa using h.2⟩
def RcOk (r : Rc) : Prop := ∀ (CX : CXT) (G : Gx) (Γ : Tb) (c : Cs) (E : XK) (lv : Nat) (X : Cx), XOk CX G Γ c.cc E lv X c.sc c.stb → (∀ e m, r.e c e m = true → PEm G E Γ X e m) ∧ ∀ e m, r.t c e m = true → PTm G E Γ X e m
theorem ckL_ok {f : Expr → Ee → Bool} (h : ∀ e m, f e m = true → PEm G E Γ X e m) : ∀ {es : List Expr} {ms : List Ee}, ckL f es ms = true → PAm G E Γ X es ms ∧ es.length = ms.length ∧ es.all (fun e => !isStar e) = true
  | [], [], _ => ⟨am_nil, rfl, rfl⟩
  | [], _ :: _, k => by simp [ckL, all2] at k
  | _ :: _, [], k => by simp [ckL, all2] at k
  | e :: es, m :: ms, k => by
    unfold ckL all2 at k
    rw [List.all_cons] at k
    simp only [Bool.and_eq_true] at k
    obtain ⟨i1, i2, i3⟩ := ckL_ok h (es := es) (ms := ms) (by unfold ckL; rw [Bool.and_eq_true]; exact ⟨k.1.2, k.2.2⟩)
    refine ⟨am_cons (by simpa using k.1.1) (h e m k.2.1) i1, by rw [List.length_cons, List.length_cons, i2], ?_⟩
    rw [List.all_cons, Bool.and_eq_true]
    exact ⟨k.1.1, i3⟩
theorem ckO_ok {f : Expr → Ee → Bool} (h : ∀ e m, f e m = true → PEm G E Γ X e m) : ∀ {e : Option Expr} {m : Ee}, ckO f e m = true → POm G E Γ X e m
  | none, m, k => by
    cases m <;> first | exact om_none | cases k
  | some e, m, k => by
    have k : ((match m with
      | .no => false
      | _ => true) && f e m) = true := by
      cases m <;> exact k
    rw [Bool.and_eq_true] at k
    refine om_some (fun r μ => ?_) (h e m k.2)
    cases m <;> first | rfl | (have := k.1; cases this)
theorem ckAnd_okE (hK : X.K = G.K) {f : Expr → Ee → Bool} {pos : Pos} (h : ∀ e m, f e m = true → PEm G E Γ X e m) : ∀ {es : List Expr} {m : Ee}, ckAnd f es m = true → PEm G E Γ X (.BoolOp .And es pos) m
  | [], _, k => by simp [ckAnd] at k
  | [b], m, k => pe_one (h b m (by simpa [ckAnd] using k))
  | a :: b :: r, m, k => by
    cases m <;> first
      | (simp [ckAnd] at k; done)
      | (simp only [ckAnd, Bool.and_eq_true] at k; exact pm_and hK (h _ _ k.1) (ckAnd_okE hK h k.2))
theorem ckOr_okE (hK : X.K = G.K) {f : Expr → Ee → Bool} {pos : Pos} (h : ∀ e m, f e m = true → PEm G E Γ X e m) : ∀ {es : List Expr} {m : Ee}, ckOr f es m = true → PEm G E Γ X (.BoolOp .Or es pos) m
  | [], _, k => by simp [ckOr] at k
  | [b], m, k => pe_one (h b m (by simpa [ckOr] using k))
  | a :: b :: r, m, k => by
    cases m <;> first
      | (simp [ckOr] at k; done)
      | (simp only [ckOr, Bool.and_eq_true] at k; exact pm_or hK (h _ _ k.1) (ckOr_okE hK h k.2))
theorem ckAnd_okT {f : Expr → Ee → Bool} {pos : Pos} (h : ∀ e m, f e m = true → PTm G E Γ X e m) : ∀ {es : List Expr} {m : Ee}, ckAnd f es m = true → PW X (.BoolOp .And es pos) (TBv G E (evT Γ m))
  | [], _, k => by simp [ckAnd] at k
  | [b], m, k => pw_and1 (h b m (by simpa [ckAnd] using k))
  | a :: b :: r, m, k => by
    cases m <;> first
      | (simp [ckAnd] at k; done)
      | (simp only [ckAnd, Bool.and_eq_true] at k; exact tm_and (h _ _ k.1) (ckAnd_okT h k.2))
theorem ckOr_okT {f : Expr → Ee → Bool} {pos : Pos} (h : ∀ e m, f e m = true → PTm G E Γ X e m) : ∀ {es : List Expr} {m : Ee}, ckOr f es m = true → PW X (.BoolOp .Or es pos) (TBv G E (evT Γ m))
  | [], _, k => by simp [ckOr] at k
  | [b], m, k => pw_or1 (h b m (by simpa [ckOr] using k))
  | a :: b :: r, m, k => by
    cases m <;> first
      | (simp [ckOr] at k; done)
      | (simp only [ckOr, Bool.and_eq_true] at k; exact tm_or (h _ _ k.1) (ckOr_okT h k.2))
theorem boot_all : (["len", "abs", "all", "any", "sum", "max", "min", "divmod", "repr", "sorted"].all fun n => decide (bootBuiltins (Str.ofString n) = some (.builtin n))) = true := by decide +kernel
theorem boot_allT : (["int", "bool", "tuple", "list", "dict", "str"].all fun n => decide (bootBuiltins (Str.ofString n) = some (.type n))) = true := by decide +kernel
theorem boot_b {n : String} (h : n ∈ ["len", "abs", "all", "any", "sum", "max", "min", "divmod", "repr", "sorted"]) : bootBuiltins (Str.ofString n) = some (.builtin n) := of_decide_eq_true (List.all_eq_true.mp boot_all n h)
theorem boot_t {n : String} (h : n ∈ ["int", "bool", "tuple", "list", "dict", "str"]) : bootBuiltins (Str.ofString n) = some (.type n) := of_decide_eq_true (List.all_eq_true.mp boot_allT n h)
theorem name_ne : (["len", "abs", "all", "any", "sum", "max", "min", "divmod", "repr", "sorted", "int", "bool", "tuple", "list", "dict", "str", "isinstance"].all fun n => !(Str.ofString n == ("__name__" : Str)) && !(Str.ofString n == ("__debug__" : Str))) = true := by decide +kernel
theorem nn {n : String} (h : n ∈ ["len", "abs", "all", "any", "sum", "max", "min", "divmod", "repr", "sorted", "int", "bool", "tuple", "list", "dict", "str", "isinstance"]) : Str.ofString n ≠ ("__name__" : Str) ∧ (Str.ofString n == ("__debug__" : Str)) = false := by
  have := List.all_eq_true.mp name_ne n h
  rw [Bool.and_eq_true] at this
  refine ⟨fun e => ?_, by simpa using this.2⟩
  have h1 := this.1
  rw [e] at h1
  revert h1
  decide +kernel
def BiOk (G : Gx) (E : XK) (X : Cx) (b : BI) (n : String) : Prop := n ∈ ["len", "abs", "all", "any", "sum", "max", "min", "divmod", "repr", "sorted", "int", "bool", "tuple", "list", "dict", "str", "isinstance"] ∧
  ((∃ r, CallR X (.builtin n) r ∧ CSim G E r (biD b) ∧ bootBuiltins (Str.ofString n) = some (.builtin n)) ∨ ∃ r, CallR X (.type n) r ∧ CSim G E r (biD b) ∧ bootBuiltins (Str.ofString n) = some (.type n))
theorem bi_ok (hK : X.K = G.K) (hc : X.calm = true) (gd : X.A.guards = some []) (hu : X.A.units + 65 < cLine) {b : BI} {n : String} {k : Nat} (h : biName b = some (n, k)) : BiOk G E X b n := by
  cases b <;> first | (cases h; done) | skip
  all_goals (cases h; refine ⟨by decide, ?_⟩)
  · exact .inl ⟨_, by rw [← hK]; exact or_len, sim_len, boot_b (by decide)⟩
  · exact .inl ⟨_, call_abs, sim_abs, boot_b (by decide)⟩
  · exact .inl ⟨_, by rw [← hK]; exact cr_all hc, sim_all, boot_b (by decide)⟩
  · exact .inl ⟨_, by rw [← hK]; exact cr_any hc, sim_any, boot_b (by decide)⟩
  · exact .inr ⟨_, call_int1, sim_int1, boot_t (by decide)⟩
  · exact .inr ⟨_, by rw [← hK]; exact call_tuple_of, sim_tupOf, boot_t (by decide)⟩
  · exact .inr ⟨_, by rw [← hK]; exact call_list_of, sim_lstOf, boot_t (by decide)⟩
  · exact .inl ⟨_, call_max2 hc, sim_max2, boot_b (by decide)⟩
  · exact .inl ⟨_, call_min2 hc, sim_min2, boot_b (by decide)⟩
  · exact .inl ⟨_, by rw [← hK]; exact cr_max hc, sim_maxl, boot_b (by decide)⟩
  · exact .inl ⟨_, by rw [← hK]; exact cr_min hc, sim_minl, boot_b (by decide)⟩
  · exact .inl ⟨_, by rw [← hK]; exact cr_sumA hc, sim_sum, boot_b (by decide)⟩
  · exact .inl ⟨_, call_divmod, sim_divmod, boot_b (by decide)⟩
  · exact .inl ⟨_, by rw [← hK]; exact cr_sortD hu, sim_sorted, boot_b (by decide)⟩
  · exact .inr ⟨_, by rw [← hK]; exact call_dictP hc, sim_dict, boot_t (by decide)⟩
  · exact .inr ⟨_, call_bool1, sim_bool1, boot_t (by decide)⟩
  · exact .inl ⟨_, by rw [← hK]; exact cr_show gd hu, sim_repr, boot_b (by decide)⟩
  · exact .inr ⟨_, by rw [← hK]; exact call_list_of, sim_clstOf, boot_t (by decide)⟩
end
end T
namespace T
open PySem PySem.Spec PyProof.Rows L2
theorem bt {a b : Bool} (h : (a && b) = true) : a = true ∧ b = true := by
  rw [Bool.and_eq_true] at h
  exact h
theorem nt {a : Bool} (h : (!a) = true) : a = false := by simpa using h
section
variable {CX : CXT} {G : Gx} {Γ : Tb} {E : XK} {lv : Nat} {X : Cx} {c : Cs} {r : Rc}
theorem ckBi_ok (o : XOk CX G Γ c.cc E lv X c.sc c.stb) (h : ∀ e m, r.e c e m = true → PEm G E Γ X e m) {b : BI} {ms : List Ee} {x : Str} {es : List Expr} {pp pos : Pos} (k : ckBi r c b ms x es = true) : PEm G E Γ X (.Call (.Name x pp) es [] pos) (.bi b ms) := by
  unfold ckBi at k
  split at k
  · rename_i T a y py ma
    obtain ⟨k, k7⟩ := bt k
    obtain ⟨k, k6⟩ := bt k
    obtain ⟨k, k5⟩ := bt k
    obtain ⟨k, k4⟩ := bt k
    obtain ⟨k, k3⟩ := bt k
    obtain ⟨k1, k2⟩ := bt k
    have e2 : x = Str.ofString "isinstance" := by simpa using k2
    have e4 : y = Str.ofString T := by simpa using k4
    have k3 : T ∈ tyN := by simpa using k3
    subst e2 e4
    have hT : T ∈ tyS := (by decide : ∀ z ∈ tyN, z ∈ tyS) T k3
    have hT2 : T ∈ ["int", "bool", "tuple", "list", "dict", "str"] := (by decide : ∀ z ∈ tyN, z ∈ ["int", "bool", "tuple", "list", "dict", "str"]) T k3
    have hT3 : T ∈ ["len", "abs", "all", "any", "sum", "max", "min", "divmod", "repr", "sorted", "int", "bool", "tuple", "list", "dict", "str", "isinstance"] := (by decide : ∀ z ∈ tyN, z ∈ ["len", "abs", "all", "any", "sum", "max", "min", "divmod", "repr", "sorted", "int", "bool", "tuple", "list", "dict", "str", "isinstance"]) T k3
    exact pm_isty o.K hT (o.bli k1).1 (o.bli k1).2 (by decide +kernel) (nn (by decide)).1 (nn (by decide)).2 (o.bli k5).1 (o.bli k5).2 (boot_t hT2) (nn hT3).1 (nn hT3).2 (nt k6) (h _ _ k7)
  · rename_i y py a pa ma
    obtain ⟨k, k6⟩ := bt k
    obtain ⟨k, k5⟩ := bt k
    obtain ⟨k, k4⟩ := bt k
    obtain ⟨k, k3⟩ := bt k
    obtain ⟨k1, k2⟩ := bt k
    have e2 : x = Str.ofString "list" := by simpa using k2
    have e4 : y = Str.ofString "range" := by simpa using k4
    subst e2 e4
    exact pm_range1 (x := "list") (y := "range") o.calm (o.bli k1).1 (o.bli k1).2 (o.bli k3).1 (o.bli k3).2 (nt k5) (h _ _ k6)
  · rename_i y py a pa ma
    obtain ⟨k, k6⟩ := bt k
    obtain ⟨k, k5⟩ := bt k
    obtain ⟨k, k4⟩ := bt k
    obtain ⟨k, k3⟩ := bt k
    obtain ⟨k1, k2⟩ := bt k
    have e2 : x = Str.ofString "list" := by simpa using k2
    have e4 : y = Str.ofString "range" := by simpa using k4
    subst e2 e4
    exact pm_crange1 (x := "list") (y := "range") o.calm (o.bli k1).1 (o.bli k1).2 (o.bli k3).1 (o.bli k3).2 (nt k5) (h _ _ k6)
  · rename_i y py a pa ma
    obtain ⟨k, k6⟩ := bt k
    obtain ⟨k, k5⟩ := bt k
    obtain ⟨k, k4⟩ := bt k
    obtain ⟨k, k3⟩ := bt k
    obtain ⟨k1, k2⟩ := bt k
    have e2 : x = Str.ofString "len" := by simpa using k2
    have e4 : y = Str.ofString "set" := by simpa using k4
    subst e2 e4
    exact pm_lenset o.K o.calm (o.bli k1).1 (o.bli k1).2 (o.bli k3).1 (o.bli k3).2 (nt k5) (h _ _ k6)
  · rename_i e es _ _ _ _
    cases hb : biName b with
    | none =>
      rw [hb] at k
      cases k
    | some q =>
      obtain ⟨n, ar⟩ := q
      simp only [hb] at k
      obtain ⟨k, k3⟩ := bt k
      obtain ⟨k1, k2⟩ := bt k
      have e2 : x = Str.ofString n := by simpa using k2
      subst e2
      obtain ⟨i1, i2, i3⟩ := ckL_ok h k3
      obtain ⟨hn, hr⟩ := bi_ok (E := E) o.K o.calm o.gd o.hu hb
      rcases hr with ⟨r', g1, g2, g3⟩ | ⟨r', g1, g2, g3⟩
      · exact pm_callB g1 g2 (o.bli k1).1 (o.bli k1).2 g3 (nn hn).1 (nn hn).2 i3 i1
      · exact pm_callT g1 g2 (o.bli k1).1 (o.bli k1).2 g3 (nn hn).1 (nn hn).2 i3 i1
  · cases k
theorem ckMe_ok (o : XOk CX G Γ c.cc E lv X c.sc c.stb) (h : ∀ e m, r.e c e m = true → PEm G E Γ X e m) {m : ME} {ma : Ee} {ms : List Ee} {a : Expr} {nm : Str} {es : List Expr} {apos pos : Pos} (k : ckMe r c m ma ms a nm es apos pos = true) :
    PEm G E Γ X (.Call (.Attribute a nm apos) es [] pos) (.me m ma ms) := by
  unfold ckMe at k
  obtain ⟨k, kk⟩ := bt k
  obtain ⟨k, k3⟩ := bt k
  obtain ⟨k1, k2⟩ := bt k
  have hcn := nt k1
  have ha := h _ _ k3
  split at kk
  · rename_i b mb
    obtain ⟨g, g3⟩ := bt kk
    obtain ⟨g1, g2⟩ := bt g
    have e1 : nm = Str.ofString "get" := by simpa using g1
    subst e1
    exact pm_get1 o.K o.W (by have := o.room.un; omega) hcn (nt g2) k2 ha (h _ _ g3)
  · cases m <;> first
      | (simp [meName] at kk; done)
      | skip
    have e1 : nm = Str.ofString "pop" := by simpa [meName] using kk
    subst e1
    exact pm_me0 o.K F.plainAttrs_list F.slot_list_pop F.type_list_pop mt_pop ms_pop0 hcn k2 ha
  · rename_i e _
    have key : ∀ (n : String) (q : (nm == Str.ofString n && ckL (r.e c) [e] ms) = true), nm = Str.ofString n ∧ PAm G E Γ X [e] ms ∧ ([e] : List Expr).all (fun e => !isStar e) = true := fun n q => by
      obtain ⟨q1, q2⟩ := bt q
      obtain ⟨i1, i2, i3⟩ := ckL_ok h q2
      exact ⟨by simpa using q1, i1, i3⟩
    cases m <;> first
      | (simp [meName] at kk; done)
      | skip
    · obtain ⟨e1, i1, i3⟩ := key "append" kk
      subst e1
      exact pm_me o.K F.plainAttrs_list F.slot_list_append F.type_list_append mt_append ms_append hcn k2 i3 (by show 1 < 30; decide) ha i1
    · obtain ⟨e1, i1, i3⟩ := key "pop" kk
      subst e1
      exact pm_me o.K F.plainAttrs_list F.slot_list_pop F.type_list_pop mt_popAt ms_pop hcn k2 i3 (by show 1 < 30; decide) ha i1
    · obtain ⟨e1, i1, i3⟩ := key "index" kk
      subst e1
      have hm := mt_indexD (X := X) o.hu
      rw [o.K] at hm
      exact pm_me o.K F.plainAttrs_list F.slot_list_index F.type_list_index hm ms_index hcn k2 i3 (by show 1 < 30; decide) ha i1
    · obtain ⟨e1, i1, i3⟩ := key "split" kk
      subst e1
      exact pm_me o.K F.plainAttrs_str F.slot_str_split F.type_str_split mt_split ms_split hcn k2 i3 (by show 1 < 30; decide) ha i1
    · obtain ⟨e1, i1, i3⟩ := key "join" kk
      subst e1
      have hm := mt_join (X := X)
      rw [o.K] at hm
      exact pm_me o.K F.plainAttrs_str F.slot_str_join F.type_str_join hm ms_join hcn k2 i3 (by show 1 < 30; decide) ha i1
    · obtain ⟨e1, i1, i3⟩ := key "partition" kk
      subst e1
      exact pm_me o.K F.plainAttrs_str F.slot_str_partition F.type_str_partition mt_partition ms_partition hcn k2 i3 (by show 1 < 30; decide) ha i1
  · cases kk
theorem all2_pgs (hK : X.K = G.K) {f : Expr → Tg → Bool} (h : ∀ e t, f e t = true → PG X e (gTg G.K t)) : ∀ {es : List Expr} {ts : List Tg}, es.all (fun e => !isStar e) = true → all2 f es ts = true → PGs X es (gTgs G.K ts) ∧ es.length = ts.length
  | [], [], _, _ => ⟨gm_nil, rfl⟩
  | [], _ :: _, _, k => by simp [all2] at k
  | _ :: _, [], _, k => by simp [all2] at k
  | e :: es, t :: ts, hs, k => by
    rw [List.all_cons] at hs
    obtain ⟨h1, h2⟩ := bt hs
    obtain ⟨k1, k2⟩ := bt (show (f e t && all2 f es ts) = true from k)
    obtain ⟨i1, i2⟩ := all2_pgs hK h h2 k2
    exact ⟨gm_cons (by simpa using h1) (h e t k1) i1, by rw [List.length_cons, List.length_cons, i2]⟩
theorem ckTg_ok (o : XOk CX G Γ c.cc E lv X c.sc c.stb) : ∀ (n : Nat) (e : Expr) (t : Tg), ckTg c n e t = true → PG X e (gTg G.K t)
  | 0, _, _, k => by simp [ckTg] at k
  | n + 1, e, t, k => by
    unfold ckTg at k
    split at k
    · cases ‹n + 1 = 0›
    · exact gm_bad
    · rename_i x p i
      obtain ⟨k1, k2⟩ := bt k
      have k1 := of_decide_eq_true k1
      exact pg_name (by rw [o.N]; exact o.nd) (by rw [o.N]; exact k1) (o.st _ k2).1 (o.st _ k2).2
    · rename_i n' es _ _ ts heq
      cases heq
      obtain ⟨k1, k2⟩ := bt k
      obtain ⟨i1, i2⟩ := all2_pgs o.K (ckTg_ok o n) k1 k2
      exact gm_tup o.K o.calm k1 i2 i1
    · cases k
theorem tup_ex {e : Expr} (h : isTup e = true) : ∃ es k p, e = .Tuple es k p := by
  cases e <;> first | exact ⟨_, _, _, rfl⟩ | cases h
theorem ckIt_ok (o : XOk CX G Γ c.cc E lv X c.sc c.stb) (h : ∀ e m, r.e c e m = true → PEm G E Γ X e m) {tg it : Expr} {ik : IK} {ms : List Ee} (k : ckIt r c tg it ik ms = true) : PIm G E Γ X tg it ik ms := by
  unfold ckIt at k
  split at k
  · exact im_plain o.K (h _ _ k)
  · rename_i x p a pos m
    obtain ⟨k, k5⟩ := bt k
    obtain ⟨k, k4⟩ := bt k
    obtain ⟨k, k3⟩ := bt k
    obtain ⟨k1, k2⟩ := bt k
    have e3 : x = Str.ofString "enumerate" := by simpa using k3
    subst e3
    obtain ⟨es, kk, pt, rfl⟩ := tup_ex k1
    exact im_enum o.K (o.bli k2).1 (o.bli k2).2 (nt k4) (am_cons (nt k4) (h _ _ k5) am_nil)
  · rename_i x p a b pos m m2
    obtain ⟨k, k7⟩ := bt k
    obtain ⟨k, k6⟩ := bt k
    obtain ⟨k, k5⟩ := bt k
    obtain ⟨k, k4⟩ := bt k
    obtain ⟨k, k3⟩ := bt k
    obtain ⟨k1, k2⟩ := bt k
    have e3 : x = Str.ofString "zip" := by simpa using k3
    subst e3
    obtain ⟨es, kk, pt, rfl⟩ := tup_ex k1
    exact im_zip o.K (o.bli k2).1 (o.bli k2).2 (nt k4) (nt k5) (am_cons (nt k4) (h _ _ k6) (am_cons (nt k5) (h _ _ k7) am_nil))
  · rename_i x p a pos m
    obtain ⟨k, k4⟩ := bt k
    obtain ⟨k, k3⟩ := bt k
    obtain ⟨k1, k2⟩ := bt k
    have e3 : x = Str.ofString "range" := by simpa using k2
    subst e3
    exact im_range1 (o.bli k1).1 (o.bli k1).2 (nt k3) (am_cons (nt k3) (h _ _ k4) am_nil)
  · rename_i x p a b pos m m2
    obtain ⟨k, k6⟩ := bt k
    obtain ⟨k, k5⟩ := bt k
    obtain ⟨k, k4⟩ := bt k
    obtain ⟨k, k3⟩ := bt k
    obtain ⟨k1, k2⟩ := bt k
    have e3 : x = Str.ofString "range" := by simpa using k2
    subst e3
    exact im_range2 (o.bli k1).1 (o.bli k1).2 (nt k3) (nt k4) (am_cons (nt k3) (h _ _ k5) (am_cons (nt k4) (h _ _ k6) am_nil))
  · cases k
theorem ckIfs_ok {f : Expr → Ee → Bool} (h : ∀ e m, f e m = true → PTm G E Γ X e m) {es : List Expr} {ms : List Ee} (k : ckIfs f es ms = true) : PTs X es (TX G (fun _ _ b a => b = a) E (evIfs Γ ms)) := by
  unfold ckIfs at k
  split at k
  · exact pts_m0
  · exact pts_m1 (h _ _ k)
  · cases k
structure CompOk (CX : CXT) (G : Gx) (Γ : Tb) (E : XK) (X : Cx) (melt : Ee) (mt : Tg) (ik : IK) (mits mifs : List Ee) (own : List (Str × Nat)) (elt tg iter : Expr) (ifs : List Expr) (scope : Scope) : Prop where
  ok : BlkOk X.N X.env.scope scope own
  hin : tgIn (own.map (·.2)) mt = true
  hi : PIm G E Γ X tg iter ik mits
  hg : ∀ (s : Shared) (H : Hp) (C : Addr) (cl : List (Str × Addr)) (fp : List Addr), PG (X.blk s H scope (compEnvC scope cl C X.env) fp) tg (gTg G.K mt)
  ht : ∀ z (s : Shared) (H : Hp) (C : Addr) (cl : List (Str × Addr)) (fp : List Addr), PTs (X.blk s H scope (compEnvC scope cl C X.env) fp) ifs (TX (G.wz z) (fun _ _ b a => b = a) E0 (evIfs Γ mifs))
  he : ∀ z (s : Shared) (H : Hp) (C : Addr) (cl : List (Str × Addr)) (fp : List Addr), PEm (G.wz z) E0 Γ (X.blk s H scope (compEnvC scope cl C X.env) fp) elt melt
  hs : isSet iter = false
theorem ckComp_ok (hr : RcOk r) (o : XOk CX G Γ c.cc E lv X c.sc c.stb) {melt : Ee} {mt : Tg} {ik : IK} {mits mifs : List Ee} {own : List Nat} {elt tg iter : Expr} {ifs : List Expr} {scope : Scope} (k : ckComp r c melt mt ik mits mifs own elt tg iter ifs scope = true) :
    ∃ ow : List (Str × Nat), ow.map (·.2) = own ∧ CompOk CX G Γ E X melt mt ik mits mifs ow elt tg iter ifs scope := by
  unfold ckComp at k
  simp only at k
  obtain ⟨k, k8⟩ := bt k
  obtain ⟨k, k7⟩ := bt k
  obtain ⟨k, k6⟩ := bt k
  obtain ⟨k, k5⟩ := bt k
  obtain ⟨k, k4⟩ := bt k
  obtain ⟨k, k3⟩ := bt k
  obtain ⟨k1, k2⟩ := bt k
  have k2 := of_decide_eq_true k2
  generalize (own.filterMap fun i => (c.cc.N[i]?).map fun x => (x, i)) = ow at k1 k2
  have ob : ∀ (s : Shared) (H : Hp) (C : Addr) (cl : List (Str × Addr)) (fp : List Addr), XOk CX G Γ (c.blk scope).cc E0 lv (X.blk s H scope (compEnvC scope cl C X.env) fp) (c.blk scope).sc (c.blk scope).stb := fun s H C cl fp => o.blk scope s H C cl fp
  refine ⟨ow, k2, ⟨?_, by rw [k2]; exact k3, ckIt_ok o (hr CX G Γ c E lv X o).1 k4, fun s H C cl fp => ckTg_ok (ob s H C cl fp) 10 _ _ k6, fun z s H C cl fp => ckIfs_ok ((hr CX (G.wz z) Γ (c.blk scope) E0 lv _ ((ob s H C cl fp).wz z)).2) k7, fun z s H C cl fp => (hr CX (G.wz z) Γ (c.blk scope) E0 lv _ ((ob s H C cl fp).wz z)).1 _ _ k8, nt k5⟩⟩
  rw [o.N, o.sc]
  exact blkOk_by k1
theorem ckK_ok {f : Expr → Ee → Bool} (h : ∀ e m, f e m = true → PEm G E Γ X e m) : ∀ {kws : List Keyword} {ms : List Ee}, all2 (fun k m => f k.value m) kws ms = true → PKm G E Γ X kws ms ∧ kws.length = ms.length
  | [], [], _ => ⟨km_nil, rfl⟩
  | [], _ :: _, k => by simp [all2] at k
  | _ :: _, [], k => by simp [all2] at k
  | ⟨nm, e, p⟩ :: kws, m :: ms, k => by
    obtain ⟨k1, k2⟩ := bt (show (f e m && all2 (fun k m => f k.value m) kws ms) = true from k)
    obtain ⟨i1, i2⟩ := ckK_ok h k2
    exact ⟨km_cons (h e m k1) i1, by rw [List.length_cons, List.length_cons, i2]⟩
theorem fm_len : ∀ {kws : List Keyword}, kws.all (fun k => k.arg.isSome) = true → (kws.filterMap (·.arg)).length = kws.length
  | [], _ => rfl
  | ⟨nm, e, p⟩ :: kws, h => by
    rw [List.all_cons] at h
    obtain ⟨h1, h2⟩ := bt h
    obtain ⟨nm, rfl⟩ := Option.isSome_iff_exists.mp h1
    show (nm :: kws.filterMap (·.arg)).length = _
    rw [List.length_cons, List.length_cons, fm_len h2]
theorem intsD_eq : ∀ {ds : List D} {ns : List Int}, intsD ds = some ns → ds = ns.map D.int
  | [], ns, h => by
    cases h
    rfl
  | d :: ds, ns, h => by
    cases d with
    | int i =>
      have h : (intsD ds).map (i :: ·) = some ns := h
      obtain ⟨r, h1, rfl⟩ := Option.map_eq_some_iff.mp h
      rw [intsD_eq h1]
      rfl
    | _ => cases h
theorem boot_isi : bootBuiltins (Str.ofString "isinstance") = some (.builtin "isinstance") := by decide +kernel
theorem ckX_ok (hK : X.K = G.K) {f : Expr → Ee → Bool} (h : ∀ e m, f e m = true → PEm G E Γ X e m) : ∀ {es : List Expr} {ms : List Ee} {ss : List Bool}, ckX f es ms ss = true → PXm G E Γ X es ms ss
  | es, ms, ss, k => by
    unfold ckX at k
    split at k
    · exact xm_nil
    · obtain ⟨k1, k2⟩ := bt k
      exact xm_star hK (h _ _ k1) (ckX_ok hK h k2)
    · obtain ⟨k, k2⟩ := bt k
      obtain ⟨k0, k1⟩ := bt k
      exact xm_cons (nt k0) (h _ _ k1) (ckX_ok hK h k2)
    · cases k
theorem ckCompS_ok (hr : RcOk r) (o : XOk CX G Γ c.cc E lv X c.sc c.stb) {melt mit : Ee} {mt : Tg} {own : List Nat} {elt tg it : Expr} {z : Str} {scope : Scope} (k : ckCompS r c melt mt mit own elt tg it z scope = true) :
    ∃ ow : List (Str × Nat), ow.map (·.2) = own ∧ BlkOk X.N X.env.scope scope ow ∧ tgIn (ow.map (·.2)) mt = true ∧ c.bl z = true ∧ (z = Str.ofString "zip" ∧ True) ∧ PEm G E Γ X it mit ∧
      (∀ (s : Shared) (H : Hp) (C : Addr) (cl : List (Str × Addr)) (fp : List Addr), PG (X.blk s H scope (compEnvC scope cl C X.env) fp) tg (gTg G.K mt)) ∧
      ∀ z (s : Shared) (H : Hp) (C : Addr) (cl : List (Str × Addr)) (fp : List Addr), PEm (G.wz z) E0 Γ (X.blk s H scope (compEnvC scope cl C X.env) fp) elt melt := by
  unfold ckCompS at k
  simp only at k
  obtain ⟨k, k8⟩ := bt k
  obtain ⟨k, k7⟩ := bt k
  obtain ⟨k, k6⟩ := bt k
  obtain ⟨k, k5⟩ := bt k
  obtain ⟨k, k4⟩ := bt k
  obtain ⟨k, k3⟩ := bt k
  obtain ⟨k1, k2⟩ := bt k
  have k2 := of_decide_eq_true k2
  generalize (own.filterMap fun i => (c.cc.N[i]?).map fun x => (x, i)) = ow at k1 k2
  have ob : ∀ (s : Shared) (H : Hp) (C : Addr) (cl : List (Str × Addr)) (fp : List Addr), XOk CX G Γ (c.blk scope).cc E0 lv (X.blk s H scope (compEnvC scope cl C X.env) fp) (c.blk scope).sc (c.blk scope).stb := fun s H C cl fp => o.blk scope s H C cl fp
  refine ⟨ow, k2, ?_, by rw [k2]; exact k3, k4, ⟨by simpa using k5, trivial⟩, (hr CX G Γ c E lv X o).1 _ _ k6, fun s H C cl fp => ckTg_ok (ob s H C cl fp) 10 _ _ k7, fun z s H C cl fp => (hr CX (G.wz z) Γ (c.blk scope) E0 lv _ ((ob s H C cl fp).wz z)).1 _ _ k8⟩
  rw [o.N, o.sc]
  exact blkOk_by k1
theorem ckE_ok (hr : RcOk r) (o : XOk CX G Γ c.cc E lv X c.sc c.stb) {e : Expr} {m : Ee} (k : ckE r c e m = true) : PEm G E Γ X e m := by
  obtain ⟨he, ht⟩ := hr CX G Γ c E lv X o
  unfold ckE at k
  split at k
  · exact pm_bad
  · rename_i i x p
    obtain ⟨k, k3⟩ := bt k
    obtain ⟨k1, k2⟩ := bt k
    exact pm_v (by rw [o.N]; exact of_decide_eq_true k1) (o.visi k2) (okN_ok k3).1 (okN_ok k3).2
  · rename_i j x p
    obtain ⟨k, k3⟩ := bt k
    obtain ⟨k1, k2⟩ := bt k
    have k2 : (x, j) ∈ c.cc.gls := by simpa using k2
    obtain ⟨u, v, h1, h2, h3⟩ := o.gls _ k2
    exact pm_g (pe_glob (o.glo k1) h1 h2 (okN_ok k3).1) fun ι H => h3 G.z ι H
  · have e1 := of_decide_eq_true k
    subst e1
    exact pm_k pe_int fun _ _ => rfl
  · have e1 := of_decide_eq_true k
    subst e1
    exact pm_k pe_bl fun _ _ => rfl
  · exact pm_k pe_non fun _ _ => rfl
  · have e1 := of_decide_eq_true k
    subst e1
    exact pm_k pe_str fun _ _ => rfl
  · obtain ⟨k, k3⟩ := bt k
    obtain ⟨k1, k2⟩ := bt k
    have e1 := of_decide_eq_true k1
    subst e1
    exact pm_bin o.K (he _ _ k2) (he _ _ k3)
  · obtain ⟨k, k3⟩ := bt k
    obtain ⟨k1, k2⟩ := bt k
    have e1 := of_decide_eq_true k1
    subst e1
    exact pm_cbin o.K (he _ _ k2) (he _ _ k3)
  · exact pm_neg (he _ _ k)
  · exact pm_not o.K (he _ _ k)
  · obtain ⟨k, k4⟩ := bt k
    obtain ⟨k, k3⟩ := bt k
    obtain ⟨k1, k2⟩ := bt k
    have e1 := of_decide_eq_true k1
    subst e1
    exact pm_cmp o.K o.hu (nt k2) (he _ _ k3) (he _ _ k4)
  · obtain ⟨k, k6⟩ := bt k
    obtain ⟨k, k5⟩ := bt k
    obtain ⟨k, k4⟩ := bt k
    obtain ⟨k, k3⟩ := bt k
    obtain ⟨k1, k2⟩ := bt k
    have e1 := of_decide_eq_true k1
    have e2 := of_decide_eq_true k2
    subst e1 e2
    exact pm_cmp2 o.K o.hu (nt k3) (he _ _ k4) (he _ _ k5) (he _ _ k6)
  · exact ckAnd_okE o.K he k
  · exact ckOr_okE o.K he k
  · obtain ⟨k, k3⟩ := bt k
    obtain ⟨k1, k2⟩ := bt k
    exact pm_ife (ht _ _ k1) (he _ _ k2) (he _ _ k3)
  · exact pm_tup (ckL_ok he k).1
  · exact pm_lst (ckL_ok he k).1
  · exact pm_clst (ckL_ok he k).1
  · obtain ⟨k, k3⟩ := bt k
    obtain ⟨k1, k2⟩ := bt k
    exact pm_sl o.K (he _ _ k1) (ckO_ok he k2) (ckO_ok he k3)
  · exact pm_rev o.K (he _ _ k)
  · obtain ⟨k, k3⟩ := bt k
    obtain ⟨k1, k2⟩ := bt k
    exact pm_ix o.K (by have := o.room.un; omega) (nt k1) (he _ _ k2) (he _ _ k3)
  · obtain ⟨k, k3⟩ := bt k
    obtain ⟨k1, k2⟩ := bt k
    have e1 := of_decide_eq_true k1
    subst e1
    exact pm_fld o.K o.at_ (nt k2) (he _ _ k3)
  · obtain ⟨ow, e1, C⟩ := ckComp_ok hr o k
    subst e1
    exact pm_comp o.K o.calm (by rw [o.N]; exact o.nd) C.ok C.hin C.hi C.hg C.ht C.he C.hs
  · rename_i j ms x p es pos
    obtain ⟨k, k4⟩ := bt k
    obtain ⟨k, k3⟩ := bt k
    obtain ⟨k1, k2⟩ := bt k
    have k3 : (x, j, es.length) ∈ c.cc.fns := by simpa using k3
    obtain ⟨f, fd, ps, kk, h1, h2, h3, h4, h5⟩ := o.fns _ k3
    obtain ⟨i1, i2, i3⟩ := ckL_ok he k4
    cases es with
    | nil =>
      cases ms with
      | nil => exact pm_call0 h4 o.gd (o.room.mono h5) (o.glo k1) h1 h2 h3 o.pass (okN_ok k2).1
      | cons _ _ => cases i2
    | cons e es => exact pm_call h4 o.gd (o.room.mono h5) (o.glo k1) h1 h2 h3 o.pass (okN_ok k2).1 i3 rfl i2 i1
  · rename_i j ms mks pm x p es kws pos
    obtain ⟨k, k6⟩ := bt k
    obtain ⟨k, k5⟩ := bt k
    obtain ⟨k, k4⟩ := bt k
    obtain ⟨k, k3⟩ := bt k
    obtain ⟨k1, k2⟩ := bt k
    have k3 : (x, j, es.length, kws.filterMap (·.arg), pm) ∈ c.cc.kws := by simpa using k3
    obtain ⟨f, fd, ps, kk, h1, h2, h3, h4, h5, h6⟩ := o.kws _ k3
    obtain ⟨i1, i2, i3⟩ := ckL_ok he k5
    obtain ⟨g1, g2⟩ := ckK_ok he k6
    have hl : (kws.filterMap (·.arg)).length = kws.length := fm_len k4
    exact pm_callk h4 o.gd (o.room.mono h5) (o.glo k1) h1 h2 h3 o.pass (okN_ok k2).1 i3 rfl i2 i1 g1 (by rw [hl, g2]) k4 rfl h6
  · rename_i C ms x p e es pos
    obtain ⟨k, k4⟩ := bt k
    obtain ⟨k, k3⟩ := bt k
    obtain ⟨k1, k2⟩ := bt k
    have k3 : (x, C, es.length + 1) ∈ c.cc.cls := by simpa using k3
    obtain ⟨f, fd, ps, kk, h1, h2, h3, h4, h5⟩ := o.cls _ k3
    obtain ⟨i1, i2, i3⟩ := ckL_ok he k4
    exact pm_mk h2 h4 o.gd (o.room.mono h5) (o.glo k1) h1 h3 o.pass (okN_ok k2).1 i3 rfl i2 i1
  · exact ckBi_ok o he k
  · exact ckMe_ok o he k
  · rename_i ma m ms a nm apos es pos
    obtain ⟨k, k6⟩ := bt k
    obtain ⟨k, k5⟩ := bt k
    obtain ⟨k, k4⟩ := bt k
    obtain ⟨k, k3⟩ := bt k
    obtain ⟨k1, k2⟩ := bt k
    have e1 := of_decide_eq_true k1
    subst e1
    obtain ⟨i1, i2, i3⟩ := ckL_ok he k6
    cases es with
    | nil =>
      cases ms with
      | nil => exact pm_meth0 o.mt o.room o.gd o.pass (he _ _ k5) (nt k2) k3
      | cons _ _ => cases i2
    | cons e es => exact pm_meth o.mt o.room o.gd o.pass i3 (he _ _ k5) i1 (nt k2) (of_decide_eq_true k4) k3
  · obtain ⟨k, k3⟩ := bt k
    obtain ⟨k1, k2⟩ := bt k
    have e1 := of_decide_eq_true k1
    subst e1
    exact pm_prop o.pr o.room o.gd o.gd o.passN (he _ _ k3) (nt k2)
  · rename_i ma C x p a y q pos
    obtain ⟨k, k7⟩ := bt k
    obtain ⟨k, k6⟩ := bt k
    obtain ⟨k, k5⟩ := bt k
    obtain ⟨k, k4⟩ := bt k
    obtain ⟨k, k3⟩ := bt k
    obtain ⟨k1, k2⟩ := bt k
    have e2 : x = Str.ofString "isinstance" := by simpa using k2
    subst e2
    have k4 : (y, 500 + C) ∈ c.cc.gls := by simpa using k4
    obtain ⟨u, v, h1, h2, h3⟩ := o.gls _ k4
    exact pm_isi o.K o.isc o.isb (o.bli k1).1 (o.bli k1).2 boot_isi (nn (by decide)).1 (nn (by decide)).2 (nt k6) rfl (he _ _ k7) (pm_g (pe_glob (o.glo k3) h1 h2 (okN_ok k5).1) fun ι H => h3 G.z ι H)
  · exact pm_starT (ckX_ok o.K he k)
  · exact pm_starL (ckX_ok o.K he k)
  · rename_i j ms dv x p e es pos
    cases hd : intsD dv with
    | none =>
      simp only [hd] at k
      cases k
    | some ns =>
      simp only [hd] at k
      obtain ⟨k, k4⟩ := bt k
      obtain ⟨k, k3⟩ := bt k
      obtain ⟨k1, k2⟩ := bt k
      have k3 : (x, j, es.length + 1, ns) ∈ c.cc.dfs := by simpa using k3
      obtain ⟨f, fd, ps, kk, ds, h1, h2, h3, h4, h5, h6⟩ := o.dfs _ k3
      obtain ⟨i1, i2, i3⟩ := ckL_ok he k4
      rw [intsD_eq hd]
      exact pm_calld h5 o.gd (o.room.mono h6) (o.glo k1) h1 h2 h3 h4 o.pass (okN_ok k2).1 i3 rfl i2 i1
  · obtain ⟨ow, e1, h1, h2, h3, h4, h5, h6, h7⟩ := ckCompS_ok hr o k
    subst e1
    have e2 := h4.1
    subst e2
    exact pm_compS o.K o.calm (by rw [o.N]; exact o.nd) h1 h2 (o.bli h3).1 (o.bli h3).2 h5 h6 h7
  · cases k
theorem ckT_ok (hr : RcOk r) (o : XOk CX G Γ c.cc E lv X c.sc c.stb) {e : Expr} {m : Ee} (k : ckT r c e m = true) : PTm G E Γ X e m := by
  obtain ⟨he, ht⟩ := hr CX G Γ c E lv X o
  unfold ckT at k
  split at k
  · exact tm_not (ht _ _ k)
  · exact (ckAnd_okT ht k).pt
  · exact (ckOr_okT ht k).pt
  · obtain ⟨k, k3⟩ := bt k
    obtain ⟨k1, k2⟩ := bt k
    exact tm_ife (ht _ _ k1) (ht _ _ k2) (ht _ _ k3)
  · obtain ⟨k, k4⟩ := bt k
    obtain ⟨k, k3⟩ := bt k
    obtain ⟨k1, k2⟩ := bt k
    have e1 := of_decide_eq_true k1
    subst e1
    exact tm_cmp o.K o.hu (nt k2) (he _ _ k3) (he _ _ k4)
  · obtain ⟨k, k6⟩ := bt k
    obtain ⟨k, k5⟩ := bt k
    obtain ⟨k, k4⟩ := bt k
    obtain ⟨k, k3⟩ := bt k
    obtain ⟨k1, k2⟩ := bt k
    have e1 := of_decide_eq_true k1
    have e2 := of_decide_eq_true k2
    subst e1 e2
    exact tm_cmp2 o.K o.hu (nt k3) (he _ _ k4) (he _ _ k5) (he _ _ k6)
  · obtain ⟨k1, k2⟩ := bt k
    exact tm_plain o.K k1 (he _ _ k2)
end
theorem rc_ok : ∀ n, RcOk (rc n)
  | 0 => fun CX G Γ c E lv X o => ⟨fun e m h => (by cases h), fun e m h => (by cases h)⟩
  | n + 1 => fun CX G Γ c E lv X o => ⟨fun e m h => ckE_ok (rc_ok n) o h, fun e m h => ckT_ok (rc_ok n) o h⟩
end T
namespace T
open PySem PySem.Spec PyProof.Rows L2
def ckTt (r : Rc) (c : Cs) : Nat → Expr → Tgt → Bool
  | 0, _, _ => false
  | _ + 1, _, .bad => true
  | _ + 1, .Name x _, .nm i => decide (c.cc.N[i]? = some x) && c.stb x
  | n + 1, .Tuple es _ _, .tp ts => es.all (fun e => !isStar e) && all2 (ckTt r c n) es ts
  | _ + 1, .Subscript a b _, .sub ma mb => !isSlice b && r.e c a ma && r.e c b mb
  | _ + 1, .Attribute a g _, .at ma f => decide (f = g) && r.e c a ma
  | _ + 1, _, _ => false
def lcl (sc : Scope) (x : Str) : Bool := match sc.names.lookup x with
  | some .local => true
  | _ => false
def ckSwap (r : Rc) (c : Cs) (ts vs : List Expr) (t : Tgt) (m : Ee) : Option Bool := match swC c.sc ts vs with
  | none => some false
  | some none => none
  | some (some ns) => some (match ts, vs, t, m, ns with
    | [.Name x _, .Name y _], [a, b], .tp [.nm i, .nm j], .tup [ma, mb], [x', y'] => decide (i ≠ j) && decide (c.cc.N[i]? = some x) && decide (c.cc.N[j]? = some y) && decide (x' = x) && decide (y' = y) && lcl c.sc x && lcl c.sc y && ckL (r.e c) [a, b] [ma, mb]
    | [.Name x _, .Name y _, .Name z _], [a, b, d], .tp [.nm i, .nm j, .nm k], .tup [ma, mb, md], [x', y', z'] => decide (i ≠ j) && decide (i ≠ k) && decide (j ≠ k) && decide (c.cc.N[i]? = some x) && decide (c.cc.N[j]? = some y) && decide (c.cc.N[k]? = some z) && decide (x' = x) && decide (y' = y) && decide (z' = z) &&
        lcl c.sc x && lcl c.sc y && lcl c.sc z && ckL (r.e c) [a, b, d] [ma, mb, md]
    | _, _, _, _, _ => false)
def isLst : Expr → Bool
  | .List _ _ => true
  | _ => false
def ckAsg (r : Rc) (c : Cs) (tg a : Expr) (t : Tgt) (m : Ee) : Bool := !(isComp a && isNm tg) && !isStar tg && !isLst tg && (match tg, a with
  | .Tuple ts _ _, .Tuple vs _ _ => (match ckSwap r c ts vs t m with
    | some b => b
    | none => ckTt r c 10 tg t && r.e c a m)
  | _, _ => ckTt r c 10 tg t && r.e c a m)
def ckS (r : Rc) (rs : Cs → Stmt → Ss → Bool) (c : Cs) (st : Stmt) (m : Ss) : Bool := match m, st with
  | .bad, _ => true
  | .pass, .Pass _ => true
  | .pass, .Expr (.Constant (.str _) _ _) _ => true
  | .brk, .Break _ => true
  | .cont, .Continue _ => true
  | .ret ma, .Return (some a) _ => r.e c a ma
  | .retN, .Return none _ => true
  | .ex ma, .Expr a _ => !isComp a && r.e c a ma
  | .asg (.nm i) (.comp _ melt mt ik mits mifs own), .Assign [.Name y _] (.ListComp elt [⟨tg, iter, ifs, 0⟩] scope _) _ => decide (c.cc.N[i]? = some y) && c.stb y && ckComp r c melt mt ik mits mifs own elt tg iter ifs scope
  | .asg t ma, .Assign [tg] a _ => ckAsg r c tg a t ma
  | .aug i o ma, .AugAssign (.Name x _) op a _ => decide (op = o.op) && decide (c.cc.N[i]? = some x) && c.stb x && r.e c a ma
  | .ite ma la lb, .If a sa sb _ => r.t c a ma && all2 (rs c) sa la && all2 (rs c) sb lb
  | .loop mt ik mits mb, .For tg it body [] _ => ckTg c 10 tg mt && ckIt r c tg it ik mits && !isSet it && all2 (rs c) body mb
  | .whl _ ma mb, .While a body [] _ => r.t c a ma && all2 (rs c) body mb
  | .loopK mt i none mb, .For tg (.Name x _) body [] _ => ckTg c 10 tg mt && decide (c.cc.N[i]? = some x) && c.vis x && okN x && all2 (rs c) body mb
  | .loopK mt i (some f) mb, .For tg (.Attribute (.Name x _) g _) body [] _ => decide (f = g) && ckTg c 10 tg mt && decide (c.cc.N[i]? = some x) && c.vis x && okN x && all2 (rs c) body mb
  | .fld ma f mb, .Assign [.Attribute a g _] b _ => decide (f = g) && !isComp b && r.e c a ma && r.e c b mb
  | _, _ => false
def rs (r : Rc) : Nat → Cs → Stmt → Ss → Bool
  | 0 => fun _ _ _ => false
  | n + 1 => ckS r (rs r n)
section
variable {CX : CXT} {G : Gx} {Γ : Tb} {E : XK} {lv : Nat} {X : Cx} {c : Cs} {r : Rc}
theorem all2_tt {f : Expr → Tgt → Bool} (h : ∀ e t, f e t = true → PGm G E Γ X e t) : ∀ {es : List Expr} {ts : List Tgt}, es.all (fun e => !isStar e) = true → all2 f es ts = true → PGs X es (gTsv G E Γ ts) ∧ es.length = ts.length
  | [], [], _, _ => ⟨pgs_mnil, rfl⟩
  | [], _ :: _, _, k => by simp [all2] at k
  | _ :: _, [], _, k => by simp [all2] at k
  | e :: es, t :: ts, hs, k => by
    rw [List.all_cons] at hs
    obtain ⟨h1, h2⟩ := bt hs
    obtain ⟨k1, k2⟩ := bt (show (f e t && all2 f es ts) = true from k)
    obtain ⟨i1, i2⟩ := all2_tt h h2 k2
    exact ⟨pgs_mcons (by simpa using h1) (h e t k1) i1, by rw [List.length_cons, List.length_cons, i2]⟩
theorem ckTt_ok (o : XOk CX G Γ c.cc E lv X c.sc c.stb) (he : ∀ e m, r.e c e m = true → PEm G E Γ X e m) : ∀ (n : Nat) (e : Expr) (t : Tgt), ckTt r c n e t = true → PGm G E Γ X e t
  | 0, _, _, k => by simp [ckTt] at k
  | n + 1, e, t, k => by
    unfold ckTt at k
    split at k
    · cases ‹n + 1 = 0›
    · exact pg_bad
    · rename_i x p i
      obtain ⟨k1, k2⟩ := bt k
      have k1 := of_decide_eq_true k1
      exact pg_nm (by rw [o.N]; exact o.nd) (by rw [o.N]; exact k1) (o.st _ k2).1 (o.st _ k2).2
    · rename_i n' es _ _ ts heq
      cases heq
      obtain ⟨k1, k2⟩ := bt k
      obtain ⟨i1, i2⟩ := all2_tt (ckTt_ok o he n) k1 k2
      exact pg_mtup o.K o.calm k1 i2 i1
    · obtain ⟨k, k3⟩ := bt k
      obtain ⟨k1, k2⟩ := bt k
      exact pg_msub (nt k1) (he _ _ k2) (he _ _ k3)
    · obtain ⟨k1, k2⟩ := bt k
      have e1 := of_decide_eq_true k1
      subst e1
      exact pg_mat o.K o.at_ (he _ _ k2)
    · cases k
theorem lcl_ok {sc : Scope} {x : Str} (h : lcl sc x = true) : sc.names.lookup x = some .local := by
  unfold lcl at h
  split at h
  · assumption
  · cases h
theorem ckAsg_ok (hkf : X.env.scope.kind = .function) (o : XOk CX G Γ c.cc E lv X c.sc c.stb) (he : ∀ e m, r.e c e m = true → PEm G E Γ X e m) {tg a : Expr} {t : Tgt} {m : Ee} {pos : Pos} (k : ckAsg r c tg a t m = true) : PSm G E Γ X (.Assign [tg] a pos) (.asg t m) := by
  unfold ckAsg at k
  obtain ⟨k, k4⟩ := bt k
  obtain ⟨k, k3⟩ := bt k
  obtain ⟨k1, k2⟩ := bt k
  have plain : swappedStores [tg] a X.env = pure none → (ckTt r c 10 tg t && r.e c a m) = true → PSm G E Γ X (.Assign [tg] a pos) (.asg t m) := fun hw q => by
    obtain ⟨q1, q2⟩ := bt q
    exact sm_asg (nt k1) hw (nt k2) (he _ _ q2) (ckTt_ok o he 10 _ _ q1)
  by_cases htt : ∃ ts kt pt vs k5 p5, tg = .Tuple ts kt pt ∧ a = .Tuple vs k5 p5
  · obtain ⟨ts, kt, pt, vs, k5, p5, rfl, rfl⟩ := htt
    have k4 : (match ckSwap r c ts vs t m with
      | some b => b
      | none => ckTt r c 10 (.Tuple ts kt pt) t && r.e c (.Tuple vs k5 p5) m) = true := k4
    unfold ckSwap at k4
    cases hw : swC c.sc ts vs with
    | none =>
      simp only [hw] at k4
      cases k4
    | some oo =>
      have hw2 : swC X.env.scope ts vs = some oo := by rw [o.sc]; exact hw
      cases oo with
      | none =>
        simp only [hw] at k4
        exact plain (swap_tup hkf hw2) k4
      | some ns =>
        simp only [hw] at k4
        split at k4
        · rename_i x px y py a b i j ma mb x' y'
          obtain ⟨g, g8⟩ := bt k4
          obtain ⟨g, g7⟩ := bt g
          obtain ⟨g, g6⟩ := bt g
          obtain ⟨g, g5⟩ := bt g
          obtain ⟨g, g4⟩ := bt g
          obtain ⟨g, g3⟩ := bt g
          obtain ⟨g1, g2⟩ := bt g
          have e4 := of_decide_eq_true g4
          have e5 := of_decide_eq_true g5
          subst e4 e5
          exact sm_par o.calm (by rw [o.N]; exact o.nd) hkf (by rw [o.N]; exact of_decide_eq_true g2) (by rw [o.N]; exact of_decide_eq_true g3) (of_decide_eq_true g1) (by rw [o.sc]; exact lcl_ok g6) (by rw [o.sc]; exact lcl_ok g7) (ckL_ok he g8).1 hw2
        · rename_i x px y py z pz a b d i j k0 ma mb md x' y' z'
          obtain ⟨g, g13⟩ := bt k4
          obtain ⟨g, g12⟩ := bt g
          obtain ⟨g, g11⟩ := bt g
          obtain ⟨g, g10⟩ := bt g
          obtain ⟨g, g9⟩ := bt g
          obtain ⟨g, g8⟩ := bt g
          obtain ⟨g, g7⟩ := bt g
          obtain ⟨g, g6⟩ := bt g
          obtain ⟨g, g5⟩ := bt g
          obtain ⟨g, g4⟩ := bt g
          obtain ⟨g, g3⟩ := bt g
          obtain ⟨g1, g2⟩ := bt g
          have e7 := of_decide_eq_true g7
          have e8 := of_decide_eq_true g8
          have e9 := of_decide_eq_true g9
          subst e7 e8 e9
          exact sm_par3 o.calm (by rw [o.N]; exact o.nd) hkf (by rw [o.N]; exact of_decide_eq_true g4) (by rw [o.N]; exact of_decide_eq_true g5) (by rw [o.N]; exact of_decide_eq_true g6) (of_decide_eq_true g1) (of_decide_eq_true g2) (of_decide_eq_true g3)
            (by rw [o.sc]; exact lcl_ok g10) (by rw [o.sc]; exact lcl_ok g11) (by rw [o.sc]; exact lcl_ok g12) (ckL_ok he g13).1 hw2
        · cases k4
  · refine plain (swap_no ?_) ?_
    · cases tg <;> first
        | rfl
        | (cases k3; done)
        | (cases a <;> first | rfl | exact (htt ⟨_, _, _, _, _, _, rfl, rfl⟩).elim)
    · cases tg <;> first
        | exact k4
        | (cases a <;> first | exact k4 | exact (htt ⟨_, _, _, _, _, _, rfl, rfl⟩).elim)
def RsOk (f : Cs → Stmt → Ss → Bool) : Prop := ∀ (CX : CXT) (G : Gx) (Γ : Tb) (c : Cs) (E : XK) (lv : Nat) (X : Cx), XOk CX G Γ c.cc E lv X c.sc c.stb → X.env.scope.kind = .function → PassesOwn (model X.prog X.w) X.A X.env X.xe → ∀ st m, f c st m = true → PSm G E Γ X st m
theorem all2_ss {f : Stmt → Ss → Bool} (h : ∀ e t, f e t = true → PSm G E Γ X e t) : ∀ {es : List Stmt} {ts : List Ss}, all2 f es ts = true → PSsm G E Γ X es ts
  | [], [], _ => bm_nil
  | [], _ :: _, k => by simp [all2] at k
  | _ :: _, [], k => by simp [all2] at k
  | e :: es, t :: ts, k => by
    obtain ⟨k1, k2⟩ := bt (show (f e t && all2 f es ts) = true from k)
    exact bm_cons (h e t k1) (all2_ss h k2)
theorem ckS_ok {f : Cs → Stmt → Ss → Bool} (hr : RcOk r) (hf : RsOk f) (o : XOk CX G Γ c.cc E lv X c.sc c.stb) (hkf : X.env.scope.kind = .function) (hp : PassesOwn (model X.prog X.w) X.A X.env X.xe) {st : Stmt} {m : Ss} (k : ckS r f c st m = true) : PSm G E Γ X st m := by
  obtain ⟨he, ht⟩ := hr CX G Γ c E lv X o
  have hs := hf CX G Γ c E lv X o hkf hp
  unfold ckS at k
  split at k
  · exact sm_bad
  · exact sm_pass
  · exact sm_doc
  · exact sm_brk
  · exact sm_cont
  · exact sm_ret (he _ _ k)
  · exact sm_retN
  · obtain ⟨k1, k2⟩ := bt k
    exact sm_ex (nt k1) (he _ _ k2)
  · obtain ⟨k, k3⟩ := bt k
    obtain ⟨k1, k2⟩ := bt k
    obtain ⟨ow, e1, C⟩ := ckComp_ok hr o k3
    subst e1
    exact sm_asgC o.K o.calm (by rw [o.N]; exact o.nd) hkf (by rw [o.N]; exact of_decide_eq_true k1) (o.st _ k2).1 (o.st _ k2).2 C.ok C.hin C.hi C.hg C.ht C.he C.hs
  · exact ckAsg_ok hkf o he k
  · obtain ⟨k, k4⟩ := bt k
    obtain ⟨k, k3⟩ := bt k
    obtain ⟨k1, k2⟩ := bt k
    have e1 := of_decide_eq_true k1
    subst e1
    exact sm_aug (by rw [o.N]; exact o.nd) (by rw [o.N]; exact of_decide_eq_true k2) (o.st _ k3).1 (o.st _ k3).2 (he _ _ k4)
  · obtain ⟨k, k3⟩ := bt k
    obtain ⟨k1, k2⟩ := bt k
    exact sm_if (ht _ _ k1) (all2_ss hs k2) (all2_ss hs k3)
  · obtain ⟨k, k4⟩ := bt k
    obtain ⟨k, k3⟩ := bt k
    obtain ⟨k1, k2⟩ := bt k
    exact sm_loop hp o.calm (ckIt_ok o he k2) (ckTg_ok o 10 _ _ k1) (all2_ss hs k4) (nt k3)
  · obtain ⟨k1, k2⟩ := bt k
    exact sm_whl hp (ht _ _ k1) (all2_ss hs k2)
  · obtain ⟨k, k5⟩ := bt k
    obtain ⟨k, k4⟩ := bt k
    obtain ⟨k, k3⟩ := bt k
    obtain ⟨k1, k2⟩ := bt k
    exact sm_loopK (by rw [o.N]; exact of_decide_eq_true k2) (o.visi k3) (okN_ok k4).1 (okN_ok k4).2 hp o.calm (ckTg_ok o 10 _ _ k1) (all2_ss hs k5)
  · obtain ⟨k, k6⟩ := bt k
    obtain ⟨k, k5⟩ := bt k
    obtain ⟨k, k4⟩ := bt k
    obtain ⟨k, k3⟩ := bt k
    obtain ⟨k1, k2⟩ := bt k
    have e1 := of_decide_eq_true k1
    subst e1
    exact sm_loopKf o.K o.at_ (by rw [o.N]; exact of_decide_eq_true k3) (o.visi k4) (okN_ok k5).1 (okN_ok k5).2 hp o.calm (ckTg_ok o 10 _ _ k2) (all2_ss hs k6)
  · obtain ⟨k, k4⟩ := bt k
    obtain ⟨k, k3⟩ := bt k
    obtain ⟨k1, k2⟩ := bt k
    have e1 := of_decide_eq_true k1
    subst e1
    exact sm_fld o.K o.at_ (nt k2) (he _ _ k3) (he _ _ k4)
  · cases k
end
theorem rs_ok {r : Rc} (hr : RcOk r) : ∀ n, RsOk (rs r n)
  | 0 => fun CX G Γ c E lv X o _ _ st m h => by cases h
  | n + 1 => fun CX G Γ c E lv X o h1 h2 st m h => ckS_ok hr (rs_ok hr n) o h1 h2 h
def ckDef (n : Nat) (c : Cs) (body : List Stmt) (m : List Ss) : Bool := all2 (rs (rc n) n c) body m
def fnC (N ps : List Str) (sc : Scope) : Bool := (match sc.kind with | .function => true | _ => false) && !sc.isCoroutine && !sc.isGenerator && decide N.Nodup && decide (N.take ps.length = ps) && ps.all (stbF sc) && sc.names.all fun y => (match y.2 with | .free => false | _ => true)
theorem fnC_ok {N ps : List Str} {sc : Scope} (h : fnC N ps sc = true) : FnScope N ps sc := by
  unfold fnC at h
  obtain ⟨h, h7⟩ := bt h
  obtain ⟨h, h6⟩ := bt h
  obtain ⟨h, h5⟩ := bt h
  obtain ⟨h, h4⟩ := bt h
  obtain ⟨h, h3⟩ := bt h
  obtain ⟨h1, h2⟩ := bt h
  refine ⟨?_, nt h2, nt h3, of_decide_eq_true h4, of_decide_eq_true h5, fun x hx => ?_, fun y hy e => ?_⟩
  · split at h1
    · assumption
    · cases h1
  · have := List.all_eq_true.mp h6 x hx
    unfold stbF at this
    split at this
    · rename_i hl
      exact .inl hl
    · rename_i hl
      exact .inr hl
    · cases this
  · have := List.all_eq_true.mp h7 y hy
    rw [e] at this
    cases this
structure WOk (P : Program) (w : World) (K : PySem.W.Frag) (mg : Str → Option Value) (base : Heap) (G : Gx) (Γ : Tb) (c : Cc) (lv : Nat) : Prop where
  hK : K = G.K
  hW : w = G.w
  blt : ∀ x ∈ c.blt, mg x = none
  fns : ∀ p ∈ c.fns, ∃ f fd ps k, mg p.1 = some (.ref f) ∧ PySem.W.keepIn K (.ref f) = true ∧ L2.Binds K fd ps [] ∧ FnG P w K mg base CX0 k f fd ps (spOf G p.2.2 (Γ.fn p.2.1)) ∧ k ≤ lv
  kws : ∀ p ∈ c.kws, ∃ f fd ps k, mg p.1 = some (.ref f) ∧ PySem.W.keepIn K (.ref f) = true ∧ L2.KBn K fd ps p.2.2.1 p.2.2.2.1 (selV p.2.2.2.2) (selV p.2.2.2.2) ∧ FnG P w K mg base CX0 k f fd ps (spOf G p.2.2.2.2.length (Γ.fn p.2.1)) ∧ k ≤ lv ∧ ∀ i ∈ p.2.2.2.2, i < p.2.2.1 + p.2.2.2.1.length
  gls : ∀ p ∈ c.gls, ∃ u v, mg p.1 = some u ∧ RelV v u ∧ ∀ z ι H, Rel { G with z := z } ι H v (Γ.gl p.2)
  cls : ∀ p ∈ c.cls, ∃ f fd ps k, mg p.1 = some (.ref (G.cad p.2.1)) ∧ Mk K (G.cad p.2.1) f ∧ L2.Binds K fd ps [] ∧ FnG P w K mg base CX0 k f fd ps (spOf G (p.2.2 + 1) (Γ.ini p.2.1)) ∧ k + 1 ≤ lv
  at_ : ∀ C f, Γ.at_ C f = true → Cls K (G.cad C) ∧ NoAttr K (G.cad C) f
  dfs : ∀ p ∈ c.dfs, ∃ f fd ps k ds, mg p.1 = some (.ref f) ∧ PySem.W.keepIn K (.ref f) = true ∧ L2.Binds K fd ps ds ∧ Vals (p.2.2.2.map V.int) ds ∧ FnG P w K mg base CX0 k f fd ps (spOf G (p.2.2.1 + p.2.2.2.length) (Γ.fn p.2.1)) ∧ k ≤ lv
  mt : ∀ C m F, Γ.mt C m = some F → Cls K (G.cad C) ∧ ∃ n f fd ps k, Meth K (G.cad C) m f ∧ L2.Binds K fd ps [] ∧ FnG P w K mg base CX0 k f fd ps (spOf G n F) ∧ k ≤ lv ∧ ∀ ds μ, ds.length ≠ n → F ds μ = .bad
  pr : ∀ C f F, Γ.pr C f = some F → Cls K (G.cad C) ∧ ∃ p g fd ps k, PropOf K (G.cad C) f p g ∧ L2.Binds K fd ps [] ∧ FnG P w K mg base CX0 k g fd ps (spOf G 1 F) ∧ k + 1 ≤ lv
  isc : ∀ A C b, Γ.isc A C = some b → InsX K (G.cad A) ∧ PySem.W.kitOne K (.ref (G.cad A)) (.ref (G.cad C)) = some b ∧ Γ.gl (500 + C) = .cls C
  isb : ∀ C, Γ.isb C = true → (∀ t ∈ tyK, PySem.W.kitOne K (.type t) (.ref (G.cad C)) = some false) ∧ Γ.gl (500 + C) = .cls C
theorem startE_ok {G : Gx} {ι : List Addr} {H : Hp} {N : List Str} {vs : List V} {ds : List D} (r : Rels G ι H vs ds) : EOk G ι H (L2.start N vs) (startE N.length ds) := by
  have hl := r.len
  refine ⟨by simp [L2.start, startE, hl], fun i d q => ?_⟩
  unfold startE at q
  unfold L2.start
  by_cases hi : i < ds.length
  · rw [List.getElem?_append_left (by simpa using hi), List.getElem?_map] at q
    cases hd : ds[i]? with
    | none => simp [hd] at q
    | some d' =>
      rw [hd] at q
      simp at q
      subst q
      obtain ⟨v, h1, h2⟩ := r.get hd
      exact ⟨v, by rw [List.getElem?_append_left (by rw [List.length_map, hl]; exact hi), List.getElem?_map, h1]; rfl, h2⟩
  · rw [List.getElem?_append_right (by simpa using hi)] at q
    have := List.mem_of_getElem? q
    have := (List.mem_replicate.mp this).2
    cases this
theorem stbF_ok {sc : Scope} {x : Str} (h : stbF sc x = true) : Loc sc x := by
  unfold stbF at h
  split at h
  · rename_i hl
    exact .inl hl
  · rename_i hl
    exact .inr hl
  · cases h
theorem pass_0 {X : Cx} {E : XK} : Passes CX0 X E := fun _ _ _ _ _ _ _ h => h.elim
section
variable {P : Program} {w : World} {K : PySem.W.Frag} {mg : Str → Option Value} {base : Heap} {G : Gx} {Γ : Tb} {c : Cc} {lv : Nat}
theorem WOk.cx (o : WOk P w K mg base G Γ c lv) (hnd : c.N.Nodup) {qual : Str} {scope : Scope} {f : Addr} {cdv : Value} {A : Around} {outer : List PySem.Env} {s : Shared} {H : Hp} {E : XK} (hg : A.guards = some []) (hr : Room lv (A.deeper (envOfC qual scope s.heap.objs.size f cdv))) :
    XOk CX0 G Γ c E lv (cxOf CX0 P w K mg base c.N qual scope f cdv A outer s H E) scope (stbF scope) :=
  ⟨o.hK, rfl, hnd, rfl, rfl, hr, hg, o.blt, o.fns, o.kws, o.gls, o.cls, fun C f h => o.at_ C f h, o.hW, o.dfs, fun C m F h => ⟨(o.mt C m F h).1, (o.mt C m F h).2⟩, fun C f F h => ⟨(o.pr C f F h).1, (o.pr C f F h).2⟩, o.isc, o.isb, pass_0, pass_0, fun _ _ _ => pass_0, fun x h => ⟨stbF_ok h, .inl rfl⟩⟩
theorem okD {n : Nat} {x qual : Str} {params : Arguments} {body : List Stmt} {scope : Scope} {f : Addr} {fd : FuncData} {ps : List Str} {df : Df} {dvs : List V} {kws : List (Str × V)} (F : FunD K x qual params body scope dvs kws f fd) (o : WOk P w K mg base G Γ c lv)
    (hs : fnC c.N ps scope = true) (hp : df.ps = ps.length) (hN : df.N = c.N.length) (ck : ckDef n ⟨c, scope, stbF scope⟩ body df.body = true) : FnG P w K mg base CX0 (lv + 1) f fd ps (spOf G ps.length (runD Γ df)) := by
  have S := fnC_ok hs
  refine g_def F S (fun vs H Q E h => h.1) fun cdv A outer s H vs Q E hg hr h => ?_
  obtain ⟨hl, z, ι, ds, μ, r, so, p⟩ := h
  have X := (o.cx S.nd (f := f) (cdv := cdv) (A := A) (outer := outer) (s := s) (H := H) (E := E) hg hr).wz z
  refine ⟨TSv (G.wz z) E (exB Γ df.body), all2_ss (rs_ok (rc_ok n) n CX0 (G.wz z) Γ ⟨c, scope, stbF scope⟩ E lv _ X S.kind (passes_of rfl)) ck, ι, startE df.N ds, μ, ?_, so, ?_⟩
  · rw [hN]
    exact startE_ok r
  · have p : Post (G.wz z) E ι H (if ds.length = df.ps then (match exB Γ df.body (startE df.N ds) μ with
      | .rt d μ1 => leave df.keep μ.length d μ1
      | .nx _ μ1 => leave df.keep μ.length .non μ1
      | .exc C xs μ1 => leaveX μ.length C xs μ1
      | _ => .bad) else .bad) Q := p
    have hds : ds.length = df.ps := by rw [hp, ← hl, r.len]
    rw [if_pos hds] at p
    cases he : exB Γ df.body (startE df.N ds) μ with
    | nx ρ1 μ1 =>
      rw [he] at p
      intro σ' H' ι' x' s' e'
      exact leave_ok so rfl x' s' (show Rel (G.wz z) ι' H' .non .non from rfl) p
    | rt d μ1 =>
      rw [he] at p
      intro v H' ι' x' s' r'
      exact leave_ok so rfl x' s' r' p
    | bk ρ1 μ1 =>
      rw [he] at p
      exact p.elim
    | ct ρ1 μ1 =>
      rw [he] at p
      exact p.elim
    | exc C xs μ1 =>
      rw [he] at p
      intro od H' ι' x' s' r'
      exact leaveX_ok (α := Unit) so rfl x' s' r' p
    | bad =>
      rw [he] at p
      exact p.elim
end
end T
namespace T
open PySem PySem.Spec PyProof.Rows L2
structure En where
  j : Nat
  x : Str
  cl : Option Nat
  ps : List Str
  N : List Str
  df : Df
  kw : List (Nat × List Str × List Nat)
  /-- a getter (true), a method of a class -/
  mp : Option (Bool × Nat × Str) := none
  /-- its last parameters' defaults -/
  df0 : List Int := []
def tbl (at_ : Nat → Str → Bool) (gl : Nat → D) : List En → Tb
  | [] => ⟨fun _ _ _ => .bad, gl, at_, fun _ _ _ => .bad, fun _ _ => none, fun _ _ => none, fun A C => if at_ A "is " && at_ C "is " then some (A == C) else none, fun C => at_ C "is "⟩
  | e :: r => ⟨fun i => if i = e.j then runD (tbl at_ gl r) e.df else (tbl at_ gl r).fn i, gl, at_, fun C => if e.cl = some C then runD (tbl at_ gl r) e.df else (tbl at_ gl r).ini C,
    fun C m => if e.mp = some (false, C, m) then some (runD (tbl at_ gl r) e.df) else (tbl at_ gl r).mt C m, fun C m => if e.mp = some (true, C, m) then some (runD (tbl at_ gl r) e.df) else (tbl at_ gl r).pr C m,
    fun A C => if at_ A "is " && at_ C "is " then some (A == C) else none, fun C => at_ C "is "⟩
def En.pl (e : En) : Bool := e.cl.isNone && e.mp.isNone
def fnsOf (es : List En) : List (Str × Nat × Nat) := es.filterMap fun e => if e.pl && e.df0.isEmpty then some (e.x, e.j, e.ps.length) else none
def clsOf (es : List En) : List (Str × Nat × Nat) := es.filterMap fun e => match e.cl with
  | none => none
  | some C => some (e.x, C, e.ps.length - 1)
def kwsOf (es : List En) : List (Str × Nat × Nat × List Str × List Nat) := es.flatMap fun e => if e.pl then e.kw.map fun q => (e.x, e.j, q.1, q.2.1, q.2.2) else []
def dfsOf (es : List En) : List (Str × Nat × Nat × List Int) := es.filterMap fun e => if e.pl && !e.df0.isEmpty then some (e.x, e.j, e.ps.length - e.df0.length, e.df0) else none
def ccOf (N : List Str) (gls : List (Str × Nat)) (blt : List Str) (r : List En) : Cc := ⟨N, fnsOf r, gls, clsOf r, blt, [], kwsOf r, dfsOf r⟩
structure KwOk (K : PySem.W.Frag) (fd : FuncData) (ps : List Str) (q : Nat × List Str × List Nat) : Prop where
  b : KBn K fd ps q.1 q.2.1 (selV q.2.2) (selV q.2.2)
  len : q.2.2.length = ps.length
  lt : ∀ i ∈ q.2.2, i < q.1 + q.2.1.length
def ckEn (n : Nat) (gls : List (Str × Nat)) (blt : List Str) (e : En) (body : List Stmt) (scope : Scope) (r : List En) : Bool :=
  fnC e.N e.ps scope && decide (e.df.ps = e.ps.length) && decide (e.df.N = e.N.length) && !(r.any fun q => q.j == e.j) && (match e.cl with
    | none => true
    | some C => decide (0 < e.ps.length) && !(r.any fun q => q.cl == some C) && e.mp.isNone) && ckDef n ⟨ccOf e.N gls blt r, scope, stbF scope⟩ body e.df.body
def EnK (K : PySem.W.Frag) (mg : Str → Option Value) (G : Gx) (e : En) (f : Addr) (fd : FuncData) : Prop := match e.cl with
  | some C => L2.Binds K fd e.ps [] ∧ mg e.x = some (.ref (G.cad C)) ∧ Mk K (G.cad C) f
  | none => match e.mp with
    | some (false, C, m) => L2.Binds K fd e.ps [] ∧ Cls K (G.cad C) ∧ Meth K (G.cad C) m f
    | some (true, C, m) => L2.Binds K fd e.ps [] ∧ Cls K (G.cad C) ∧ (∃ p, PropOf K (G.cad C) m p f) ∧ e.ps.length = 1
    | none => mg e.x = some (.ref f) ∧ (∀ q ∈ e.kw, KwOk K fd e.ps q) ∧ ∃ ds, L2.Binds K fd e.ps ds ∧ Vals (e.df0.map V.int) ds ∧ e.df0.length ≤ e.ps.length
def EnOk (K : PySem.W.Frag) (mg : Str → Option Value) (G : Gx) (e : En) (d : He.DefD) : Prop := ∃ f fd, FunD K d.name d.qual d.params d.body d.scope (d.dvs K) (d.kws K) f fd ∧ EnK K mg G e f fd
inductive Chain (K : PySem.W.Frag) (mg : Str → Option Value) (G : Gx) (n : Nat) (gls : List (Str × Nat)) (blt : List Str) : List En → Prop
  | nil : Chain K mg G n gls blt []
  | cons {e : En} {r : List En} {d : He.DefD} (c : Chain K mg G n gls blt r) (h : EnOk K mg G e d) (k : ckEn n gls blt e d.body d.scope r = true) : Chain K mg G n gls blt (e :: r)
structure BsOk (K : PySem.W.Frag) (w : World) (mg : Str → Option Value) (G : Gx) (at_ : Nat → Str → Bool) (gl : Nat → D) (gls : List (Str × Nat)) (blt : List Str) : Prop where
  hK : K = G.K
  hW : w = G.w
  blt : ∀ x ∈ blt, mg x = none
  gls : ∀ p ∈ gls, ∃ u v, mg p.1 = some u ∧ RelV v u ∧ ∀ z ι H, Rel { G with z := z } ι H v (gl p.2)
  is1 : ∀ C, at_ C "is " = true → InsX K (G.cad C) ∧ (∀ t ∈ tyK, PySem.W.kitOne K (.type t) (.ref (G.cad C)) = some false) ∧ gl (500 + C) = .cls C
  is2 : ∀ A C, at_ A "is " = true → at_ C "is " = true → PySem.W.kitOne K (.ref (G.cad A)) (.ref (G.cad C)) = some (A == C)
  at_ : ∀ C f, at_ C f = true → Cls K (G.cad C) ∧ NoAttr K (G.cad C) f
section
variable {P : Program} {w : World} {K : PySem.W.Frag} {mg : Str → Option Value} {base : Heap} {G : Gx} {at_ : Nat → Str → Bool} {gl : Nat → D} {gls : List (Str × Nat)} {blt : List Str} {n : Nat}
theorem tbl_gl : ∀ es, (tbl at_ gl es).gl = gl
  | [] => rfl
  | _ :: _ => rfl
theorem tbl_at : ∀ es, (tbl at_ gl es).at_ = at_
  | [] => rfl
  | _ :: _ => rfl
theorem pl_iff {e : En} : e.pl = true ↔ e.cl = none ∧ e.mp = none := by
  unfold En.pl
  rw [Bool.and_eq_true, Option.isNone_iff_eq_none, Option.isNone_iff_eq_none]
theorem fnsOf_mem {es : List En} {p : Str × Nat × Nat} (h : p ∈ fnsOf es) : ∃ e ∈ es, (e.pl = true ∧ e.df0 = []) ∧ p = (e.x, e.j, e.ps.length) := by
  unfold fnsOf at h
  rw [List.mem_filterMap] at h
  obtain ⟨e, h1, h2⟩ := h
  cases hc : (e.pl && e.df0.isEmpty) with
  | true =>
    rw [hc, if_pos rfl] at h2
    rw [Bool.and_eq_true, List.isEmpty_iff] at hc
    exact ⟨e, h1, hc, (Option.some.inj h2).symm⟩
  | false =>
    rw [hc, if_neg Bool.false_ne_true] at h2
    cases h2
theorem dfsOf_mem {es : List En} {p : Str × Nat × Nat × List Int} (h : p ∈ dfsOf es) : ∃ e ∈ es, e.pl = true ∧ p = (e.x, e.j, e.ps.length - e.df0.length, e.df0) := by
  unfold dfsOf at h
  rw [List.mem_filterMap] at h
  obtain ⟨e, h1, h2⟩ := h
  cases hc : (e.pl && !e.df0.isEmpty) with
  | true =>
    rw [hc, if_pos rfl] at h2
    rw [Bool.and_eq_true] at hc
    exact ⟨e, h1, hc.1, (Option.some.inj h2).symm⟩
  | false =>
    rw [hc, if_neg Bool.false_ne_true] at h2
    cases h2
theorem kwsOf_mem {es : List En} {p : Str × Nat × Nat × List Str × List Nat} (h : p ∈ kwsOf es) : ∃ e ∈ es, e.pl = true ∧ ∃ q ∈ e.kw, p = (e.x, e.j, q.1, q.2.1, q.2.2) := by
  unfold kwsOf at h
  rw [List.mem_flatMap] at h
  obtain ⟨e, h1, h2⟩ := h
  cases hc : e.pl with
  | true =>
    rw [hc, if_pos rfl] at h2
    obtain ⟨q, h3, h4⟩ := List.mem_map.mp h2
    exact ⟨e, h1, hc, q, h3, h4.symm⟩
  | false =>
    rw [hc, if_neg Bool.false_ne_true] at h2
    cases h2
theorem vals_sel {vs : List V} {us : List Value} (r : Vals vs us) : ∀ pm : List Nat, Vals (sel pm vs) (sel pm us)
  | [] => .nil
  | i :: pm => by
    have h := vals_sel r pm
    unfold sel at h ⊢
    cases hv : vs[i]? with
    | none =>
      have hu : us[i]? = none := by
        rw [List.getElem?_eq_none_iff] at hv ⊢
        rw [← r.length]
        exact hv
      rw [List.filterMap_cons, List.filterMap_cons, hv, hu]
      exact h
    | some v =>
      obtain ⟨u, hu, hr⟩ := r.get hv
      rw [List.filterMap_cons, List.filterMap_cons, hv, hu]
      exact .cons hr h
theorem kw_of {K : PySem.W.Frag} {x qual : Str} {params : Arguments} {body : List Stmt} {scope : Scope} {kws : List (Str × V)} {f : Addr} {fd : FuncData} {ps ks : List Str} {n : Nat} {pm : List Nat} (F : FunD K x qual params body scope [] kws f fd)
    (h : ∀ (kV doc pm' : Value) (an : Option Addr) (cdv ct : Value) (us ws : List Value), us.length = n → ws.length = ks.length → bindArgs (PySem.W.fnOf x qual params body scope .none kV doc pm' an cdv ct) ⟨us, ks.zip ws⟩ = pure (ps.zip (selV pm us ws))) (hl : pm.length = ps.length) (hlt : ∀ i ∈ pm, i < n + ks.length) : KwOk K fd ps (n, ks, pm) := by
  obtain ⟨oc, od, dV, kV, doc, pm', an, cdv, ct, osl, rfl, lk, hcd, hD, hK⟩ := F.ex
  rcases hD with ⟨_, rfl⟩ | ⟨e, _⟩
  · exact ⟨⟨fun s us ws _ l1 l2 => .of_eq (h kV doc pm' an cdv ct us ws l1 l2), fun r1 r2 => vals_sel (r1.append r2) pm⟩, hl, hlt⟩
  · exact absurd rfl e
theorem clsOf_mem {es : List En} {p : Str × Nat × Nat} (h : p ∈ clsOf es) : ∃ e ∈ es, ∃ C, e.cl = some C ∧ p = (e.x, C, e.ps.length - 1) := by
  unfold clsOf at h
  rw [List.mem_filterMap] at h
  obtain ⟨e, h1, h2⟩ := h
  cases hc : e.cl with
  | none =>
    rw [hc] at h2
    cases h2
  | some C =>
    rw [hc] at h2
    exact ⟨e, h1, C, hc, (Option.some.inj h2).symm⟩
theorem okE {e : En} {r : List En} {d : He.DefD} {lv : Nat} (o : ∀ N, WOk P w K mg base G (tbl at_ gl r) (ccOf N gls blt r) lv) (k : ckEn n gls blt e d.body d.scope r = true) {f : Addr} {fd : FuncData} {dvs : List V} {kws : List (Str × V)} (F : FunD K d.name d.qual d.params d.body d.scope dvs kws f fd) :
    FnG P w K mg base CX0 (lv + 1) f fd e.ps (spOf G e.ps.length (runD (tbl at_ gl r) e.df)) := by
  unfold ckEn at k
  obtain ⟨k, k6⟩ := bt k
  obtain ⟨k, k5⟩ := bt k
  obtain ⟨k, k4⟩ := bt k
  obtain ⟨k, k3⟩ := bt k
  obtain ⟨k1, k2⟩ := bt k
  exact okD F (o e.N) k1 (of_decide_eq_true k2) (of_decide_eq_true k3) k6
theorem vals0 {ds : List Value} (h : Vals ([] : List V) ds) : ds = [] := by
  cases h
  rfl
theorem law_sp {F : FnS} {ns : List Int} {a : Addr} {H : Hp} (hl : ns.length ≤ sizeLine) (hS : SqL G.K H a (ns.map V.int)) (h : ∃ μ, F [.fro (ns.map .int)] [] = .ok (.bl true) μ) : spOf G 1 F [.ref a] H (fun v _ => v = .bl true) fun _ _ _ => False := by
  obtain ⟨μ, h⟩ := h
  refine ⟨rfl, [], [], [.fro (ns.map .int)], [], ?_, ⟨rfl, List.nodup_nil, fun a m => (by cases m), fun k c hk => (by simp at hk)⟩, ?_⟩
  · rw [rels_cons]
    refine ⟨⟨a, ns.map V.int, rfl, ⟨by rw [List.length_map]; exact hl, ?_⟩, rels_map fun i _ => rfl⟩, by simp⟩
    rcases hS with h | h
    · exact .inl ⟨h, by simp, by simp⟩
    · exact .inr h
  · rw [h]
    exact fun v H' ι' _ _ r => r
end
end T
namespace T
open PySem PySem.Spec PyProof.Rows L2
def lvN : List En → Nat
  | [] => 0
  | e :: r => lvN r + (if e.cl.isNone && e.mp.isNone then 1 else 2)
theorem lv_le (e : En) (r : List En) : lvN r + 1 ≤ lvN (e :: r) := by
  show lvN r + 1 ≤ lvN r + (if (e.cl.isNone && e.mp.isNone) = true then 1 else 2)
  split <;> omega
theorem lv_cl {e : En} {r : List En} {C : Nat} (h : e.cl = some C) : lvN r + 1 + 1 ≤ lvN (e :: r) := by
  show lvN r + 1 + 1 ≤ lvN r + (if (e.cl.isNone && e.mp.isNone) = true then 1 else 2)
  rw [h, if_neg (by intro z; cases z)]
  omega
theorem lv_mp {e : En} {r : List En} {m : Bool × Nat × Str} (h : e.mp = some m) : lvN r + 1 + 1 ≤ lvN (e :: r) := by
  show lvN r + 1 + 1 ≤ lvN r + (if (e.cl.isNone && e.mp.isNone) = true then 1 else 2)
  rw [h, if_neg (by
    intro z
    rw [Bool.and_eq_true] at z
    cases z.2)]
  omega
section
variable {P : Program} {w : World} {K : PySem.W.Frag} {mg : Str → Option Value} {base : Heap} {G : Gx} {at_ : Nat → Str → Bool} {gl : Nat → D} {gls : List (Str × Nat)} {blt : List Str} {n : Nat}
theorem knot2 (B : BsOk K w mg G at_ gl gls blt) : ∀ {es : List En}, Chain K mg G n gls blt es → ∀ N, WOk P w K mg base G (tbl at_ gl es) (ccOf N gls blt es) (lvN es)
  | [], _, N => ⟨B.hK, B.hW, B.blt, fun p hp => (by cases hp), fun p hp => (by cases hp), fun p hp => B.gls p hp, fun p hp => (by cases hp), B.at_, fun p hp => (by cases hp), fun C m F h => (by cases h), fun C m F h => (by cases h), isc_ B, isb_ B⟩
  | e :: r, h, N => by
    cases h with
    | @cons _ _ d c h k =>
      have o := fun N => knot2 B c N
      obtain ⟨f, fd, F, hm⟩ := h
      have ok := okE (base := base) (P := P) o k F
      unfold ckEn at k
      obtain ⟨k, k6⟩ := bt k
      obtain ⟨k, k5⟩ := bt k
      obtain ⟨k, k4⟩ := bt k
      obtain ⟨k, k3⟩ := bt k
      obtain ⟨k1, k2⟩ := bt k
      have k2 := of_decide_eq_true k2
      have hj : ∀ q ∈ r, q.j ≠ e.j := fun q hq z => by
        have := nt k4
        rw [List.any_eq_false] at this
        exact this q hq (by simpa using z)
      have hC : ∀ C, e.cl = some C → 0 < e.ps.length ∧ ∀ q ∈ r, q.cl ≠ some C := fun C hc => by
        rw [hc] at k5
        obtain ⟨k5, _⟩ := bt k5
        obtain ⟨q1, q2⟩ := bt k5
        refine ⟨of_decide_eq_true q1, fun q hq z => ?_⟩
        have := nt q2
        rw [List.any_eq_false] at this
        exact this q hq (by simp [z])
      have fe : ∀ i, i ≠ e.j → (tbl at_ gl (e :: r)).fn i = (tbl at_ gl r).fn i := fun i hi => if_neg hi
      have fj : (tbl at_ gl (e :: r)).fn e.j = runD (tbl at_ gl r) e.df := if_pos rfl
      have hpl : ∀ q : En, q = e → q.pl = true → mg q.x = some (.ref f) ∧ (∀ z ∈ q.kw, KwOk K fd q.ps z) ∧ ∃ ds, L2.Binds K fd q.ps ds ∧ Vals (q.df0.map V.int) ds ∧ q.df0.length ≤ q.ps.length := fun q hq hp => by
        subst hq
        obtain ⟨h1, h2⟩ := pl_iff.mp hp
        unfold EnK at hm
        rw [h1] at hm
        simp only [h2] at hm
        exact hm
      have har : ∀ ds μ, ds.length ≠ e.ps.length → runD (tbl at_ gl r) e.df ds μ = .bad := fun ds μ h => by
        unfold runD
        rw [if_neg (by rw [k2]; exact h)]
      refine ⟨B.hK, B.hW, B.blt, fun p hp => ?_, fun p hp => ?_, fun p hp => ?_, fun p hp => ?_, B.at_, fun p hp => ?_, fun C m F' hF => ?_, fun C m F' hF => ?_, isc_ B, isb_ B⟩
      · obtain ⟨q, hq, ⟨hc, hd⟩, rfl⟩ := fnsOf_mem hp
        rcases List.mem_cons.mp hq with hqe | hq
        · obtain ⟨m1, m2, ds, m3, m4, m5⟩ := hpl q hqe hc
          rw [hd] at m4
          obtain rfl := vals0 m4
          subst hqe
          refine ⟨f, fd, q.ps, lvN r + 1, m1, F.kp, m3, ?_, lv_le _ _⟩
          show FnG P w K mg base CX0 _ f fd q.ps (spOf G q.ps.length ((tbl at_ gl (q :: r)).fn q.j))
          rw [fj]
          exact ok
        · have hp2 : (q.x, q.j, q.ps.length) ∈ fnsOf r := by
            unfold fnsOf
            rw [List.mem_filterMap]
            exact ⟨q, hq, by rw [hc, hd]; rfl⟩
          obtain ⟨f2, fd2, ps2, k2, h1, h2, h3, h4, h5⟩ := (o N).fns _ hp2
          refine ⟨f2, fd2, ps2, k2, h1, h2, h3, ?_, by have := lv_le e r; omega⟩
          show FnG P w K mg base CX0 k2 f2 fd2 ps2 (spOf G q.ps.length ((tbl at_ gl (e :: r)).fn q.j))
          rw [fe _ (hj q hq)]
          exact h4
      · obtain ⟨q, hq, hc, z, hz, rfl⟩ := kwsOf_mem hp
        rcases List.mem_cons.mp hq with hqe | hq
        · obtain ⟨m1, m2, _⟩ := hpl q hqe hc
          have kz := m2 z hz
          subst hqe
          refine ⟨f, fd, q.ps, lvN r + 1, m1, F.kp, kz.b, ?_, lv_le _ _, kz.lt⟩
          show FnG P w K mg base CX0 _ f fd q.ps (spOf G z.2.2.length ((tbl at_ gl (q :: r)).fn q.j))
          rw [fj, kz.len]
          exact ok
        · have hp2 : (q.x, q.j, z.1, z.2.1, z.2.2) ∈ kwsOf r := by
            unfold kwsOf
            rw [List.mem_flatMap]
            exact ⟨q, hq, by rw [hc, if_pos rfl]; exact List.mem_map.mpr ⟨z, hz, rfl⟩⟩
          obtain ⟨f2, fd2, ps2, k2, h1, h2, h3, h4, h5, h6⟩ := (o N).kws _ hp2
          refine ⟨f2, fd2, ps2, k2, h1, h2, h3, ?_, by have := lv_le e r; omega, h6⟩
          show FnG P w K mg base CX0 k2 f2 fd2 ps2 (spOf G z.2.2.length ((tbl at_ gl (e :: r)).fn q.j))
          rw [fe _ (hj q hq)]
          exact h4
      · exact B.gls p hp
      · obtain ⟨q, hq, C, hc, rfl⟩ := clsOf_mem hp
        rcases List.mem_cons.mp hq with rfl | hq
        · obtain ⟨h0, hn⟩ := hC C hc
          unfold EnK at hm
          rw [hc] at hm
          refine ⟨f, fd, q.ps, lvN r + 1, hm.2.1, hm.2.2, hm.1, ?_, lv_cl hc⟩
          have e1 : (tbl at_ gl (q :: r)).ini C = runD (tbl at_ gl r) q.df := if_pos hc
          show FnG P w K mg base CX0 _ f fd q.ps (spOf G (q.ps.length - 1 + 1) ((tbl at_ gl (q :: r)).ini C))
          rw [e1, Nat.sub_add_cancel h0]
          exact ok
        · have hp2 : (q.x, C, q.ps.length - 1) ∈ clsOf r := by
            unfold clsOf
            rw [List.mem_filterMap]
            exact ⟨q, hq, by rw [hc]⟩
          obtain ⟨f2, fd2, ps2, k2, h1, h2, h3, h4, h5⟩ := (o N).cls _ hp2
          refine ⟨f2, fd2, ps2, k2, h1, h2, h3, ?_, by have := lv_le e r; omega⟩
          have e1 : (tbl at_ gl (e :: r)).ini C = (tbl at_ gl r).ini C := if_neg fun z => (hC C z).2 q hq hc
          show FnG P w K mg base CX0 k2 f2 fd2 ps2 (spOf G (q.ps.length - 1 + 1) ((tbl at_ gl (e :: r)).ini C))
          rw [e1]
          exact h4
      · obtain ⟨q, hq, hc, rfl⟩ := dfsOf_mem hp
        rcases List.mem_cons.mp hq with hqe | hq
        · obtain ⟨m1, m2, ds, m3, m4, m5⟩ := hpl q hqe hc
          subst hqe
          refine ⟨f, fd, q.ps, lvN r + 1, ds, m1, F.kp, m3, m4, ?_, lv_le _ _⟩
          show FnG P w K mg base CX0 _ f fd q.ps (spOf G (q.ps.length - q.df0.length + q.df0.length) ((tbl at_ gl (q :: r)).fn q.j))
          rw [fj, Nat.sub_add_cancel m5]
          exact ok
        · by_cases he : q.df0 = []
          · have hp3 : (q.x, q.j, q.ps.length) ∈ fnsOf r := by
              unfold fnsOf
              rw [List.mem_filterMap]
              exact ⟨q, hq, by rw [hc, he]; rfl⟩
            obtain ⟨f2, fd2, ps2, k2, h1, h2, h3, h4, h5⟩ := (o N).fns _ hp3
            refine ⟨f2, fd2, ps2, k2, [], h1, h2, h3, by rw [he]; exact .nil, ?_, by have := lv_le e r; omega⟩
            show FnG P w K mg base CX0 k2 f2 fd2 ps2 (spOf G (q.ps.length - q.df0.length + q.df0.length) ((tbl at_ gl (e :: r)).fn q.j))
            rw [fe _ (hj q hq), he]
            exact h4
          · have hp2 : (q.x, q.j, q.ps.length - q.df0.length, q.df0) ∈ dfsOf r := by
              unfold dfsOf
              rw [List.mem_filterMap]
              refine ⟨q, hq, ?_⟩
              have : q.df0.isEmpty = false := by
                cases hd : q.df0 with
                | nil => exact absurd hd he
                | cons _ _ => rfl
              rw [hc, this]
              rfl
            obtain ⟨f2, fd2, ps2, k2, ds, h1, h2, h3, h4, h5, h6⟩ := (o N).dfs _ hp2
            refine ⟨f2, fd2, ps2, k2, ds, h1, h2, h3, h4, ?_, by have := lv_le e r; omega⟩
            show FnG P w K mg base CX0 k2 f2 fd2 ps2 (spOf G (q.ps.length - q.df0.length + q.df0.length) ((tbl at_ gl (e :: r)).fn q.j))
            rw [fe _ (hj q hq)]
            exact h5
      · have hF : (if e.mp = some (false, C, m) then some (runD (tbl at_ gl r) e.df) else (tbl at_ gl r).mt C m) = some F' := hF
        by_cases hmp : e.mp = some (false, C, m)
        · rw [if_pos hmp] at hF
          cases hF
          cases hcl : e.cl with
          | some D =>
            -- a class's own def is no method besides
            unfold EnK at hm
            rw [hcl] at hm
            exact absurd (show e.mp = none from okM k5 hcl) (by rw [hmp]; exact fun z => by cases z)
          | none =>
            unfold EnK at hm
            rw [hcl] at hm
            simp only [hmp] at hm
            exact ⟨hm.2.1, e.ps.length, f, fd, e.ps, lvN r + 1, hm.2.2, hm.1, ok, lv_le _ _, har⟩
        · rw [if_neg hmp] at hF
          obtain ⟨h1, n', f2, fd2, ps2, k2, h2, h3, h4, h5, h6⟩ := (o N).mt C m F' hF
          exact ⟨h1, n', f2, fd2, ps2, k2, h2, h3, h4, by have := lv_le e r; omega, h6⟩
      · have hF : (if e.mp = some (true, C, m) then some (runD (tbl at_ gl r) e.df) else (tbl at_ gl r).pr C m) = some F' := hF
        by_cases hmp : e.mp = some (true, C, m)
        · rw [if_pos hmp] at hF
          cases hF
          cases hcl : e.cl with
          | some D =>
            unfold EnK at hm
            rw [hcl] at hm
            exact absurd (show e.mp = none from okM k5 hcl) (by rw [hmp]; exact fun z => by cases z)
          | none =>
            unfold EnK at hm
            rw [hcl] at hm
            simp only [hmp] at hm
            obtain ⟨p, hp⟩ := hm.2.2.1
            refine ⟨hm.2.1, p, f, fd, e.ps, lvN r + 1, hp, hm.1, ?_, lv_mp hmp⟩
            have h1 := hm.2.2.2
            have ok' := ok
            rw [h1] at ok'
            exact ok'
        · rw [if_neg hmp] at hF
          obtain ⟨h1, p, f2, fd2, ps2, k2, h2, h3, h4, h5⟩ := (o N).pr C m F' hF
          exact ⟨h1, p, f2, fd2, ps2, k2, h2, h3, h4, by have := lv_le e r; omega⟩
where
  isc_ {es : List En} (B : BsOk K w mg G at_ gl gls blt) : ∀ A C b, (tbl at_ gl es).isc A C = some b → InsX K (G.cad A) ∧ PySem.W.kitOne K (.ref (G.cad A)) (.ref (G.cad C)) = some b ∧ (tbl at_ gl es).gl (500 + C) = .cls C := fun A C b h => by
    have h : (if (at_ A "is " && at_ C "is ") = true then some (A == C) else none) = some b := by
      cases es <;> exact h
    cases hb : (at_ A "is " && at_ C "is ") with
    | false =>
      rw [hb, if_neg Bool.false_ne_true] at h
      cases h
    | true =>
      rw [hb, if_pos rfl] at h
      cases h
      obtain ⟨h1, h2⟩ := bt hb
      exact ⟨(B.is1 A h1).1, B.is2 A C h1 h2, by rw [tbl_gl]; exact (B.is1 C h2).2.2⟩
  isb_ {es : List En} (B : BsOk K w mg G at_ gl gls blt) : ∀ C, (tbl at_ gl es).isb C = true → (∀ t ∈ tyK, PySem.W.kitOne K (.type t) (.ref (G.cad C)) = some false) ∧ (tbl at_ gl es).gl (500 + C) = .cls C := fun C h => by
    have h : at_ C "is " = true := by
      cases es <;> exact h
    exact ⟨(B.is1 C h).2.1, by rw [tbl_gl]; exact (B.is1 C h).2.2⟩
  okM {e : En} {r : List En} {D : Nat} (k5 : (match e.cl with
    | none => true
    | some C => decide (0 < e.ps.length) && !(r.any fun q => q.cl == some C) && e.mp.isNone) = true) (hcl : e.cl = some D) : e.mp = none := by
    rw [hcl] at k5
    exact Option.isNone_iff_eq_none.mp (bt k5).2
theorem law_ok2 (B : BsOk K w mg G at_ gl gls blt) {r : List En} {e : En} {d : He.DefD} (c : Chain K mg G n gls blt r) (k : ckEn n gls blt e d.body d.scope r = true) {f : Addr} {fd : FuncData} {dvs : List V} {kws : List (Str × V)} (F : FunD K d.name d.qual d.params d.body d.scope dvs kws f fd) :
    FnG P w K mg base CX0 (lvN r + 1) f fd e.ps (spOf G e.ps.length (runD (tbl at_ gl r) e.df)) := okE (fun N => knot2 B c N) k F
end
end T
namespace Pg
open PySem PySem.Spec PyProof.Rows L2 T
def f_is_whole : Df := ⟨1, 1, false, [(.ret (.and (.bi (.isty "int") [(.v 0)]) (.not (.bi (.isty "bool") [(.v 0)]))))]⟩
end Pg
namespace Pg
open PySem PySem.Spec PyProof.Rows L2 T
def f_check_scheme : Df := ⟨1, 1, false, [(.ite (.not (.isi (.v 0) 1)) [.bad] [])]⟩
def f_is_integer : Df := ⟨1, 1, false, [(.ret (.and (.bi (.isty "int") [(.v 0)]) (.not (.bi (.isty "bool") [(.v 0)]))))]⟩
def f_is_between : Df := ⟨3, 3, false, [(.ret (.and (.call 102 [(.v 0)]) (.cmp2 .le .le (.v 1) (.v 0) (.v 2))))]⟩
def f_is_form : Df := ⟨2, 3, false, [(.ite (.or (.not (.bi (.isty "tuple") [(.v 1)])) (.cmp .ne (.bi .len [(.v 1)]) (.bi .len [(.fld (.v 0) "labels")]))) [(.ret (.k (.bl false)))] []), (.ret (.bi .all [(.comp false (.call 103 [(.v 2), (.neg (.g 4)), (.g 4)]) (.nm 2) .plain [(.v 1)] [] [2])]))]⟩
def f_check_form : Df := ⟨2, 2, false, [(.ite (.not (.call 156 [(.v 0), (.v 1)])) [.bad] [])]⟩
def f_image_in : Df := ⟨2, 4, false, [(.asg (.tp [(.nm 2), (.nm 3)]) (.ife (.cmp .eq (.sl (.v 0) .no (.k (.int 1))) (.k (.str "-"))) (.tup [(.neg (.k (.int 1))), (.sl (.v 0) (.k (.int 1)) .no)]) (.tup [(.k (.int 1)), (.v 0)]))), (.ret (.ife (.cmp .isin (.v 3) (.v 1)) (.tup [(.v 2), (.me .index (.v 1) [(.v 3)])]) (.k .non)))]⟩
def f_is_name : Df := ⟨1, 2, false, [(.ret (.and (.bi (.isty "str") [(.v 0)]) (.and (.cmp2 .le .le (.k (.int 1)) (.bi .len [(.v 0)]) (.k (.int 8))) (.bi .all [(.comp false (.cmp .isin (.v 1) (.g 9)) (.nm 1) .plain [(.v 0)] [] [1])]))))]⟩
def f_turn_in : Df := ⟨2, 7, false, [(.asg (.nm 2) (.me .split (.v 0) [(.k (.str ": "))])), (.ite (.or (.cmp .ne (.bi .len [(.v 2)]) (.k (.int 2))) (.or (.not (.call 104 [(.ix (.v 2) (.k (.int 0)))])) (.cmp .isin (.ix (.v 2) (.k (.int 0))) (.v 1)))) [(.ret (.k .non))] []), (.asg (.nm 3) (.comp false (.call 143 [(.v 4), (.v 1)]) (.nm 4) .plain [(.me .split (.ix (.v 2) (.k (.int 1))) [(.k (.str " "))])] [] [4])), (.ite (.or (.cmp .isin (.k .non) (.v 3)) (.cmp .ne (.bi .sorted [(.comp false (.v 6) (.tp [(.nm 5), (.nm 6)]) .plain [(.v 3)] [] [5, 6])]) (.bi .range1 [(.bi .len [(.v 1)])]))) [(.ret (.k .non))] []), (.ret (.tup [(.ix (.v 2) (.k (.int 0))), (.bi .tuple [(.v 3)])]))]⟩
def f_are_ascending : Df := ⟨1, 3, false, [(.ret (.bi .all [(.comp false (.cmp .lt (.v 1) (.v 2)) (.tp [(.nm 1), (.nm 2)]) .zip [(.v 0), (.sl (.v 0) (.k (.int 1)) .no)] [] [1, 2])]))]⟩
def f_scheme_in : Df := ⟨1, 8, false, [(.asg (.nm 1) (.ife (.bi (.isty "str") [(.v 0)]) (.me .split (.v 0) [(.k (.str "; "))]) (.lst [(.k (.str ""))]))), (.asg (.nm 2) (.me .split (.ix (.v 1) (.k (.int 0))) [(.k (.str " "))])), (.ite (.or (.cmp .gt (.bi .len [(.v 2)]) (.g 2)) (.or (.not (.bi .all [(.comp false (.call 104 [(.v 5)]) (.nm 5) .plain [(.v 2)] [] [5])])) (.not (.call 145 [(.v 2)])))) [(.ret (.k .non))] []), (.asg (.nm 3) (.comp false (.call 144 [(.v 4), (.v 2)]) (.nm 4) .plain [(.sl (.v 1) (.k (.int 1)) .no)] [] [4])), (.ite (.or (.cmp .isin (.k .non) (.v 3)) (.or (.cmp .gt (.bi .len [(.v 3)]) (.g 3)) (.not (.call 145 [(.comp false (.v 6) (.tp [(.nm 6), (.nm 7)]) .plain [(.v 3)] [] [6, 7])])))) [(.ret (.k .non))] []), (.ret (.tup [(.bi .tuple [(.v 2)]), (.v 3)]))]⟩
def f_Scheme___init__ : Df := ⟨2, 3, false, [(.asg (.nm 2) (.call 146 [(.v 1)])), (.ite (.cmp .is_ (.v 2) (.k .non)) [.bad] []), (.fld (.v 0) "written" (.v 1)), (.asg (.tp [(.at (.v 0) "labels"), (.at (.v 0) "moves")]) (.v 2))]⟩
def f_turned_once : Df := ⟨3, 7, false, [(.asg (.nm 3) (.cbin .mul (.lst [(.k (.int 0))]) (.bi .len [(.v 1)]))), (.loop (.tp [(.nm 4), (.tp [(.nm 5), (.nm 6)])]) .zip [(.v 1), (.ix (.bi .dict [(.fld (.v 0) "moves")]) (.v 2))] [(.asg (.sub (.v 3) (.v 6)) (.bin .mul (.v 5) (.v 4)))]), (.ret (.bi .tuple [(.v 3)]))]⟩
def f_turned_by : Df := ⟨3, 4, false, [(.loop (.nm 3) .plain [(.v 2)] [(.asg (.nm 1) (.call 160 [(.v 0), (.v 1), (.v 3)]))]), (.ret (.v 1))]⟩
def f_is_word : Df := ⟨2, 4, false, [(.ret (.and (.bi (.isty "str") [(.v 1)]) (.cmp .isin (.v 1) (.comp false (.v 2) (.tp [(.nm 2), (.nm 3)]) .plain [(.fld (.v 0) "moves")] [] [2, 3]))))]⟩
def f_turned : Df := ⟨3, 5, false, [(.ex (.call 155 [(.v 0)])), (.ex (.call 157 [(.v 0), (.v 1)])), (.ite (.not (.bi (.isty "tuple") [(.v 2)])) [.bad] []), (.loop (.tp [(.nm 3), (.nm 4)]) .enum [(.v 2)] [(.ite (.not (.call 159 [(.v 0), (.v 4)])) [.bad] [])]), (.ret (.call 161 [(.v 0), (.v 1), (.v 2)]))]⟩
end Pg
namespace S
open PySem T
section
variable {Γ : Tb} {ρ : T.Env} {μ : Sto} {a b c : Ee} {es : List Ee}
theorem ev_v {i : Nat} : evE Γ (.v i) ρ μ = (match ρ[i]? with
  | some (some d) => .ok d μ
  | _ => .bad) := rfl
theorem ev_k {d : D} : evE Γ (.k d) ρ μ = .ok d μ := rfl
theorem ev_g {i : Nat} : evE Γ (.g i) ρ μ = .ok (Γ.gl i) μ := rfl
theorem ev_bin {o : BOp} : evE Γ (.bin o a b) ρ μ = (evE Γ a ρ μ).bind fun x μ1 => (evE Γ b ρ μ1).bind fun y μ2 => binD o x y μ2 := rfl
theorem ev_cbin {o : BOp} : evE Γ (.cbin o a b) ρ μ = (evE Γ a ρ μ).bind fun x μ1 => (evE Γ b ρ μ1).bind fun y μ2 => cbinD o x y μ2 := rfl
def negD (x : D) (μ : Sto) : R D := match x with
  | .int i => .ok (.int (-i)) μ
  | .bl b => .ok (.int (-(if b = true then 1 else 0))) μ
  | _ => .bad
theorem ev_neg : evE Γ (.neg a) ρ μ = (evE Γ a ρ μ).bind negD := rfl
theorem neg_int {i : Int} : negD (.int i) μ = .ok (.int (-i)) μ := rfl
theorem ev_not : evE Γ (.not a) ρ μ = (evE Γ a ρ μ).bind fun x μ1 => tru x μ1 fun b => .ok (.bl (!b)) μ1 := rfl
theorem ev_cmp {o : COp} : evE Γ (.cmp o a b) ρ μ = (evE Γ a ρ μ).bind fun x μ1 => (evE Γ b ρ μ1).bind fun y μ2 => cmpD o x y μ2 := rfl
def cmp2K (r : D) (μ : Sto) (k : Sto → R D) : R D := match r with
  | .bl true => k μ
  | .bl false => .ok (.bl false) μ
  | _ => .bad
theorem ev_cmp2 {o p : COp} : evE Γ (.cmp2 o p a b c) ρ μ = (evE Γ a ρ μ).bind fun x μ1 => (evE Γ b ρ μ1).bind fun y μ2 => (cmpD o x y μ2).bind fun r μ3 => cmp2K r μ3 fun μ3 => (evE Γ c ρ μ3).bind fun z μ4 => cmpD p y z μ4 := rfl
theorem cmp2K_bl {t : Bool} {k : Sto → R D} : cmp2K (.bl t) μ k = if t = true then k μ else .ok (.bl t) μ := by cases t <;> rfl
theorem ev_and : evE Γ (.and a b) ρ μ = (evE Γ a ρ μ).bind fun x μ1 => tru x μ1 fun t => if t then evE Γ b ρ μ1 else .ok x μ1 := rfl
theorem ev_or : evE Γ (.or a b) ρ μ = (evE Γ a ρ μ).bind fun x μ1 => tru x μ1 fun t => if t then .ok x μ1 else evE Γ b ρ μ1 := rfl
theorem ev_ife : evE Γ (.ife c a b) ρ μ = (evE Γ c ρ μ).bind fun x μ1 => tru x μ1 fun t => if t then evE Γ a ρ μ1 else evE Γ b ρ μ1 := rfl
theorem ev_tup : evE Γ (.tup es) ρ μ = (evEs Γ es ρ μ).bind fun ds μ1 => if fits ds.length then .ok (.tup ds) μ1 else .bad := rfl
theorem ev_lst : evE Γ (.lst es) ρ μ = (evEs Γ es ρ μ).bind fun ds μ1 => if fits ds.length then .ok (.lst ds) μ1 else .bad := rfl
theorem ev_clst : evE Γ (.clst es) ρ μ = (evEs Γ es ρ μ).bind fun ds μ1 => if fits ds.length then .ok (.cell μ1.length) (μ1 ++ [.lst ds]) else .bad := rfl
theorem ev_ix : evE Γ (.ix a b) ρ μ = (evE Γ a ρ μ).bind fun x μ1 => (evE Γ b ρ μ1).bind fun y μ2 => ixD x y μ2 := rfl
theorem ev_sl {lo hi : Ee} : evE Γ (.sl a lo hi) ρ μ = (evE Γ a ρ μ).bind fun x μ1 => (oI lo (evE Γ lo ρ μ1) μ1).bind fun l μ2 => (oI hi (evE Γ hi ρ μ2) μ2).bind fun h μ3 => slD x l h μ3 := rfl
theorem ev_call {f : Nat} : evE Γ (.call f es) ρ μ = (evEs Γ es ρ μ).bind fun ds μ1 => Γ.fn f ds μ1 := rfl
theorem ev_bi {f : BI} : evE Γ (.bi f es) ρ μ = (evEs Γ es ρ μ).bind fun ds μ1 => biD f ds μ1 := rfl
theorem ev_me {m : ME} : evE Γ (.me m a es) ρ μ = (evE Γ a ρ μ).bind fun x μ1 => if recv m x μ1 then (evEs Γ es ρ μ1).bind fun ds μ2 => meD m x ds μ2 else .bad := rfl
theorem ev_fld {f : Str} : evE Γ (.fld a f) ρ μ = (evE Γ a ρ μ).bind fun x μ1 => fldD Γ.at_ x f μ1 := rfl
theorem ev_mk {C : Nat} : evE Γ (.mk C es) ρ μ = (evEs Γ es ρ μ).bind fun ds μ1 => mkD (Γ.ini C) C ds μ1 := rfl
theorem evs_nil : evEs Γ [] ρ μ = .ok [] μ := rfl
theorem evs_cons : evEs Γ (a :: es) ρ μ = (evE Γ a ρ μ).bind fun d μ1 => (evEs Γ es ρ μ1).bind fun ds μ2 => .ok (d :: ds) μ2 := rfl
theorem evT_eq : evT Γ a ρ μ = (evE Γ a ρ μ).bind fun d μ1 => tru d μ1 fun b => .ok b μ1 := rfl
theorem tru_bl {α : Type} {t : Bool} {f : Bool → R α} : tru (.bl t) μ f = f t := rfl
theorem and_fin {t x : Bool} : (if t = true then R.ok (D.bl x) μ else R.ok (D.bl t) μ) = R.ok (D.bl (t && x)) μ := by cases t <;> rfl
theorem or_fin {t x : Bool} : (if t = true then R.ok (D.bl t) μ else R.ok (D.bl x) μ) = R.ok (D.bl (t || x)) μ := by cases t <;> rfl
theorem ite_ok {α : Type} {t : Bool} {x y : α} : (if t = true then R.ok x μ else R.ok y μ) = R.ok (if t = true then x else y) μ := by cases t <;> rfl
theorem exb_nil : exB Γ [] ρ μ = .nx ρ μ := rfl
theorem exb_cons {s : Ss} {r : List Ss} : exB Γ (s :: r) ρ μ = (exS Γ s ρ μ).then fun ρ1 μ1 => exB Γ r ρ1 μ1 := rfl
theorem ex_pass : exS Γ .pass ρ μ = .nx ρ μ := rfl
theorem ex_ex : exS Γ (.ex a) ρ μ = (evE Γ a ρ μ).thenF fun _ μ1 => .nx ρ μ1 := rfl
theorem ex_ret : exS Γ (.ret a) ρ μ = (evE Γ a ρ μ).thenF fun d μ1 => .rt d μ1 := rfl
theorem ex_retN : exS Γ .retN ρ μ = .rt .non μ := rfl
theorem ex_asg {t : Tgt} : exS Γ (.asg t a) ρ μ = (evE Γ a ρ μ).thenF fun d μ1 => setT Γ t d ρ μ1 := rfl
theorem ex_ite {x y : List Ss} : exS Γ (.ite a x y) ρ μ = (evT Γ a ρ μ).thenF fun c μ1 => if c then exB Γ x ρ μ1 else exB Γ y ρ μ1 := rfl
theorem ex_aug {i : Nat} {o : BOp} : exS Γ (.aug i o a) ρ μ = (match ρ[i]? with
  | some (some x) => (evE Γ a ρ μ).thenF fun y μ1 => augD o i x y ρ μ1
  | _ => .bad) := rfl
def loopK (Γ : Tb) (tg : Tg) (body : List Ss) (ρ : T.Env) (μ : Sto) : Option (List D × List (Nat × List D)) → F
  | some (ds, gs) => forL gs tg (exB Γ body) ds ρ μ
  | none => .bad
theorem ex_loop {tg : Tg} {ik : IK} {body : List Ss} : exS Γ (.loop tg ik es body) ρ μ = (evEs Γ es ρ μ).thenF fun xs μ1 => loopK Γ tg body ρ μ1 (itemsOf ik xs μ1) := by
  show (evEs Γ es ρ μ).thenF _ = _
  congr 1
theorem ex_whl {n : Nat} {body : List Ss} : exS Γ (.whl n a body) ρ μ = whlL (evT Γ a) (exB Γ body) n ρ μ := rfl
theorem set_nm {i : Nat} {d : D} : setT Γ (.nm i) d ρ μ = .nx (ρ.set i (some d)) μ := rfl
theorem set_tp {ts : List Tgt} {ds : List D} : setT Γ (.tp ts) (.tup ds) ρ μ = if ds.length = ts.length then setTs Γ ts ds ρ μ else .bad := rfl
theorem sets_nil : setTs Γ [] [] ρ μ = .nx ρ μ := rfl
theorem sets_cons {t : Tgt} {ts : List Tgt} {d : D} {ds : List D} : setTs Γ (t :: ts) (d :: ds) ρ μ = (setT Γ t d ρ μ).then fun ρ1 μ1 => setTs Γ ts ds ρ1 μ1 := rfl
def finD (keep : Bool) (n : Nat) : F → R D
  | .rt d μ1 => leave keep n d μ1
  | .nx _ μ1 => leave keep n .non μ1
  | .exc C xs μ1 => leaveX n C xs μ1
  | _ => .bad
theorem run_eq {f : Df} {ds : List D} (h : ds.length = f.ps) : runD Γ f ds μ = finD f.keep μ.length (exB Γ f.body (startE f.N ds) μ) := by
  unfold runD
  rw [if_pos h]
  cases exB Γ f.body (startE f.N ds) μ <;> rfl
theorem fin_rt {k : Bool} {n : Nat} {d : D} : finD k n (.rt d μ) = leave k n d μ := rfl
theorem fin_nx {k : Bool} {n : Nat} : finD k n (.nx ρ μ) = leave k n .non μ := rfl
theorem leave_same {k : Bool} {d : D} : leave k μ.length d μ = .ok d μ := if_pos rfl
end
theorem ist_tuple_non {μ : Sto} : biD (.isty "tuple") [.non] μ = .ok (.bl false) μ := rfl
theorem ist_tuple_bl {b : Bool} {μ : Sto} : biD (.isty "tuple") [.bl b] μ = .ok (.bl false) μ := rfl
theorem ist_tuple_int {i : Int} {μ : Sto} : biD (.isty "tuple") [.int i] μ = .ok (.bl false) μ := rfl
theorem ist_tuple_str {x : Str} {μ : Sto} : biD (.isty "tuple") [.str x] μ = .ok (.bl false) μ := rfl
theorem ist_tuple_tup {ds : List D} {μ : Sto} : biD (.isty "tuple") [.tup ds] μ = .ok (.bl true) μ := rfl
theorem ist_tuple_lst {ds : List D} {μ : Sto} : biD (.isty "tuple") [.lst ds] μ = .ok (.bl false) μ := rfl
theorem ist_tuple_fro {ds : List D} {μ : Sto} : biD (.isty "tuple") [.fro ds] μ = .ok (.bl false) μ := rfl
theorem ist_tuple_dic {ks : List L2.Key} {ds : List D} {μ : Sto} : biD (.isty "tuple") [.dic ks ds] μ = .ok (.bl false) μ := rfl
theorem ist_str_non {μ : Sto} : biD (.isty "str") [.non] μ = .ok (.bl false) μ := rfl
theorem ist_str_bl {b : Bool} {μ : Sto} : biD (.isty "str") [.bl b] μ = .ok (.bl false) μ := rfl
theorem ist_str_int {i : Int} {μ : Sto} : biD (.isty "str") [.int i] μ = .ok (.bl false) μ := rfl
theorem ist_str_str {x : Str} {μ : Sto} : biD (.isty "str") [.str x] μ = .ok (.bl true) μ := rfl
theorem ist_str_tup {ds : List D} {μ : Sto} : biD (.isty "str") [.tup ds] μ = .ok (.bl false) μ := rfl
theorem ist_str_lst {ds : List D} {μ : Sto} : biD (.isty "str") [.lst ds] μ = .ok (.bl false) μ := rfl
theorem ist_str_fro {ds : List D} {μ : Sto} : biD (.isty "str") [.fro ds] μ = .ok (.bl false) μ := rfl
theorem ist_str_dic {ks : List L2.Key} {ds : List D} {μ : Sto} : biD (.isty "str") [.dic ks ds] μ = .ok (.bl false) μ := rfl
theorem ist_int_non {μ : Sto} : biD (.isty "int") [.non] μ = .ok (.bl false) μ := rfl
theorem ist_int_bl {b : Bool} {μ : Sto} : biD (.isty "int") [.bl b] μ = .ok (.bl true) μ := rfl
theorem ist_int_int {i : Int} {μ : Sto} : biD (.isty "int") [.int i] μ = .ok (.bl true) μ := rfl
theorem ist_int_str {x : Str} {μ : Sto} : biD (.isty "int") [.str x] μ = .ok (.bl false) μ := rfl
theorem ist_int_tup {ds : List D} {μ : Sto} : biD (.isty "int") [.tup ds] μ = .ok (.bl false) μ := rfl
theorem ist_int_lst {ds : List D} {μ : Sto} : biD (.isty "int") [.lst ds] μ = .ok (.bl false) μ := rfl
theorem ist_int_fro {ds : List D} {μ : Sto} : biD (.isty "int") [.fro ds] μ = .ok (.bl false) μ := rfl
theorem ist_int_dic {ks : List L2.Key} {ds : List D} {μ : Sto} : biD (.isty "int") [.dic ks ds] μ = .ok (.bl false) μ := rfl
theorem ist_bool_non {μ : Sto} : biD (.isty "bool") [.non] μ = .ok (.bl false) μ := rfl
theorem ist_bool_bl {b : Bool} {μ : Sto} : biD (.isty "bool") [.bl b] μ = .ok (.bl true) μ := rfl
theorem ist_bool_int {i : Int} {μ : Sto} : biD (.isty "bool") [.int i] μ = .ok (.bl false) μ := rfl
theorem ist_bool_str {x : Str} {μ : Sto} : biD (.isty "bool") [.str x] μ = .ok (.bl false) μ := rfl
theorem ist_bool_tup {ds : List D} {μ : Sto} : biD (.isty "bool") [.tup ds] μ = .ok (.bl false) μ := rfl
theorem ist_bool_lst {ds : List D} {μ : Sto} : biD (.isty "bool") [.lst ds] μ = .ok (.bl false) μ := rfl
theorem ist_bool_fro {ds : List D} {μ : Sto} : biD (.isty "bool") [.fro ds] μ = .ok (.bl false) μ := rfl
theorem ist_bool_dic {ks : List L2.Key} {ds : List D} {μ : Sto} : biD (.isty "bool") [.dic ks ds] μ = .ok (.bl false) μ := rfl
section
variable {Γ : Tb} {ρ : T.Env} {μ : Sto} {a b c d e f g : Ee}
theorem ev_tup0 : evE Γ (.tup []) ρ μ = .ok (.tup []) μ := rfl
theorem ev_tup1 : evE Γ (.tup [a]) ρ μ = (evE Γ a ρ μ).bind fun x1 μ1 => .ok (.tup [x1]) μ1 := by
  rw [ev_tup]
  rw [evs_cons]
  cases evE Γ a ρ μ with
  | exc _ _ _ => rfl
  | bad => rfl
  | ok x1 μ1 =>
  simp only [R.bind_ok]
  simp only [evs_nil, R.bind_ok]
  exact if_pos (fits_small (by show _ ≤ 1000; simp))
theorem ev_tup2 : evE Γ (.tup [a, b]) ρ μ = (evE Γ a ρ μ).bind fun x1 μ1 => (evE Γ b ρ μ1).bind fun x2 μ2 => .ok (.tup [x1, x2]) μ2 := by
  rw [ev_tup]
  rw [evs_cons]
  cases evE Γ a ρ μ with
  | exc _ _ _ => rfl
  | bad => rfl
  | ok x1 μ1 =>
  simp only [R.bind_ok]
  rw [evs_cons]
  cases evE Γ b ρ μ1 with
  | exc _ _ _ => rfl
  | bad => rfl
  | ok x2 μ2 =>
  simp only [R.bind_ok]
  simp only [evs_nil, R.bind_ok]
  exact if_pos (fits_small (by show _ ≤ 1000; simp))
theorem ev_tup3 : evE Γ (.tup [a, b, c]) ρ μ = (evE Γ a ρ μ).bind fun x1 μ1 => (evE Γ b ρ μ1).bind fun x2 μ2 => (evE Γ c ρ μ2).bind fun x3 μ3 => .ok (.tup [x1, x2, x3]) μ3 := by
  rw [ev_tup]
  rw [evs_cons]
  cases evE Γ a ρ μ with
  | exc _ _ _ => rfl
  | bad => rfl
  | ok x1 μ1 =>
  simp only [R.bind_ok]
  rw [evs_cons]
  cases evE Γ b ρ μ1 with
  | exc _ _ _ => rfl
  | bad => rfl
  | ok x2 μ2 =>
  simp only [R.bind_ok]
  rw [evs_cons]
  cases evE Γ c ρ μ2 with
  | exc _ _ _ => rfl
  | bad => rfl
  | ok x3 μ3 =>
  simp only [R.bind_ok]
  simp only [evs_nil, R.bind_ok]
  exact if_pos (fits_small (by show _ ≤ 1000; simp))
theorem ev_tup4 : evE Γ (.tup [a, b, c, d]) ρ μ = (evE Γ a ρ μ).bind fun x1 μ1 => (evE Γ b ρ μ1).bind fun x2 μ2 => (evE Γ c ρ μ2).bind fun x3 μ3 => (evE Γ d ρ μ3).bind fun x4 μ4 => .ok (.tup [x1, x2, x3, x4]) μ4 := by
  rw [ev_tup]
  rw [evs_cons]
  cases evE Γ a ρ μ with
  | exc _ _ _ => rfl
  | bad => rfl
  | ok x1 μ1 =>
  simp only [R.bind_ok]
  rw [evs_cons]
  cases evE Γ b ρ μ1 with
  | exc _ _ _ => rfl
  | bad => rfl
  | ok x2 μ2 =>
  simp only [R.bind_ok]
  rw [evs_cons]
  cases evE Γ c ρ μ2 with
  | exc _ _ _ => rfl
  | bad => rfl
  | ok x3 μ3 =>
  simp only [R.bind_ok]
  rw [evs_cons]
  cases evE Γ d ρ μ3 with
  | exc _ _ _ => rfl
  | bad => rfl
  | ok x4 μ4 =>
  simp only [R.bind_ok]
  simp only [evs_nil, R.bind_ok]
  exact if_pos (fits_small (by show _ ≤ 1000; simp))
theorem ev_tup5 : evE Γ (.tup [a, b, c, d, e]) ρ μ = (evE Γ a ρ μ).bind fun x1 μ1 => (evE Γ b ρ μ1).bind fun x2 μ2 => (evE Γ c ρ μ2).bind fun x3 μ3 => (evE Γ d ρ μ3).bind fun x4 μ4 => (evE Γ e ρ μ4).bind fun x5 μ5 => .ok (.tup [x1, x2, x3, x4, x5]) μ5 := by
  rw [ev_tup]
  rw [evs_cons]
  cases evE Γ a ρ μ with
  | exc _ _ _ => rfl
  | bad => rfl
  | ok x1 μ1 =>
  simp only [R.bind_ok]
  rw [evs_cons]
  cases evE Γ b ρ μ1 with
  | exc _ _ _ => rfl
  | bad => rfl
  | ok x2 μ2 =>
  simp only [R.bind_ok]
  rw [evs_cons]
  cases evE Γ c ρ μ2 with
  | exc _ _ _ => rfl
  | bad => rfl
  | ok x3 μ3 =>
  simp only [R.bind_ok]
  rw [evs_cons]
  cases evE Γ d ρ μ3 with
  | exc _ _ _ => rfl
  | bad => rfl
  | ok x4 μ4 =>
  simp only [R.bind_ok]
  rw [evs_cons]
  cases evE Γ e ρ μ4 with
  | exc _ _ _ => rfl
  | bad => rfl
  | ok x5 μ5 =>
  simp only [R.bind_ok]
  simp only [evs_nil, R.bind_ok]
  exact if_pos (fits_small (by show _ ≤ 1000; simp))
theorem ev_tup6 : evE Γ (.tup [a, b, c, d, e, f]) ρ μ = (evE Γ a ρ μ).bind fun x1 μ1 => (evE Γ b ρ μ1).bind fun x2 μ2 => (evE Γ c ρ μ2).bind fun x3 μ3 => (evE Γ d ρ μ3).bind fun x4 μ4 => (evE Γ e ρ μ4).bind fun x5 μ5 => (evE Γ f ρ μ5).bind fun x6 μ6 => .ok (.tup [x1, x2, x3, x4, x5, x6]) μ6 := by
  rw [ev_tup]
  rw [evs_cons]
  cases evE Γ a ρ μ with
  | exc _ _ _ => rfl
  | bad => rfl
  | ok x1 μ1 =>
  simp only [R.bind_ok]
  rw [evs_cons]
  cases evE Γ b ρ μ1 with
  | exc _ _ _ => rfl
  | bad => rfl
  | ok x2 μ2 =>
  simp only [R.bind_ok]
  rw [evs_cons]
  cases evE Γ c ρ μ2 with
  | exc _ _ _ => rfl
  | bad => rfl
  | ok x3 μ3 =>
  simp only [R.bind_ok]
  rw [evs_cons]
  cases evE Γ d ρ μ3 with
  | exc _ _ _ => rfl
  | bad => rfl
  | ok x4 μ4 =>
  simp only [R.bind_ok]
  rw [evs_cons]
  cases evE Γ e ρ μ4 with
  | exc _ _ _ => rfl
  | bad => rfl
  | ok x5 μ5 =>
  simp only [R.bind_ok]
  rw [evs_cons]
  cases evE Γ f ρ μ5 with
  | exc _ _ _ => rfl
  | bad => rfl
  | ok x6 μ6 =>
  simp only [R.bind_ok]
  simp only [evs_nil, R.bind_ok]
  exact if_pos (fits_small (by show _ ≤ 1000; simp))
theorem ev_tup7 : evE Γ (.tup [a, b, c, d, e, f, g]) ρ μ = (evE Γ a ρ μ).bind fun x1 μ1 => (evE Γ b ρ μ1).bind fun x2 μ2 => (evE Γ c ρ μ2).bind fun x3 μ3 => (evE Γ d ρ μ3).bind fun x4 μ4 => (evE Γ e ρ μ4).bind fun x5 μ5 => (evE Γ f ρ μ5).bind fun x6 μ6 => (evE Γ g ρ μ6).bind fun x7 μ7 => .ok (.tup [x1, x2, x3, x4, x5, x6, x7]) μ7 := by
  rw [ev_tup]
  rw [evs_cons]
  cases evE Γ a ρ μ with
  | exc _ _ _ => rfl
  | bad => rfl
  | ok x1 μ1 =>
  simp only [R.bind_ok]
  rw [evs_cons]
  cases evE Γ b ρ μ1 with
  | exc _ _ _ => rfl
  | bad => rfl
  | ok x2 μ2 =>
  simp only [R.bind_ok]
  rw [evs_cons]
  cases evE Γ c ρ μ2 with
  | exc _ _ _ => rfl
  | bad => rfl
  | ok x3 μ3 =>
  simp only [R.bind_ok]
  rw [evs_cons]
  cases evE Γ d ρ μ3 with
  | exc _ _ _ => rfl
  | bad => rfl
  | ok x4 μ4 =>
  simp only [R.bind_ok]
  rw [evs_cons]
  cases evE Γ e ρ μ4 with
  | exc _ _ _ => rfl
  | bad => rfl
  | ok x5 μ5 =>
  simp only [R.bind_ok]
  rw [evs_cons]
  cases evE Γ f ρ μ5 with
  | exc _ _ _ => rfl
  | bad => rfl
  | ok x6 μ6 =>
  simp only [R.bind_ok]
  rw [evs_cons]
  cases evE Γ g ρ μ6 with
  | exc _ _ _ => rfl
  | bad => rfl
  | ok x7 μ7 =>
  simp only [R.bind_ok]
  simp only [evs_nil, R.bind_ok]
  exact if_pos (fits_small (by show _ ≤ 1000; simp))
end
end S
open S T in
local macro_rules
  | `(tactic| simp only [evz]) => `(tactic| simp only [ev_v, ev_k, ev_g, ev_bin, ev_cbin, ev_neg, neg_int, ev_not, ev_cmp, ev_cmp2, cmp2K_bl, ev_and, ev_or, ev_ife, ev_tup0, ev_tup1, ev_tup2, ev_tup3, ev_tup4, ev_tup5, ev_tup6, ev_tup7, ev_lst, ev_clst, ev_ix, ev_sl, ev_call, ev_bi, ev_me, ev_fld, ev_mk, evs_nil, evs_cons, evT_eq, tru_bl, and_fin, or_fin, exb_nil, exb_cons, ex_pass, ex_ex, ex_ret, ex_retN, ex_asg, ex_ite, ex_aug, ex_loop, ex_whl, set_nm, set_tp, sets_nil, sets_cons, fin_rt, fin_nx, leave_same, R.bind_ok, R.thenF_ok, F.then_nx, F.then_rt, List.getElem?_cons_zero, List.getElem?_cons_succ, List.set_cons_zero, List.set_cons_succ, startE, List.map_cons, List.map_nil, List.length_cons, List.length_nil, List.cons_append, List.nil_append, ist_tuple_non, ist_tuple_bl, ist_tuple_int, ist_tuple_str, ist_tuple_tup, ist_tuple_lst, ist_tuple_fro, ist_tuple_dic, ist_str_non, ist_str_bl, ist_str_int, ist_str_str, ist_str_tup, ist_str_lst, ist_str_fro, ist_str_dic, ist_int_non, ist_int_bl, ist_int_int, ist_int_str, ist_int_tup, ist_int_lst, ist_int_fro, ist_int_dic, ist_bool_non, ist_bool_bl, ist_bool_int, ist_bool_str, ist_bool_tup, ist_bool_lst, ist_bool_fro, ist_bool_dic, Bool.not_true, Bool.not_false, if_true, if_false, Bool.false_eq_true, ite_true, ite_false])
  | `(tactic| simp only [$as,*, evz]) => `(tactic| simp only [$as,*, ev_v, ev_k, ev_g, ev_bin, ev_cbin, ev_neg, neg_int, ev_not, ev_cmp, ev_cmp2, cmp2K_bl, ev_and, ev_or, ev_ife, ev_tup0, ev_tup1, ev_tup2, ev_tup3, ev_tup4, ev_tup5, ev_tup6, ev_tup7, ev_lst, ev_clst, ev_ix, ev_sl, ev_call, ev_bi, ev_me, ev_fld, ev_mk, evs_nil, evs_cons, evT_eq, tru_bl, and_fin, or_fin, exb_nil, exb_cons, ex_pass, ex_ex, ex_ret, ex_retN, ex_asg, ex_ite, ex_aug, ex_loop, ex_whl, set_nm, set_tp, sets_nil, sets_cons, fin_rt, fin_nx, leave_same, R.bind_ok, R.thenF_ok, F.then_nx, F.then_rt, List.getElem?_cons_zero, List.getElem?_cons_succ, List.set_cons_zero, List.set_cons_succ, startE, List.map_cons, List.map_nil, List.length_cons, List.length_nil, List.cons_append, List.nil_append, ist_tuple_non, ist_tuple_bl, ist_tuple_int, ist_tuple_str, ist_tuple_tup, ist_tuple_lst, ist_tuple_fro, ist_tuple_dic, ist_str_non, ist_str_bl, ist_str_int, ist_str_str, ist_str_tup, ist_str_lst, ist_str_fro, ist_str_dic, ist_int_non, ist_int_bl, ist_int_int, ist_int_str, ist_int_tup, ist_int_lst, ist_int_fro, ist_int_dic, ist_bool_non, ist_bool_bl, ist_bool_int, ist_bool_str, ist_bool_tup, ist_bool_lst, ist_bool_fro, ist_bool_dic, Bool.not_true, Bool.not_false, if_true, if_false, Bool.false_eq_true, ite_true, ite_false])
namespace S
open PySem T
theorem eqB_int (a b : Int) (μ : Sto) : eqB μ (.int a) (.int b) = some (decide (a = b)) := by
  show (if (SeqAt.shaped (.int a) && SeqAt.shaped (.int b)) = true then some (PyData.eqv (.int a) (.int b)) else none) = _
  have h : (SeqAt.shaped (.int a) && SeqAt.shaped (.int b)) = true := rfl
  rw [h]
  show some (PyData.eqv (.int a) (.int b)) = _
  simp [PyData.eqv]
  rfl
theorem eq_int (a b : Int) (μ : Sto) : cmpD .eq (.int a) (.int b) μ = .ok (.bl (decide (a = b))) μ := by
  show (match eqB μ (.int a) (.int b) with
    | some b => R.ok (D.bl b) μ
    | none => .bad) = _
  rw [eqB_int]
theorem ne_int (a b : Int) (μ : Sto) : cmpD .ne (.int a) (.int b) μ = .ok (.bl (!decide (a = b))) μ := by
  show (match eqB μ (.int a) (.int b) with
    | some b => R.ok (D.bl (!b)) μ
    | none => .bad) = _
  rw [eqB_int]
def ty (v : D) : Bool := (tyOf [] v).isSome
def isI : D → Bool
  | .int _ => true
  | _ => false
theorem whole (Γ : Tb) (v : D) (μ : Sto) (h : ty v = true) : runD Γ Pg.f_is_whole [v] μ = .ok (.bl (isI v)) μ := by
  have e : runD Γ Pg.f_is_whole [v] μ = finD false μ.length (exB Γ Pg.f_is_whole.body [some v] μ) := run_eq rfl
  rw [e]
  cases v <;> first
    | (simp [ty, tyOf] at h; done)
    | (simp only [Pg.f_is_whole, evz]; rfl)
theorem bools_map {α : Type} (p : α → Bool) : ∀ ds : List α, bools (ds.map fun d => .bl (p d)) = some (ds.map p)
  | [] => rfl
  | d :: ds => by
    rw [List.map_cons]
    show (bools (ds.map fun d => D.bl (p d))).map (p d :: ·) = _
    rw [bools_map p ds]
    rfl
theorem all_map {α : Type} (p : α → Bool) (ds : List α) (μ : Sto) : biD .all [.lst (ds.map fun d => .bl (p d))] μ = .ok (.bl (ds.all p)) μ := by
  show optR ((lstOf μ (.lst (ds.map fun d => .bl (p d)))).bind bools) μ (fun bs => .bl (bs.all id)) = _
  simp only [lstOf, Option.bind_some, bools_map, optR]
  rw [List.all_map]
  rfl
mutual
def pl : D → Bool
  | .non => true | .bl _ => true | .int _ => true | .str _ => true
  | .tup ds => pls ds | .lst ds => pls ds | .fro ds => pls ds | .dic _ ds => pls ds
  | _ => false
def pls : List D → Bool
  | [] => true
  | d :: ds => pl d && pls ds
end
theorem ty_tup {ds : List D} {μ : Sto} : biD (.isty "tuple") [.tup ds] μ = .ok (.bl true) μ := rfl
end S
namespace S
open PySem T
theorem ev_compM {α : Type} {Γ : Tb} {ρ : T.Env} {μ : Sto} {melt : Ee} {mt : Tg} {ik : IK} {mits : List Ee} {own : List Nat} {xs : List D} (ps : List α) (g f : α → D) (h1 : evEs Γ mits ρ μ = .ok xs μ) (h2 : itemsOf ik xs μ = some (ps.map g, []))
    (h : ∀ p ∈ ps, ∃ ρ1, setTg μ mt (g p) (wipeE ρ own) = some ρ1 ∧ evE Γ melt ρ1 μ = .ok (f p) μ) : evE Γ (.comp false melt mt ik mits [] own) ρ μ = .ok (.lst (ps.map f)) μ := by
  have key : ∀ (ps : List α) (acc : List D), (∀ p ∈ ps, ∃ ρ1, setTg μ mt (g p) (wipeE ρ own) = some ρ1 ∧ evE Γ melt ρ1 μ = .ok (f p) μ) → compL [] (wipeE ρ own) mt (evIfs Γ []) (evE Γ melt) (ps.map g) acc μ = .ok (acc ++ ps.map f) μ := by
    intro ps
    induction ps with
    | nil =>
      intro acc _
      unfold compL
      rw [List.map_nil]
      simp only
      rw [ifStill_nil]
      simp
    | cons p ps ih =>
      intro acc h
      obtain ⟨ρ1, h1, h2⟩ := h p (by simp)
      rw [List.map_cons]
      unfold compL
      rw [ifStill_nil]
      simp only [h1]
      show (R.ok true μ).bind (fun b μ1 => if b = true then (evE Γ melt ρ1 μ1).bind fun y μ2 => compL [] (wipeE ρ own) mt (evIfs Γ []) (evE Γ melt) (ps.map g) (acc ++ [y]) μ2 else compL [] (wipeE ρ own) mt (evIfs Γ []) (evE Γ melt) (ps.map g) acc μ1) = _
      rw [R.bind_ok, if_pos rfl, h2, R.bind_ok, ih _ fun p hp => h p (by simp [hp])]
      simp
  show (evEs Γ mits ρ μ).bind _ = _
  rw [h1, R.bind_ok]
  simp only [h2]
  rw [key ps [] h]
  simp
abbrev tI (xs : List Int) : D := .tup (xs.map .int)
theorem ints_map {α : Type} (f : α → Int) : ∀ ps : List α, intsD (ps.map fun p => .int (f p)) = some (ps.map f)
  | [] => rfl
  | p :: ps => by
    rw [List.map_cons]
    show (intsD (ps.map fun p => D.int (f p))).map (f p :: ·) = _
    rw [ints_map f ps]
    rfl
theorem sum_map {α : Type} (f : α → Int) (ps : List α) (μ : Sto) : biD .sum [.lst (ps.map fun p => .int (f p))] μ = .ok (.int (ps.map f).sum) μ := by
  show optR ((lstOf μ (.lst (ps.map fun p => .int (f p)))).bind intsD) μ _ = _
  simp only [lstOf, Option.bind_some, ints_map, optR]
def small (x : Int) : Prop := -(2 ^ 64) < x ∧ x < 2 ^ 64
theorem mul_l {i j : Int} (h : small i) (μ : Sto) : binD .mul (.int i) (.int j) μ = .ok (.int (i * j)) μ := by
  show (if mulOk i j = true then R.ok (D.int (i * j)) μ else .bad) = _
  have : mulOk i j = true := by
    unfold mulOk
    rw [show decide (-(2 ^ 64) < i ∧ i < 2 ^ 64) = true from decide_eq_true h]
    rfl
  rw [if_pos this]
theorem mul_r {i j : Int} (h : small j) (μ : Sto) : binD .mul (.int i) (.int j) μ = .ok (.int (i * j)) μ := by
  show (if mulOk i j = true then R.ok (D.int (i * j)) μ else .bad) = _
  have : mulOk i j = true := by
    unfold mulOk
    rw [show decide (-(2 ^ 64) < j ∧ j < 2 ^ 64) = true from decide_eq_true h]
    simp
  rw [if_pos this]
theorem add_int {i j : Int} (μ : Sto) : binD .add (.int i) (.int j) μ = .ok (.int (i + j)) μ := rfl
def dot (xs ys : List Int) : Int := ((xs.zip ys).map fun p => p.1 * p.2).sum
theorem len_tI {xs : List Int} {μ : Sto} : biD .len [tI xs] μ = .ok (.int xs.length) μ := by
  show R.ok (D.int ((xs.map D.int).length : Nat)) μ = _
  rw [List.length_map]
end S
namespace S
open PySem T
theorem mod_int {i j : Int} (h : 0 < j) (μ : Sto) : binD .mod (.int i) (.int j) μ = .ok (.int (i % j)) μ := by
  show (if decide (j ≠ 0) = true then R.ok (D.int (i.fmod j)) μ else .bad) = _
  rw [if_pos (decide_eq_true (by omega)), Int.fmod_eq_emod_of_nonneg i (by omega)]
abbrev gT : Ee := .cmp .ne (.v 1) (.k (.int 0))
theorem abs_int (i : Int) (μ : Sto) : biD .abs [.int i] μ = .ok (.int i.natAbs) μ := by
  show R.ok (D.int (if i < 0 then -i else i)) μ = _
  congr 2
  split <;> omega
end S
namespace S
open PySem T
theorem gt_int (a b : Int) (μ : Sto) : cmpD .gt (.int a) (.int b) μ = .ok (.bl (decide (b < a))) μ := rfl
theorem le_int (a b : Int) (μ : Sto) : cmpD .le (.int a) (.int b) μ = .ok (.bl (decide (a ≤ b))) μ := rfl
theorem lt_int (a b : Int) (μ : Sto) : cmpD .lt (.int a) (.int b) μ = .ok (.bl (decide (a < b))) μ := rfl
abbrev fr (p : Int × Int) : D := .tup [.int p.1, .int p.2]
def Sq (μ : Sto) (x : D) (ds : List D) : Prop := srcOf μ x = some (ds, [])
theorem sq_tup {μ : Sto} {ds : List D} : Sq μ (.tup ds) ds := rfl
theorem sq_lst {μ : Sto} {ds : List D} : Sq μ (.lst ds) ds := rfl
theorem zip_sq {μ : Sto} {x y : D} {a b : List D} (h1 : Sq μ x a) (h2 : Sq μ y b) : itemsOf .zip [x, y] μ = some (List.zipWith (fun a b => .tup [a, b]) a b, []) := by
  show (match srcOf μ x, srcOf μ y with
    | some p, some q => some (p.1.zipWith (fun a b => D.tup [a, b]) q.1, p.2 ++ q.2)
    | _, _ => none) = _
  rw [show srcOf μ x = some (a, []) from h1, show srcOf μ y = some (b, []) from h2]
  rfl
theorem zipW_map {α β : Type} (f : α → D) (g : β → D) : ∀ (xs : List α) (ys : List β), List.zipWith (fun a b => D.tup [a, b]) (xs.map f) (ys.map g) = (xs.zip ys).map fun p => .tup [f p.1, g p.2]
  | [], _ => rfl
  | _ :: _, [] => rfl
  | x :: xs, y :: ys => by rw [List.map_cons, List.map_cons, List.zipWith_cons_cons, List.zip_cons_cons, List.map_cons, zipW_map f g xs ys]
end S
namespace S
open PySem T
theorem ix_tI {xs : List Int} {k : Nat} (h : k < xs.length) {μ : Sto} : ixD (tI xs) (.int k) μ = .ok (.int (xs.getD k 0)) μ := by
  show (match L2.atI (xs.map D.int) k with
    | some d => R.ok d μ
    | none => .bad) = _
  have : L2.atI (xs.map D.int) k = some (.int (xs.getD k 0)) := by
    unfold L2.atI L2.ixN
    rw [if_pos (by omega), if_pos (by rw [List.length_map]; omega)]
    simp only [Int.toNat_natCast, Option.bind_some, List.getElem?_map]
    rw [List.getElem?_eq_getElem h]
    simp [List.getD, h]
  rw [this]
end S
namespace S
open PySem T
end S
namespace S
open PySem T
theorem oI_no {r : R D} {μ : Sto} : oI .no r μ = .ok none μ := rfl
theorem oI_k {d : D} {i : Int} {μ μ1 : Sto} : oI (.k d) (.ok (.int i) μ1) μ = .ok (some i) μ1 := rfl
abbrev mv : Int := 1000000000000
end S
namespace S
open PySem T
abbrev Rd : Type := List Int × Int × Int
end S
namespace S
open PySem T
theorem range_items {n : Nat} (h : n ≤ 1000) (μ : Sto) : itemsOf .range [.int n] μ = some ((List.range n).map fun (i : Nat) => .int (i : Int), []) := by
  simp only [itemsOf]
  rw [if_pos]
  · rw [Int.toNat_natCast]
  · rw [Bool.and_eq_true]
    exact ⟨decide_eq_true (by omega), by rw [Int.toNat_natCast]; exact fits_small h⟩
end S
namespace S
open PySem T
end S
namespace S
open PySem T
end S
namespace S
open PySem T
end S
namespace S
open PySem T
def wd : Str → Prop := fun w => w ∈ (["tells", "hides", "turned", "unseen", "fits", "barred", "least", "reached", "width", "wide"] : List Str)
end S
namespace S
open PySem T
end S
namespace S
open PySem T
end S
namespace S
open PySem T
end S
namespace S
open PySem T
def Wf (μ : Sto) : Prop := μ.all (belowC μ.length) = true
theorem bel_ints (n : Nat) : ∀ xs : List Int, belows n (xs.map .int) = true
  | [] => rfl
  | x :: xs => by
    show (below n (.int x) && belows n (xs.map .int)) = true
    rw [bel_ints n xs]
    rfl
theorem leave_tI {μ : Sto} (h : Wf μ) (c : Cell) (xs : List Int) : leave false μ.length (tI xs) (μ ++ [c]) = .ok (tI xs) μ := by
  unfold leave
  rw [if_neg (by simp), List.take_left, if_pos (show μ.all (belowC μ.length) = true from h)]
  have : thaw μ.length (μ ++ [c]) (tI xs) = some (tI xs) := by
    exact if_pos (show below μ.length (tI xs) = true from bel_ints _ xs)
  simp only [this]
abbrev Im : Type := List (Int × Nat)
abbrev imD (q : Int × Nat) : D := .tup [.int q.1, .int q.2]
def turnI (acc : List Int) : List (Int × (Int × Nat)) → List Int
  | [] => acc
  | p :: r => turnI (acc.set p.2.2 (p.2.1 * p.1)) r
abbrev bhB : List Ss := [.asg (.sub (.v 3) (.v 6)) (.bin .mul (.v 5) (.v 4))]
theorem set_sub {Γ : Tb} {ρ : T.Env} {μ : Sto} {a i : Ee} {d : D} : setT Γ (.sub a i) d ρ μ = (evE Γ a ρ μ).thenF fun o μ1 => (evE Γ i ρ μ1).thenF fun j μ2 => (match setItemD o j d μ2 with
    | some μ3 => .nx ρ μ3
    | none => .bad) := rfl
theorem setItem_cell {μ : Sto} {xs : List Int} {k : Nat} {x : Int} (h : k < xs.length) : setItemD (.cell μ.length) (.int k) (.int x) (μ ++ [.lst (xs.map .int)]) = some (μ ++ [.lst ((xs.set k x).map .int)]) := by
  have h1 : (μ ++ [Cell.lst (xs.map .int)])[μ.length]? = some (.lst (xs.map .int)) := by simp
  have h2 : L2.ixN (xs.map D.int).length k = some k := by
    unfold L2.ixN
    rw [if_pos (by omega), if_pos (by rw [List.length_map]; omega)]
    simp
  have h3 : (μ ++ [Cell.lst (xs.map D.int)]).set μ.length (.lst ((xs.map D.int).set k (.int x))) = μ ++ [.lst ((xs.set k x).map .int)] := by
    rw [List.set_append_right _ _ (Nat.le_refl _), Nat.sub_self, List.map_set]
    rfl
  show (match (μ ++ [Cell.lst (xs.map D.int)])[μ.length]? with
    | some (.lst ds) => (L2.ixN ds.length k).map fun n => (μ ++ [Cell.lst (xs.map D.int)]).set μ.length (.lst (ds.set n (.int x)))
    | _ => none) = _
  rw [h1]
  simp only [h2, Option.map_some, h3]
theorem bh_loop {Γ : Tb} {μ : Sto} (A B C : D) : ∀ (ps : List (Int × (Int × Nat))) (acc : List Int) (x y z : Option D), (∀ p ∈ ps, p.2.2 < acc.length ∧ small p.1) →
    ∃ x' y' z', forL [] (.tp [.nm 4, .tp [.nm 5, .nm 6]]) (exB Γ bhB) (ps.map fun p => .tup [.int p.1, imD p.2]) [some A, some B, some C, some (.cell μ.length), x, y, z] (μ ++ [.lst (acc.map .int)]) = .nx [some A, some B, some C, some (.cell μ.length), x', y', z'] (μ ++ [.lst ((turnI acc ps).map .int)])
  | [], acc, x, y, z, _ => by
    refine ⟨x, y, z, ?_⟩
    show forL [] _ _ [] _ _ = _
    unfold forL
    rw [ifStill_nil]
    rfl
  | p :: ps, acc, x, y, z, h => by
    obtain ⟨h1, h2⟩ := h p (by simp)
    obtain ⟨x', y', z', ih⟩ := bh_loop (Γ := Γ) (μ := μ) A B C ps (acc.set p.2.2 (p.2.1 * p.1)) (some (.int p.1)) (some (.int p.2.1)) (some (.int p.2.2)) (fun q hq => by
      rw [List.length_set]
      exact h q (by simp [hq]))
    refine ⟨x', y', z', ?_⟩
    rw [List.map_cons]
    conv => lhs; unfold forL
    rw [ifStill_nil]
    have hs : setTg (μ ++ [.lst (acc.map .int)]) (.tp [.nm 4, .tp [.nm 5, .nm 6]]) (.tup [.int p.1, imD p.2]) [some A, some B, some C, some (.cell μ.length), x, y, z] = some [some A, some B, some C, some (.cell μ.length), some (.int p.1), some (.int p.2.1), some (.int p.2.2)] := rfl
    simp only [hs]
    have hb : exB Γ bhB [some A, some B, some C, some (.cell μ.length), some (.int p.1), some (.int p.2.1), some (.int p.2.2)] (μ ++ [.lst (acc.map .int)]) = .nx [some A, some B, some C, some (.cell μ.length), some (.int p.1), some (.int p.2.1), some (.int p.2.2)] (μ ++ [.lst ((acc.set p.2.2 (p.2.1 * p.1)).map .int)]) := by
      simp only [bhB, mul_r h2, set_sub, setItem_cell h1, evz]
    rw [hb]
    exact ih
theorem rep_one : ∀ n : Nat, (List.replicate n [D.int 0]).flatten = (List.replicate n (0 : Int)).map .int
  | 0 => rfl
  | n + 1 => by
    rw [List.replicate_succ, List.flatten_cons, rep_one n, List.replicate_succ]
    rfl
theorem cz {n : Nat} (hn : n ≤ 1000) {μ : Sto} : cbinD .mul (.lst [.int 0]) (.int n) μ = .ok (.cell μ.length) (μ ++ [.lst ((List.replicate n (0 : Int)).map .int)]) := by
  simp only [cbinD]
  rw [if_pos]
  · rw [Int.toNat_natCast, rep_one]
  · rw [Bool.and_eq_true]
    exact ⟨decide_eq_true (by omega), by rw [Int.toNat_natCast]; exact fits_small (by simp; omega)⟩
def behI (n : Nat) (f : List Int) (im : Im) : List Int := turnI (List.replicate n 0) (f.zip im)
theorem evs_lst1 {Γ : Tb} {ρ : T.Env} {μ : Sto} : evE Γ (.lst [.k (.int 0)]) ρ μ = .ok (.lst [.int 0]) μ := by
  rw [ev_lst]
  simp only [evs_cons, evs_nil, ev_k, R.bind_ok]
  exact if_pos (fits_small (by simp))
theorem tup_cell {xs : List Int} {μ : Sto} : biD .tuple [.cell μ.length] (μ ++ [.lst (xs.map .int)]) = .ok (tI xs) (μ ++ [.lst (xs.map .int)]) := by
  show optR (seqOf (μ ++ [.lst (xs.map .int)]) (.cell μ.length)) _ _ = _
  have : seqOf (μ ++ [Cell.lst (xs.map .int)]) (.cell μ.length) = some (xs.map .int) := by
    unfold seqOf
    simp
  rw [this]
  rfl
abbrev bhE (P F W : D) (a b c d : Option D) : T.Env := [some P, some F, some W, a, b, c, d]
section
variable {Γ : Tb} {n : Nat} {ts : List (Str × Im)} {f : List Int} {w : Str} {im : Im} {μ : Sto}
theorem bh_C {x y z : Option D} {P0 F0 W0 : D} {xs : List Int} : exS Γ (.ret (.bi .tuple [.v 3])) (bhE P0 F0 W0 (some (.cell μ.length)) x y z) (μ ++ [.lst (xs.map .int)]) = .rt (tI xs) (μ ++ [.lst (xs.map .int)]) := by
  simp only [tup_cell, evz]
end
end S
namespace S
open PySem T
def smalls (f : List Int) : Prop := ∀ x ∈ f, small x
theorem turnI_len : ∀ (ps : List (Int × (Int × Nat))) (acc : List Int), (turnI acc ps).length = acc.length
  | [], acc => rfl
  | p :: ps, acc => by
    unfold turnI
    rw [turnI_len ps, List.length_set]
theorem behI_len (n : Nat) (f : List Int) (im : Im) : (behI n f im).length = n := by
  unfold behI
  rw [turnI_len, List.length_replicate]
theorem forL_cons {tg : Tg} {body : T.Env → Sto → F} {d : D} {ds : List D} {ρ ρ1 ρ2 : T.Env} {μ μ2 : Sto} (h1 : setTg μ tg d ρ = some ρ1) (h2 : body ρ1 μ = .nx ρ2 μ2) : forL [] tg body (d :: ds) ρ μ = forL [] tg body ds ρ2 μ2 := by
  conv => lhs; unfold forL
  rw [ifStill_nil]
  simp only [h1, h2]
theorem forL_nil {tg : Tg} {body : T.Env → Sto → F} {ρ : T.Env} {μ : Sto} : forL [] tg body [] ρ μ = .nx ρ μ := by
  unfold forL
  rw [ifStill_nil]
end S
namespace S
open PySem T
mutual
theorem below_mono {m n : Nat} (h : m ≤ n) : ∀ d : D, below m d = true → below n d = true
  | .cell k, q => decide_eq_true (Nat.lt_of_lt_of_le (of_decide_eq_true q) h)
  | .tup ds, q => belows_mono h ds q
  | .lst ds, q => belows_mono h ds q
  | .fro ds, q => belows_mono h ds q
  | .dic _ ds, q => belows_mono h ds q
  | .wdic _ ds, q => belows_mono h ds q
  | .ins _ _ ds, q => belows_mono h ds q
  | .non, _ => rfl
  | .bl _, _ => rfl
  | .int _, _ => rfl
  | .str _, _ => rfl
  | .fn _, _ => rfl
  | .cls _, _ => rfl
  | .ty _, _ => rfl
theorem belows_mono {m n : Nat} (h : m ≤ n) : ∀ ds : List D, belows m ds = true → belows n ds = true
  | [], _ => rfl
  | d :: ds, q => by
    obtain ⟨q1, q2⟩ := bt (show (below m d && belows m ds) = true from q)
    show (below n d && belows n ds) = true
    rw [below_mono h d q1, belows_mono h ds q2]
    rfl
end
theorem belowC_mono {m n : Nat} (h : m ≤ n) : ∀ c : Cell, belowC m c = true → belowC n c = true
  | .lst ds, q => belows_mono h ds q
  | .ins _ _ ds, q => belows_mono h ds q
  | .dic _ ds, q => belows_mono h ds q
theorem Wf.push {μ : Sto} {c : Cell} (h : Wf μ) (hc : belowC μ.length c = true) : Wf (μ ++ [c]) := by
  unfold Wf at h ⊢
  rw [List.all_append, Bool.and_eq_true]
  have hl : μ.length ≤ (μ ++ [c]).length := by simp
  refine ⟨List.all_eq_true.mpr fun x hx => belowC_mono hl x (List.all_eq_true.mp h x hx), ?_⟩
  rw [List.all_cons, List.all_nil, Bool.and_true]
  exact belowC_mono hl c hc
theorem toPys_ints : ∀ xs : List Int, toPys (xs.map .int) = some (xs.map .int)
  | [] => rfl
  | x :: xs => by
    show (some (PyData.int x)).bind (fun x => (toPys (xs.map D.int)).map (x :: ·)) = _
    rw [toPys_ints xs]
    rfl
theorem dep_ints : ∀ xs : List Int, PyData.depthAll (xs.map .int) = 0
  | [] => rfl
  | x :: xs => by
    show max (PyData.depth (.int x)) (PyData.depthAll (xs.map .int)) = 0
    rw [dep_ints xs]
    rfl
theorem eqv_ints : ∀ xs ys : List Int, PyData.eqvAll (xs.map .int) (ys.map .int) = decide (xs = ys)
  | [], [] => rfl
  | [], y :: ys => rfl
  | x :: xs, [] => rfl
  | x :: xs, y :: ys => by
    show (PyData.eqv (.int x) (.int y) && PyData.eqvAll (xs.map .int) (ys.map .int)) = _
    rw [eqv_ints xs ys]
    show (x == y && _) = _
    by_cases h : x = y
    · subst h
      simp
    · simp [h]
theorem cell_last {μ : Sto} {c : Cell} : (μ ++ [c])[μ.length]? = some c := by simp
theorem recv_cell {μ : Sto} {ds : List D} : recv .append (.cell μ.length) (μ ++ [.lst ds]) = true := by
  show (lstOf (μ ++ [.lst ds]) (.cell μ.length)).isSome = true
  simp only [lstOf, cell_last]
  rfl
theorem app_cell {μ : Sto} {ds : List D} {d : D} (h : ds.length < 1000) : meD .append (.cell μ.length) [d] (μ ++ [.lst ds]) = .ok .non (μ ++ [.lst (ds ++ [d])]) := by
  show wr (μ ++ [.lst ds]) (.cell μ.length) (fun ds => if decide (ds.length < sizeLine) then some (.non, ds ++ [d]) else none) = _
  have : decide (ds.length < sizeLine) = true := decide_eq_true (L2.small1000 (Nat.le_of_lt h))
  simp only [wr, cell_last, this, if_true, List.set_append_right _ _ (Nat.le_refl _), Nat.sub_self, List.set_cons_zero]
end S
namespace S
open PySem T
end S
namespace S
open PySem T
def asc (x : Str) : Prop := x.cps.toList.length ≤ 4000 ∧ ∀ c ∈ x.cps.toList, c < 0x110000
theorem asc.len {x : Str} (h : asc x) : x.length ≤ 4000 := by
  show x.cps.size ≤ 4000
  rw [← Array.length_toList]
  exact h.1
theorem sz_line : (4000 + 4000) ≤ sizeLine := by decide
theorem fits_n {n : Nat} (h : n ≤ 8000) : fits n = true := fits_iff.mpr (Nat.le_trans h sz_line)
theorem asc.fits {x : Str} (h : asc x) : fits x.length = true := fits_n (by have := h.len; omega)
theorem asc.ok {x : Str} (h : asc x) : PyData.strOk x = true := by
  unfold PyData.strOk
  rw [← Array.all_toList, List.all_eq_true]
  exact fun c hc => decide_eq_true (h.2 c hc)
theorem asc.sub {x y : Str} (h : asc x) (hl : y.cps.toList.length ≤ x.cps.toList.length) (hm : ∀ c ∈ y.cps.toList, c ∈ x.cps.toList) : asc y := ⟨Nat.le_trans hl h.1, fun c hc => h.2 c (hm c hc)⟩
theorem asc.strSub {x : Str} (h : asc x) (i j : Nat) : asc (Builtin.Str.strSub x i j) := by
  refine h.sub ?_ ?_
  · show (x.cps.extract i j).toList.length ≤ _
    rw [Array.toList_extract]
    show ((x.cps.toList.drop i).take (j - i)).length ≤ _
    rw [List.length_take, List.length_drop]
    omega
  · intro c hc
    have hc : c ∈ (x.cps.extract i j).toList := hc
    rw [Array.toList_extract] at hc
    exact List.mem_of_mem_drop (List.mem_of_mem_take hc)
theorem asc.cut {x : Str} (h : asc x) (lo hi : Option Int) : asc (L2.cutS x lo hi) := by
  refine h.sub ?_ ?_
  · show (((x.cps.toList.drop (HT.sIx x.length 0 lo)).take (HT.sIx x.length x.length hi - HT.sIx x.length 0 lo)).toArray).toList.length ≤ _
    rw [List.toList_toArray, List.length_take, List.length_drop]
    omega
  · intro c hc
    have hc : c ∈ (((x.cps.toList.drop (HT.sIx x.length 0 lo)).take (HT.sIx x.length x.length hi - HT.sIx x.length 0 lo)).toArray).toList := hc
    rw [List.toList_toArray] at hc
    exact List.mem_of_mem_drop (List.mem_of_mem_take hc)
theorem asc.split {x : Str} (h : asc x) (y : Str) : (∀ p ∈ Txt.split x y, asc p) ∧ (Txt.split x y).length ≤ 4002 := by
  unfold Txt.split
  split
  · exact ⟨by simpa using h, by simp⟩
  · split
    · exact ⟨by simpa using h, by simp⟩
    · unfold Builtin.Str.partsBetween
      refine ⟨fun p hp => ?_, ?_⟩
      · obtain ⟨q, _, rfl⟩ := List.mem_map.mp hp
        exact h.strSub _ _
      · have h1 := StrLaws.occ_length_le_len x y 0 x.length (x.length + 1)
        have h2 := h.len
        simp only [List.length_map, List.length_zip, List.length_cons, List.length_append, List.length_nil]
        omega
theorem asc.part {x : Str} (h : asc x) {y : Str} (hy : asc y) : asc (Txt.partition x y).1 ∧ asc (Txt.partition x y).2.1 ∧ asc (Txt.partition x y).2.2 := by
  have h0 : asc Str.empty := ⟨by decide, by decide⟩
  unfold Txt.partition
  split
  · exact ⟨h.strSub _ _, hy, h.strSub _ _⟩
  · exact ⟨h, h0, h0⟩
def writB (w : Str) : Bool := (decide (1 ≤ (w.length : Int)) && decide ((w.length : Int) ≤ 8)) && w.cps.toList.all fun c => decide (c ∈ ("abcdefghijklmnopqrstuvwxyz" : Str).cps.toList)
theorem len_str {z : Str} {μ : Sto} (h : fits z.length = true) : biD .len [.str z] μ = .ok (.int z.length) μ := by
  show (if fits z.length = true then R.ok (D.int z.length) μ else .bad) = _
  rw [if_pos h]
theorem plain_str {z : Str} {μ : Sto} (h : fits z.length = true) : itemsOf .plain [.str z] μ = some (z.cps.toList.map fun c => .str ⟨#[c]⟩, []) := by
  show (if fits z.length = true then some (z.cps.toList.map fun c => D.str ⟨#[c]⟩, ([] : List (Nat × List D))) else none) = _
  rw [if_pos h]
theorem in_sign {c : Nat} {z : Str} {μ : Sto} : cmpD .isin (.str ⟨#[c]⟩) (.str z) μ = .ok (.bl (decide (c ∈ z.cps.toList))) μ := rfl
def risB (ws : List Str) : Bool := (List.range (ws.length - 1)).all fun k => ltS (ws.getD k "") (ws.getD (k + 1) "")
theorem ix_strs {ws : List Str} {k : Nat} (h : k < ws.length) {μ : Sto} : ixD (.lst (ws.map .str)) (.int k) μ = .ok (.str (ws.getD k "")) μ := by
  have h2 : L2.atI (ws.map D.str) k = some (.str (ws.getD k "")) := by
    unfold L2.atI L2.ixN
    rw [if_pos (by omega), if_pos (by rw [List.length_map]; omega)]
    simp only [Int.toNat_natCast, Option.bind_some, List.getElem?_map]
    rw [List.getElem?_eq_getElem h]
    simp [List.getD, h]
  show (match L2.atI (ws.map D.str) k with
    | some d => R.ok d μ
    | none => .bad) = _
  rw [h2]
theorem sub_int {i j : Int} (μ : Sto) : binD .sub (.int i) (.int j) μ = .ok (.int (i - j)) μ := rfl
theorem lt_str {i j : Str} {μ : Sto} : cmpD .lt (.str i) (.str j) μ = .ok (.bl (ltS i j)) μ := rfl
def imgF (w : Str) (names : List Str) : Option (Int × Nat) :=
  if L2.cutS w none (some 1) = ("-" : Str) then (if L2.cutS w (some 1) none ∈ names then some (-1, names.idxOf (L2.cutS w (some 1) none)) else none)
  else (if w ∈ names then some (1, names.idxOf w) else none)
def imgD : Option (Int × Nat) → D
  | some q => imD q
  | none => .non
theorem shaped_str {x : Str} (h : asc x) : SeqAt.shaped (.str x) = true := by
  unfold SeqAt.shaped
  rw [Bool.and_eq_true]
  exact ⟨h.ok, decide_eq_true (Nat.zero_le 64)⟩
theorem eq_str {x y : Str} (hx : asc x) (hy : asc y) {μ : Sto} : cmpD .eq (.str x) (.str y) μ = .ok (.bl (decide (x = y))) μ := by
  have : eqB μ (.str x) (.str y) = some (decide (x = y)) := by
    show (if (SeqAt.shaped (.str x) && SeqAt.shaped (.str y)) = true then some (PyData.eqv (.str x) (.str y)) else none) = _
    rw [shaped_str hx, shaped_str hy]
    show some (x == y) = _
    rfl
  show (match eqB μ (.str x) (.str y) with
    | some b => R.ok (D.bl b) μ
    | none => .bad) = _
  rw [this]
theorem toPys_strs : ∀ xs : List Str, toPys (xs.map .str) = some (xs.map .str)
  | [] => rfl
  | x :: xs => by
    show (some (PyData.str x)).bind (fun x => (toPys (xs.map D.str)).map (x :: ·)) = _
    rw [toPys_strs xs]
    rfl
theorem shaped_strs {xs : List Str} (h : ∀ x ∈ xs, asc x) : SeqAt.shaped (.list (xs.map .str)) = true := by
  have h1 : ∀ xs : List Str, (∀ x ∈ xs, asc x) → PyData.canLayAll0 (xs.map .str) = true := by
    intro xs
    induction xs with
    | nil => exact fun _ => rfl
    | cons x xs ih =>
      intro h
      show (PyData.strOk x && PyData.canLayAll0 (xs.map .str)) = true
      rw [ih fun y hy => h y (by simp [hy]), (h x (by simp)).ok]
      rfl
  have h2 : ∀ xs : List Str, PyData.depthAll (xs.map .str) = 0 := by
    intro xs
    induction xs with
    | nil => rfl
    | cons x xs ih =>
      show max 0 (PyData.depthAll (xs.map .str)) = 0
      rw [ih]
      rfl
  unfold SeqAt.shaped
  rw [Bool.and_eq_true]
  refine ⟨h1 xs h, decide_eq_true ?_⟩
  show PyData.depthAll (xs.map .str) + 1 ≤ 64
  rw [h2]
  omega
theorem any_strs (x : Str) : ∀ xs : List Str, ((xs.map PyData.str).any fun z => PyData.eqv z (.str x)) = decide (x ∈ xs)
  | [] => rfl
  | y :: xs => by
    rw [List.map_cons, List.any_cons, any_strs x xs]
    show (y == x || _) = _
    by_cases h : y = x
    · subst h
      simp
    · have h2 : ¬ x = y := fun e => h e.symm
      simp [h, h2]
theorem in_strs {x : Str} {xs : List Str} (hx : asc x) (h : ∀ x ∈ xs, asc x) {μ : Sto} : cmpD .isin (.str x) (.lst (xs.map .str)) μ = .ok (.bl (decide (x ∈ xs))) μ := by
  have h3 : inB μ (.str x) (.lst (xs.map .str)) = some (decide (x ∈ xs)) := by
    show (match some (PyData.str x), (toPys (xs.map D.str)).map PyData.list with
      | some a, some (.list bs) => if SeqAt.shaped a && SeqAt.shaped (.list bs) then some (bs.any fun z => PyData.eqv z a) else none
      | _, _ => none) = _
    rw [toPys_strs]
    simp only [Option.map_some, shaped_str hx, shaped_strs h, Bool.and_true, if_true, any_strs]
  show (match inB μ (.str x) (.lst (xs.map .str)) with
    | some b => R.ok (D.bl b) μ
    | none => .bad) = _
  rw [h3]
theorem find_strs (x : Str) : ∀ xs : List Str, x ∈ xs → ((xs.map PyData.str).findIdx? fun z => PyData.eqv z (.str x)) = some (xs.idxOf x)
  | y :: xs, h => by
    rw [List.map_cons, List.findIdx?_cons]
    have e : PyData.eqv (.str y) (.str x) = (y == x) := rfl
    rw [e]
    by_cases hy : y = x
    · subst hy
      simp
    · have hb : (y == x) = false := by simpa using hy
      rw [hb, List.idxOf_cons, hb]
      rw [List.mem_cons] at h
      have := find_strs x xs (h.resolve_left fun e => hy e.symm)
      simp only [Bool.false_eq_true, if_false, this, Option.map_some, cond_false]
theorem index_strs {x : Str} {xs : List Str} (hx : asc x) (h : ∀ x ∈ xs, asc x) (hm : x ∈ xs) {μ : Sto} : meD .index (.lst (xs.map .str)) [.str x] μ = .ok (.int (xs.idxOf x : Nat)) μ := by
  show (match (some (xs.map D.str)).bind toPys, some (PyData.str x) with
    | some ys, some y => if SeqAt.shaped (.list ys) && SeqAt.shaped y then (match ys.findIdx? fun z => PyData.eqv z y with
      | some j => R.ok (D.int j) μ
      | none => .bad) else .bad
    | _, _ => .bad) = _
  simp only [Option.bind_some, toPys_strs, shaped_str hx, shaped_strs h, Bool.and_true, if_true, find_strs x xs hm]
theorem sl_str {z : Str} (h : asc z) {lo hi : Option Int} {μ : Sto} : slD (.str z) lo hi μ = .ok (.str (L2.cutS z lo hi)) μ := by
  show (if fits z.length = true then R.ok (D.str (L2.cutS z lo hi)) μ else .bad) = _
  rw [if_pos h.fits]
theorem asc_minus : asc ("-" : Str) := by unfold asc; decide +kernel
theorem recv_lst {ds : List D} {μ : Sto} : recv .index (.lst ds) μ = true := rfl
end S
namespace S
open PySem T
def allSome {α : Type} : List (Option α) → Option (List α)
  | [] => some []
  | none :: _ => none
  | some a :: r => (allSome r).map (a :: ·)
theorem allSome_some {α : Type} : ∀ {l : List (Option α)} {as : List α}, allSome l = some as → l = as.map some
  | [], as, h => by
    cases h
    rfl
  | none :: _, as, h => by cases h
  | some a :: r, as, h => by
    unfold allSome at h
    rw [Option.map_eq_some_iff] at h
    obtain ⟨bs, h1, rfl⟩ := h
    rw [allSome_some h1]
    rfl
def imgsF (w : Str) (names : List Str) : Option Im := match allSome ((Txt.split w " ").map fun p => imgF p names) with
  | some im => if im.length = names.length ∧ (im.map (·.2)).Nodup then some im else none
  | none => none
def okNd (w : Str) (names : List Str) : Prop := ∀ im, allSome ((Txt.split w " ").map fun p => imgF p names) = some im → im.length = names.length → (im.map (·.2)).Nodup
theorem split_str {a b : Str} (ha : asc a) (hb : (b.length != 0) = true) {μ : Sto} : meD .split (.str a) [.str b] μ = .ok (.lst ((Txt.split a b).map .str)) μ := by
  have h1 := ha.len
  have h2 := (ha.split b).2
  show (if (b.length != 0 && fits (a.length + 2) && fits (Txt.split a b).length) = true then R.ok (D.lst ((Txt.split a b).map .str)) μ else .bad) = _
  rw [hb, fits_n (by omega), fits_n (by omega)]
  rfl
theorem recv_split {a : Str} {μ : Sto} : recv .split (.str a) μ = true := rfl
theorem sp_len : (((" " : Str)).length != 0) = true := by decide +kernel
def turnF (names : List Str) (p : Str) : Option (Str × Im) :=
  if (Txt.partition p ": ").2.1 = "" ∨ writB (Txt.partition p ": ").1 = false ∨ (Txt.partition p ": ").1 ∈ names then none
  else (imgsF (Txt.partition p ": ").2.2 names).map fun im => ((Txt.partition p ": ").1, im)
theorem co_len : (((": " : Str)).length != 0) = true := by decide +kernel
end S
namespace S
open PySem T
theorem risB_cons (a b : Str) (r : List Str) : risB (a :: b :: r) = (ltS a b && risB (b :: r)) := by
  unfold risB
  rw [show (a :: b :: r).length - 1 = (b :: r).length - 1 + 1 by simp, List.range_succ_eq_map, List.all_cons, List.all_map]
  rfl
theorem ltS_trans {a b c : Str} (h1 : ltS a b = true) (h2 : ltS b c = true) : ltS a c = true := by
  unfold ltS at *
  exact decide_eq_true (List.lt_trans (of_decide_eq_true h1) (of_decide_eq_true h2))
theorem ltS_irrefl (a : Str) : ltS a a = false := by
  unfold ltS
  exact decide_eq_false (List.lt_irrefl _)
theorem ris_pair : ∀ {ws : List Str}, risB ws = true → ws.Pairwise fun a b => ltS a b = true
  | [], _ => .nil
  | [a], _ => by simp
  | a :: b :: r, h => by
    rw [risB_cons, Bool.and_eq_true] at h
    have ih := ris_pair h.2
    rw [List.pairwise_cons] at ih ⊢
    refine ⟨fun x hx => ?_, List.pairwise_cons.mpr ih⟩
    rcases List.mem_cons.mp hx with rfl | hx
    · exact h.1
    · exact ltS_trans h.1 (ih.1 x hx)
theorem ris_nodup {ws : List Str} (h : risB ws = true) : ws.Nodup := by
  rw [List.nodup_iff_pairwise_ne]
  refine (ris_pair h).imp fun h e => ?_
  rw [e, ltS_irrefl] at h
  cases h
def setFK (ρ : T.Env) : Option Sto → F
  | some μ3 => .nx ρ μ3
  | none => .bad
theorem ex_fld {Γ : Tb} {a e : Ee} {f : Str} {ρ : T.Env} {μ : Sto} : exS Γ (.fld a f e) ρ μ = (evE Γ e ρ μ).thenF fun d μ1 => (evE Γ a ρ μ1).thenF fun o μ2 => setFK ρ (setFldD Γ.at_ o f d μ2) := rfl
def namesF (x : Str) : List Str := Txt.split ((Txt.split x "; ").headD "") " "
def partsF (x : Str) : List Str := (Txt.split x "; ").drop 1
structure TxOk (x : Str) : Prop where
  asc : asc x
  parts : (partsF x).length ≤ 1000
  nd : ∀ p ∈ partsF x, okNd (Txt.partition p ": ").2.2 (namesF x)
theorem se_len : (((("; " : Str)).length != 0)) = true := by decide +kernel
end S
namespace S
open PySem T
end S
namespace S
open PySem T
def lawDf (r p : Nat) (m : Int) : Df := ⟨1, 2, false, [(.ret (.bi .all [(.comp false (.call r [(.call p [(.v 0), (.v 1)])]) (.nm 1) .range [(.bi .max2 [(.k (.int 2)), (.bi .min2 [(.bi .len [(.v 0)]), (.k (.int m))])])] [] [1])]))]⟩
abbrev purL (a b c : Int) : Cell := .lst [.int a, .int b, .int c]
def Purse (μ : Sto) (k : Nat) (c : Int) : Prop := ∃ a b, μ[k]? = some (purL a b c) ∧ small a
theorem purse_k {μ : Sto} {k : Nat} {c : Int} (h : Purse μ k c) : k < μ.length := by
  obtain ⟨a, b, h, _⟩ := h
  exact (List.getElem?_eq_some_iff.mp h).1
def Drawn (μ μ' : Sto) (k : Nat) : Prop := ∃ x, below 0 (.int 0) = true ∧ (∃ a b c, x = purL a b c) ∧ μ' = μ.set k x
theorem Drawn.len {μ μ' : Sto} {k : Nat} (h : Drawn μ μ' k) : μ'.length = μ.length := by
  obtain ⟨x, _, _, rfl⟩ := h
  exact List.length_set
theorem Drawn.wf {μ μ' : Sto} {k : Nat} (h : Drawn μ μ' k) (hw : Wf μ) : Wf μ' := by
  have hl := h.len
  obtain ⟨x, _, ⟨a, b, c, rfl⟩, rfl⟩ := h
  unfold Wf at hw ⊢
  rw [hl, List.all_eq_true]
  intro y hy
  rcases List.mem_or_eq_of_mem_set hy with hy | rfl
  · exact List.all_eq_true.mp hw y hy
  · rfl
theorem Drawn.trans {μ μ1 μ2 : Sto} {k : Nat} (h1 : Drawn μ μ1 k) (h2 : Drawn μ1 μ2 k) : Drawn μ μ2 k := by
  obtain ⟨x, _, _, rfl⟩ := h1
  obtain ⟨y, _, hy, rfl⟩ := h2
  exact ⟨y, rfl, hy, by rw [List.set_set]⟩
section
variable {μ : Sto} {k : Nat} {a b c : Int}
def setK (ρ : T.Env) : Option Sto → F
  | some μ3 => .nx ρ μ3
  | none => .bad
theorem set_subK {Γ : Tb} {ρ : T.Env} {μ : Sto} {a i : Ee} {d : D} : setT Γ (.sub a i) d ρ μ = (evE Γ a ρ μ).thenF fun o μ1 => (evE Γ i ρ μ1).thenF fun j μ2 => setK ρ (setItemD o j d μ2) := by
  rw [set_sub]
  rfl
end
theorem ge_int (a b : Int) (μ : Sto) : cmpD .ge (.int a) (.int b) μ = .ok (.bl (decide (b ≤ a))) μ := rfl
theorem int_int (a : Int) (μ : Sto) : biD .int [.int a] μ = .ok (.int a) μ := rfl
theorem fdiv_int {i j : Int} (h : 0 < j) (h2 : j < 2 ^ 64) (μ : Sto) : binD .fdiv (.int i) (.int j) μ = .ok (.int (i / j)) μ := by
  have : (decide (0 < j) && decide (j.natAbs.log2 < 9000)) = true := by
    rw [Bool.and_eq_true]
    refine ⟨decide_eq_true h, decide_eq_true ?_⟩
    have h3 : j.natAbs < 2 ^ 64 := by omega
    by_cases h0 : j.natAbs = 0
    · omega
    · have := (Nat.log2_lt h0).mpr h3
      omega
  show (if (decide (0 < j) && decide (j.natAbs.log2 < 9000)) = true then R.ok (D.int (i / j)) μ else .bad) = _
  rw [this]
  rfl
theorem divmod_int {i j : Int} (h : 0 < j) (h2 : j < 1073741824) (μ : Sto) : biD .divmod [.int i, .int j] μ = .ok (.tup [.int (i / j), .int (i % j)]) μ := by
  show (if (decide (0 < j) && decide (j < 1073741824)) = true then R.ok (D.tup [.int (i / j), .int (i % j)]) μ else .bad) = _
  rw [decide_eq_true h, decide_eq_true h2]
  rfl
theorem small_of {x : Int} (h1 : -1000000000000000000 ≤ x) (h2 : x ≤ 1000000000000000000) : small x := by unfold small; omega
end S
namespace S
open PySem T
theorem at_mem {ds : List D} {i : Int} (h0 : 0 ≤ i) (h1 : i < ds.length) : ∃ d, d ∈ ds ∧ L2.atI ds i = some d := by
  obtain ⟨n, rfl⟩ := Int.eq_ofNat_of_zero_le h0
  have hn : n < ds.length := by omega
  refine ⟨ds[n], List.getElem_mem _, ?_⟩
  unfold L2.atI L2.ixN
  rw [if_pos h0, if_pos h1]
  simp only [Int.toNat_natCast, Option.bind_some]
  exact List.getElem?_eq_getElem hn
theorem leave_len {μ μ' : Sto} {d : D} {b : Bool} (h : μ'.length = μ.length) : leave b μ.length d μ' = .ok d μ' := if_pos h
theorem len_fro {ds : List D} {μ : Sto} : biD .len [.fro ds] μ = .ok (.int ds.length) μ := rfl
theorem ix_fro {ns : List Int} {k : Nat} (h : k < ns.length) {μ : Sto} : ∃ x : Int, ixD (.fro (ns.map .int)) (.int k) μ = .ok (.int x) μ := by
  obtain ⟨d, hm, ha⟩ := at_mem (ds := ns.map .int) (i := (k : Int)) (by omega) (by rw [List.length_map]; omega)
  obtain ⟨x, _, rfl⟩ := List.mem_map.mp hm
  refine ⟨x, ?_⟩
  show (match L2.atI (ns.map D.int) k with
    | some d => R.ok d μ
    | none => .bad) = _
  rw [ha]
theorem pow_18 {μ : Sto} : binD .pow (.int 10) (.int 18) μ = .ok (.int 1000000000000000000) μ := rfl
theorem ev_compI {α : Type} {Γ : Tb} {ρ : T.Env} {μ : Sto} {melt : Ee} {mt : Tg} {ik : IK} {mits : List Ee} {own : List Nat} {xs : List D} (I : Sto → Prop) (ps : List α) (g f : α → D) (h1 : evEs Γ mits ρ μ = .ok xs μ) (h2 : itemsOf ik xs μ = some (ps.map g, [])) (hI : I μ)
    (h : ∀ p ∈ ps, ∀ μ, I μ → ∃ ρ1 μ', setTg μ mt (g p) (wipeE ρ own) = some ρ1 ∧ evE Γ melt ρ1 μ = .ok (f p) μ' ∧ I μ') : ∃ μ', I μ' ∧ evE Γ (.comp false melt mt ik mits [] own) ρ μ = .ok (.lst (ps.map f)) μ' := by
  have key : ∀ (ps : List α) (acc : List D) (μ : Sto), I μ → (∀ p ∈ ps, ∀ μ, I μ → ∃ ρ1 μ', setTg μ mt (g p) (wipeE ρ own) = some ρ1 ∧ evE Γ melt ρ1 μ = .ok (f p) μ' ∧ I μ') → ∃ μ', I μ' ∧ compL [] (wipeE ρ own) mt (evIfs Γ []) (evE Γ melt) (ps.map g) acc μ = .ok (acc ++ ps.map f) μ' := by
    intro ps
    induction ps with
    | nil =>
      intro acc μ hI _
      refine ⟨μ, hI, ?_⟩
      unfold compL
      rw [List.map_nil]
      simp only
      rw [ifStill_nil]
      simp
    | cons p ps ih =>
      intro acc μ hI h
      obtain ⟨ρ1, μ1, h1, h2, h3⟩ := h p (by simp) μ hI
      obtain ⟨μ', h4, h5⟩ := ih (acc ++ [f p]) μ1 h3 fun q hq => h q (by simp [hq])
      refine ⟨μ', h4, ?_⟩
      rw [List.map_cons]
      unfold compL
      rw [ifStill_nil]
      simp only [h1]
      show (R.ok true μ).bind (fun b μ1 => if b = true then (evE Γ melt ρ1 μ1).bind fun y μ2 => compL [] (wipeE ρ own) mt (evIfs Γ []) (evE Γ melt) (ps.map g) (acc ++ [y]) μ2 else compL [] (wipeE ρ own) mt (evIfs Γ []) (evE Γ melt) (ps.map g) acc μ1) = _
      rw [R.bind_ok, if_pos rfl, h2, R.bind_ok, h5]
      simp
  obtain ⟨μ', h4, h5⟩ := key ps [] μ hI h
  refine ⟨μ', h4, ?_⟩
  show (evEs Γ mits ρ μ).bind _ = _
  rw [h1, R.bind_ok]
  simp only [h2]
  rw [h5]
  simp
theorem max_int {i j : Int} {μ : Sto} : biD .max2 [.int i, .int j] μ = .ok (.int (if j > i then j else i)) μ := rfl
theorem min_int {i j : Int} {μ : Sto} : biD .min2 [.int i, .int j] μ = .ok (.int (if j < i then j else i)) μ := rfl
end S
namespace S
open PySem T
def B (k : Nat) (x : Int) : Prop := x.natAbs < 2 ^ k
theorem B.mono {a b : Nat} {x : Int} (h : B a x) (hab : a ≤ b) : B b x := Nat.lt_of_lt_of_le h (Nat.pow_le_pow_right (by decide) hab)
theorem B.mul {a b : Nat} {x y : Int} (h1 : B a x) (h2 : B b y) : B (a + b) (x * y) := by
  unfold B at *
  rw [Int.natAbs_mul, Nat.pow_add]
  exact Nat.mul_lt_mul'' h1 h2
theorem B.add {a : Nat} {x y : Int} (h1 : B a x) (h2 : B a y) : B (a + 1) (x + y) := by
  unfold B at *
  rw [Nat.pow_succ]
  have := Int.natAbs_add_le x y
  omega
theorem B.neg {a : Nat} {x : Int} (h : B a x) : B a (-x) := by
  unfold B at *
  rw [Int.natAbs_neg]
  exact h
theorem B.abs {a : Nat} {x : Int} (h : B a x) : B a (x.natAbs : Int) := by
  unfold B at *
  rw [Int.natAbs_natCast]
  exact h
theorem log_B {a : Nat} {x : Int} (h : B a x) : x.natAbs.log2 ≤ a := by
  by_cases h0 : x.natAbs = 0
  · rw [h0]
    exact Nat.zero_le _
  · exact Nat.le_of_lt ((Nat.log2_lt h0).mpr h)
end S
namespace S
open PySem T
theorem st_go {Γ : Tb} {s : Ss} {rest : List Ss} {ρ ρ' : T.Env} {μ μ' : Sto} {r : F} (h1 : exS Γ s ρ μ = .nx ρ' μ') (h2 : exB Γ rest ρ' μ' = r) : exB Γ (s :: rest) ρ μ = r := by
  rw [exb_cons, h1, F.then_nx]
  exact h2
theorem ret_go {Γ : Tb} {E : Ee} {ρ : T.Env} {μ μ' : Sto} {d : D} (h : evE Γ E ρ μ = .ok d μ') : exB Γ [.ret E] ρ μ = .rt d μ' := by
  rw [exb_cons, ex_ret, h, R.thenF_ok, F.then_rt]
end S
namespace S
open PySem T
structure wpR {α : Type} (r : R α) (Q : α → Sto → Prop) : Prop where
  ex : ∃ a μ, r = .ok a μ ∧ Q a μ
structure wpF (r : F) (N : T.Env → Sto → Prop) (Rt : D → Sto → Prop) : Prop where
  out : (∃ ρ μ, r = .nx ρ μ ∧ N ρ μ) ∨ ∃ d μ, r = .rt d μ ∧ Rt d μ
section
variable {α β : Type}
theorem wpR_ok {a : α} {μ : Sto} {Q : α → Sto → Prop} : wpR (.ok a μ) Q ↔ Q a μ := ⟨fun ⟨_, _, e, h⟩ => by cases e; exact h, fun h => ⟨a, μ, rfl, h⟩⟩
theorem wpR_ex {r : R α} {Q : α → Sto → Prop} (h : wpR r Q) : ∃ a μ, r = .ok a μ ∧ Q a μ := h.ex
theorem wpR_of {r : R α} {a : α} {μ : Sto} {Q : α → Sto → Prop} (h : r = .ok a μ) (hq : Q a μ) : wpR r Q := ⟨a, μ, h, hq⟩
theorem wpR_bind {r : R α} {f : α → Sto → R β} {Q : β → Sto → Prop} : wpR (r.bind f) Q ↔ wpR r fun a μ => wpR (f a μ) Q := by
  constructor
  · rintro ⟨b, μ, e, h⟩
    obtain ⟨a, μ1, e1, e2⟩ := R.bind_eq_ok e
    exact ⟨a, μ1, e1, b, μ, e2, h⟩
  · rintro ⟨a, μ1, rfl, h⟩
    exact h
theorem wpR_mono {r : R α} {Q Q' : α → Sto → Prop} (h : wpR r Q) (hq : ∀ a μ, Q a μ → Q' a μ) : wpR r Q' := by
  obtain ⟨a, μ, e, h⟩ := h
  exact ⟨a, μ, e, hq a μ h⟩
theorem wpF_nx {ρ : T.Env} {μ : Sto} {N : T.Env → Sto → Prop} {Rt : D → Sto → Prop} : wpF (.nx ρ μ) N Rt ↔ N ρ μ := by
  constructor
  · rintro ⟨⟨_, _, e, h⟩ | ⟨_, _, e, h⟩⟩
    · cases e
      exact h
    · cases e
  · exact fun h => ⟨.inl ⟨ρ, μ, rfl, h⟩⟩
theorem wpF_rt {d : D} {μ : Sto} {N : T.Env → Sto → Prop} {Rt : D → Sto → Prop} : wpF (.rt d μ) N Rt ↔ Rt d μ := by
  constructor
  · rintro ⟨⟨_, _, e, h⟩ | ⟨_, _, e, h⟩⟩
    · cases e
    · cases e
      exact h
  · exact fun h => ⟨.inr ⟨d, μ, rfl, h⟩⟩
theorem wpF_thenF {r : R α} {f : α → Sto → F} {N : T.Env → Sto → Prop} {Rt : D → Sto → Prop} (h : wpR r fun a μ => wpF (f a μ) N Rt) : wpF (r.thenF f) N Rt := by
  obtain ⟨a, μ, rfl, h⟩ := h
  exact h
theorem wpF_then {r : F} {f : T.Env → Sto → F} {N : T.Env → Sto → Prop} {Rt : D → Sto → Prop} (h : wpF r (fun ρ μ => wpF (f ρ μ) N Rt) Rt) : wpF (r.then f) N Rt := by
  rcases h with ⟨⟨ρ, μ, rfl, h⟩ | ⟨d, μ, rfl, h⟩⟩
  · exact h
  · exact wpF_rt.mpr h
end
section
variable {Γ : Tb} {ρ : T.Env} {μ : Sto} {N : T.Env → Sto → Prop} {Rt : D → Sto → Prop}
theorem wp_cons {s : Ss} {r : List Ss} (h : wpF (exS Γ s ρ μ) (fun ρ1 μ1 => wpF (exB Γ r ρ1 μ1) N Rt) Rt) : wpF (exB Γ (s :: r) ρ μ) N Rt := by
  rw [exb_cons]
  exact wpF_then h
theorem wp_nil (h : N ρ μ) : wpF (exB Γ [] ρ μ) N Rt := by
  rw [exb_nil]
  exact wpF_nx.mpr h
theorem wp_run {f : Df} {ds : List D} {Q : D → Sto → Prop} (hl : ds.length = f.ps) (h : wpF (exB Γ f.body (startE f.N ds) μ) (fun _ μ1 => wpR (leave f.keep μ.length .non μ1) Q) (fun d μ1 => wpR (leave f.keep μ.length d μ1) Q)) : wpR (runD Γ f ds μ) Q := by
  rw [run_eq hl]
  rcases h with ⟨⟨ρ1, μ1, e, h⟩ | ⟨d, μ1, e, h⟩⟩
  · rw [e]
    exact h
  · rw [e]
    exact h
theorem wp_comp {α : Type} {melt : Ee} {mt : Tg} {ik : IK} {mits : List Ee} {own : List Nat} {Q : D → Sto → Prop} {μ1 : Sto} (I : Nat → Sto → Prop) (P : α → D → Prop) (ps : List α) (g : α → D) {xs : List D} (h1 : evEs Γ mits ρ μ = .ok xs μ1) (h2 : itemsOf ik xs μ1 = some (ps.map g, [])) (hI : I 0 μ1)
    (h : ∀ (j : Nat) (p : α), ps[j]? = some p → ∀ μ, I j μ → ∃ ρ1, setTg μ mt (g p) (wipeE ρ own) = some ρ1 ∧ wpR (evE Γ melt ρ1 μ) fun d μ' => P p d ∧ I (j + 1) μ')
    (hq : ∀ ds μ', ds.length = ps.length → (∀ (j : Nat) (p : α) (d : D), ps[j]? = some p → ds[j]? = some d → P p d) → I ps.length μ' → Q (.lst ds) μ') : wpR (evE Γ (.comp false melt mt ik mits [] own) ρ μ) Q := by
  have key : ∀ (qs : List α) (j : Nat) (acc : List D) (μ : Sto), (∀ i, qs[i]? = ps[j + i]?) → j + qs.length = ps.length → acc.length = j → (∀ (i : Nat) (p : α) (d : D), ps[i]? = some p → acc[i]? = some d → P p d) → I j μ →
      ∃ ds μ', compL [] (wipeE ρ own) mt (evIfs Γ []) (evE Γ melt) (qs.map g) acc μ = .ok ds μ' ∧ ds.length = ps.length ∧ (∀ (i : Nat) (p : α) (d : D), ps[i]? = some p → ds[i]? = some d → P p d) ∧ I ps.length μ' := by
    intro qs
    induction qs with
    | nil =>
      intro j acc μ _ hl ha hP hI
      refine ⟨acc, μ, ?_, by simpa [ha] using hl, hP, by simpa using hl ▸ hI⟩
      unfold compL
      rw [List.map_nil]
      simp only
      rw [ifStill_nil]
    | cons q qs ih =>
      intro j acc μ hg hl ha hP hI
      have hpj : ps[j]? = some q := by
        have := hg 0
        simpa using this.symm
      obtain ⟨ρ1, k1, k2⟩ := h j q hpj μ hI
      obtain ⟨d, μ1, k3, k4, k5⟩ := wpR_ex k2
      obtain ⟨ds, μ', k6, k7, k8, k9⟩ := ih (j + 1) (acc ++ [d]) μ1 (fun i => by
        have := hg (i + 1)
        rw [List.getElem?_cons_succ] at this
        rw [this]
        congr 1
        omega) (by rw [List.length_cons] at hl; omega) (by rw [List.length_append, List.length_singleton, ha]) (fun i p e hi he => by
        by_cases hlt : i < acc.length
        · rw [List.getElem?_append_left hlt] at he
          exact hP i p e hi he
        · have hle : i < (acc ++ [d]).length := (List.getElem?_eq_some_iff.mp he).1
          rw [List.length_append, List.length_singleton] at hle
          have hij : i = j := by omega
          subst hij
          rw [hpj] at hi
          cases hi
          rw [List.getElem?_append_right (by omega), ha] at he
          simp at he
          rw [← he]
          exact k4) k5
      refine ⟨ds, μ', ?_, k7, k8, k9⟩
      rw [List.map_cons]
      unfold compL
      rw [ifStill_nil]
      simp only [k1]
      show (R.ok true μ).bind (fun b μ1 => if b = true then (evE Γ melt ρ1 μ1).bind fun y μ2 => compL [] (wipeE ρ own) mt (evIfs Γ []) (evE Γ melt) (qs.map g) (acc ++ [y]) μ2 else compL [] (wipeE ρ own) mt (evIfs Γ []) (evE Γ melt) (qs.map g) acc μ1) = _
      rw [R.bind_ok, if_pos rfl, k3, R.bind_ok, k6]
  obtain ⟨ds, μ', k6, k7, k8, k9⟩ := key ps 0 [] μ1 (fun i => by rw [Nat.zero_add]) (by omega) rfl (fun i p d _ h => by simp at h) hI
  have he : evE Γ (.comp false melt mt ik mits [] own) ρ μ = .ok (.lst ds) μ' := by
    show (evEs Γ mits ρ μ).bind _ = _
    rw [h1, R.bind_ok]
    simp only [h2]
    rw [k6]
    rfl
  exact wpR_of he (hq ds μ' k7 k8 k9)
theorem wp_for {α : Type} {tg : Tg} {body : T.Env → Sto → F} (J : Nat → T.Env → Sto → Prop) (ps : List α) (g : α → D) (gs : List (Nat × List D)) (hgs : ∀ j ρ μ, J j ρ μ → still gs μ) (h0 : J 0 ρ μ)
    (h : ∀ (j : Nat) (p : α), ps[j]? = some p → ∀ ρ μ, J j ρ μ → ∃ ρ1, setTg μ tg (g p) ρ = some ρ1 ∧ wpF (body ρ1 μ) (J (j + 1)) Rt)
    (hq : ∀ ρ μ, J ps.length ρ μ → N ρ μ) : wpF (forL gs tg body (ps.map g) ρ μ) N Rt := by
  have key : ∀ (qs : List α) (j : Nat) (ρ : T.Env) (μ : Sto), (∀ i, qs[i]? = ps[j + i]?) → j + qs.length = ps.length → J j ρ μ → wpF (forL gs tg body (qs.map g) ρ μ) N Rt := by
    intro qs
    induction qs with
    | nil =>
      intro j ρ μ _ hl hJ
      rw [List.map_nil]
      unfold forL
      rw [ifStill_of (hgs j ρ μ hJ)]
      exact wpF_nx.mpr (hq ρ μ (by simpa using hl ▸ hJ))
    | cons q qs ih =>
      intro j ρ μ hg hl hJ
      have hpj : ps[j]? = some q := by
        have := hg 0
        simpa using this.symm
      obtain ⟨ρ1, k1, k2⟩ := h j q hpj ρ μ hJ
      rw [List.map_cons]
      unfold forL
      rw [ifStill_of (hgs j ρ μ hJ)]
      simp only [k1]
      rcases k2 with ⟨⟨ρ2, μ2, e, k2⟩ | ⟨d, μ2, e, k2⟩⟩
      · rw [e]
        exact ih (j + 1) ρ2 μ2 (fun i => by
          have := hg (i + 1)
          rw [List.getElem?_cons_succ] at this
          rw [this]
          congr 1
          omega) (by rw [List.length_cons] at hl; omega) k2
      · rw [e]
        exact wpF_rt.mpr k2
  exact key ps 0 ρ μ (fun i => by rw [Nat.zero_add]) (by omega) h0
end
def PB (μ : Sto) (k : Nat) (m : Nat) : Prop := ∃ c, Purse μ k c ∧ 0 ≤ c ∧ c + m ≤ 2 ^ 59
structure Base (L k m : Nat) (μ : Sto) : Prop where
  len : μ.length = L
  wf : Wf μ
  pb : PB μ k m
def St (L k m : Nat) (cs : List Cell) (μ : Sto) : Prop := ∃ μ0, μ = μ0 ++ cs ∧ Base L k m μ0
theorem PB.mono {μ : Sto} {k m m' : Nat} (h : PB μ k m) (hm : m' ≤ m) : PB μ k m' := by
  obtain ⟨c, h1, h2, h3⟩ := h
  exact ⟨c, h1, h2, by omega⟩
theorem Base.mono {L k m m' : Nat} {μ : Sto} (h : Base L k m μ) (hm : m' ≤ m) : Base L k m' μ := ⟨h.len, h.wf, h.pb.mono hm⟩
theorem St.mono {L k m m' : Nat} {cs : List Cell} {μ : Sto} (h : St L k m cs μ) (hm : m' ≤ m) : St L k m' cs μ := by
  obtain ⟨μ0, h1, h2⟩ := h
  exact ⟨μ0, h1, h2.mono hm⟩
theorem Purse.push {μ : Sto} {k : Nat} {c : Int} (h : Purse μ k c) (cs : List Cell) : Purse (μ ++ cs) k c := by
  have hk := purse_k h
  obtain ⟨a, b, h1, h2⟩ := h
  exact ⟨a, b, by rw [List.getElem?_append_left hk]; exact h1, h2⟩
theorem St.wf {L k m : Nat} {cs : List Cell} {μ : Sto} (h : St L k m cs μ) (hc : cs.all (belowC L) = true) : Wf μ := by
  obtain ⟨μ0, rfl, hb⟩ := h
  have h0 := hb.wf
  unfold Wf at h0 ⊢
  rw [hb.len] at h0
  have hle : L ≤ (μ0 ++ cs).length := by rw [List.length_append, hb.len]; omega
  rw [List.all_append, Bool.and_eq_true]
  exact ⟨List.all_eq_true.mpr fun x hx => belowC_mono hle x (List.all_eq_true.mp h0 x hx), List.all_eq_true.mpr fun x hx => belowC_mono hle x (List.all_eq_true.mp hc x hx)⟩
theorem St.get {L k m : Nat} {cs : List Cell} {μ : Sto} (h : St L k m cs μ) (i : Nat) : μ[L + i]? = cs[i]? := by
  obtain ⟨μ0, rfl, hb⟩ := h
  rw [List.getElem?_append_right (by rw [hb.len]; omega), hb.len]
  congr 1
  omega
theorem St.len {L k m : Nat} {cs : List Cell} {μ : Sto} (h : St L k m cs μ) : μ.length = L + cs.length := by
  obtain ⟨μ0, rfl, hb⟩ := h
  rw [List.length_append, hb.len]
theorem St.new {L k m : Nat} {cs : List Cell} {μ : Sto} (h : St L k m cs μ) (c : Cell) : St L k m (cs ++ [c]) (μ ++ [c]) := by
  obtain ⟨μ0, rfl, hb⟩ := h
  exact ⟨μ0, by rw [List.append_assoc], hb⟩
end S
namespace S
open PySem T
def vq (t : Int × Int) : Rat := (t.1 : Rat) / (t.2 : Rat)
def sm {α : Type} (l : List α) (g : α → Rat) : Rat := match l with
  | [] => 0
  | a :: r => g a + sm r g
section
variable {α β : Type}
theorem sm_nil (g : α → Rat) : sm [] g = 0 := rfl
theorem sm_cons (a : α) (r : List α) (g : α → Rat) : sm (a :: r) g = g a + sm r g := rfl
theorem sm_congr {g h : α → Rat} : ∀ {l : List α}, (∀ a ∈ l, g a = h a) → sm l g = sm l h
  | [], _ => rfl
  | a :: r, e => by rw [sm_cons, sm_cons, e a (by simp), sm_congr fun b hb => e b (by simp [hb])]
theorem sm_add (g h : α → Rat) : ∀ l : List α, sm l (fun a => g a + h a) = sm l g + sm l h
  | [] => by simp only [sm_nil]; grind
  | a :: r => by
    rw [sm_cons, sm_cons, sm_cons, sm_add g h r]
    grind
theorem sm_mul (c : Rat) (g : α → Rat) : ∀ l : List α, sm l (fun a => c * g a) = c * sm l g
  | [] => by simp only [sm_nil]; grind
  | a :: r => by
    rw [sm_cons, sm_cons, sm_mul c g r]
    grind
theorem sm_zero : ∀ l : List α, sm l (fun _ => 0) = 0
  | [] => rfl
  | a :: r => by
    rw [sm_cons, sm_zero r]
    grind
theorem sm_le {g h : α → Rat} : ∀ {l : List α}, (∀ a ∈ l, g a ≤ h a) → sm l g ≤ sm l h
  | [], _ => Rat.le_refl
  | a :: r, e => by
    rw [sm_cons, sm_cons]
    have h1 := e a (by simp)
    have h2 := sm_le (l := r) fun b hb => e b (by simp [hb])
    grind
theorem sm_comm (g : α → β → Rat) : ∀ (l : List α) (m : List β), sm l (fun a => sm m (g a)) = sm m fun b => sm l fun a => g a b
  | [], m => by
    rw [sm_nil]
    exact (sm_zero m).symm
  | a :: l, m => by
    rw [sm_cons, sm_comm g l m, ← sm_add]
    rfl
end
def ap (n : Nat) (f : List Int) (x : Nat → Rat) : Rat := sm (List.range n) fun k => ((f.getD k 0 : Int) : Rat) * x k
def posF (fs : List (Int × Int)) : Prop := ∀ f ∈ fs, 0 < f.2
end S
namespace S
open PySem T
theorem rat_mul_le {c a b : Rat} (hc : 0 ≤ c) (h : a ≤ b) : c * a ≤ c * b := Rat.mul_le_mul_of_nonneg_left h hc
end S
namespace S
open PySem T
end S
namespace S
open PySem T
theorem list_of {α : Type} (f : α → D) (P : α → Prop) : ∀ {ds : List D}, (∀ d ∈ ds, ∃ a, d = f a ∧ P a) → ∃ as : List α, ds = as.map f ∧ ∀ a ∈ as, P a
  | [], _ => ⟨[], rfl, fun a h => by cases h⟩
  | d :: ds, h => by
    obtain ⟨a, rfl, ha⟩ := h d (by simp)
    obtain ⟨as, rfl, has⟩ := list_of (ds := ds) f P fun e he => h e (List.mem_cons_of_mem _ he)
    refine ⟨a :: as, rfl, fun b hb => ?_⟩
    rcases List.mem_cons.mp hb with rfl | hb
    · exact ha
    · exact has b hb
theorem by_mem {α : Type} {ps : List α} {ds : List D} {P : α → D → Prop} (hl : ds.length = ps.length) (h : ∀ (j : Nat) (p : α) (d : D), ps[j]? = some p → ds[j]? = some d → P p d) : ∀ d ∈ ds, ∃ p ∈ ps, P p d := by
  intro d hd
  obtain ⟨j, hj, rfl⟩ := List.getElem_of_mem hd
  have hj2 : j < ps.length := by omega
  exact ⟨ps[j], List.getElem_mem _, h j _ _ (List.getElem?_eq_getElem hj2) (List.getElem?_eq_getElem hj)⟩
section
variable {Γ : Tb} {ρ : T.Env} {μ : Sto} {N : T.Env → Sto → Prop} {Rt : D → Sto → Prop} {Q : D → Sto → Prop}
theorem wp_asg {i : Nat} {e : Ee} (h : wpR (evE Γ e ρ μ) fun d μ' => N (ρ.set i (some d)) μ') : wpF (exS Γ (.asg (.nm i) e) ρ μ) N Rt := by
  rw [ex_asg]
  exact wpF_thenF (wpR_mono h fun d μ' h => wpF_nx.mpr h)
theorem wp_bin {o : BOp} {a b : Ee} (h : wpR (evE Γ a ρ μ) fun x μ1 => wpR (evE Γ b ρ μ1) fun y μ2 => wpR (binD o x y μ2) Q) : wpR (evE Γ (.bin o a b) ρ μ) Q := by
  rw [ev_bin, wpR_bind]
  exact wpR_mono h fun x μ1 h => wpR_bind.mpr h
theorem wp_v {i : Nat} {d : D} (h : ρ[i]? = some (some d)) (hq : Q d μ) : wpR (evE Γ (.v i) ρ μ) Q := by
  rw [ev_v, h]
  exact wpR_ok.mpr hq
theorem wp_k {d : D} (hq : Q d μ) : wpR (evE Γ (.k d) ρ μ) Q := wpR_of rfl hq
end
end S
namespace S
open PySem T
theorem St.wfl {L k m : Nat} {cs cs' : List Cell} {μ : Sto} (h : St L k m (cs ++ cs') μ) : ∃ μ0, μ = (μ0 ++ cs) ++ cs' ∧ Base L k m μ0 := by
  obtain ⟨μ0, rfl, hb⟩ := h
  exact ⟨μ0, by rw [List.append_assoc], hb⟩
mutual
theorem pl_below (n : Nat) : ∀ d : D, pl d = true → below n d = true
  | .non, _ => rfl
  | .bl _, _ => rfl
  | .int _, _ => rfl
  | .str _, _ => rfl
  | .tup ds, h => pls_below n ds h
  | .lst ds, h => pls_below n ds h
  | .fro ds, h => pls_below n ds h
  | .dic _ ds, h => pls_below n ds h
  | .wdic _ _, h => by cases h
  | .cell _, h => by cases h
  | .ins _ _ _, h => by cases h
  | .fn _, h => by cases h
  | .cls _, h => by cases h
  | .ty _, h => by cases h
theorem pls_below (n : Nat) : ∀ ds : List D, pls ds = true → belows n ds = true
  | [], _ => rfl
  | d :: ds, h => by
    obtain ⟨h1, h2⟩ := bt (show (pl d && pls ds) = true from h)
    show (below n d && belows n ds) = true
    rw [pl_below n d h1, pls_below n ds h2]
    rfl
end
theorem pls_all {ds : List D} (h : ∀ d ∈ ds, pl d = true) : pls ds = true := by
  induction ds with
  | nil => rfl
  | cons d ds ih =>
    show (pl d && pls ds) = true
    rw [h d (by simp), ih fun e he => h e (by simp [he])]
    rfl
theorem pls_ints (xs : List Int) : pls (xs.map .int) = true := pls_all fun d hd => by
  obtain ⟨x, _, rfl⟩ := List.mem_map.mp hd
  rfl
theorem pl_tI (xs : List Int) : pl (tI xs) = true := pls_ints xs
section
variable {Γ : Tb} {ρ : T.Env} {μ : Sto} {N : T.Env → Sto → Prop} {Rt : D → Sto → Prop} {Q : D → Sto → Prop}
theorem wp_t2 {a b : Ee} (h : wpR (evE Γ a ρ μ) fun x μ1 => wpR (evE Γ b ρ μ1) fun y μ2 => Q (.tup [x, y]) μ2) : wpR (evE Γ (.tup [a, b]) ρ μ) Q := by
  obtain ⟨x, μ1, e1, h⟩ := wpR_ex h
  obtain ⟨y, μ2, e2, h⟩ := wpR_ex h
  rw [ev_tup2, e1, R.bind_ok, e2]
  exact wpR_ok.mpr h
theorem wp_pure {e : Ee} {d : D} {μ' : Sto} (h : evE Γ e ρ μ = .ok d μ') (hq : Q d μ') : wpR (evE Γ e ρ μ) Q := wpR_of h hq
theorem wp_ret {e : Ee} (h : wpR (evE Γ e ρ μ) Rt) : wpF (exS Γ (.ret e) ρ μ) N Rt := by
  rw [ex_ret]
  exact wpF_thenF (wpR_mono h fun d μ' h => wpF_rt.mpr h)
theorem wp_asg2 {i j : Nat} {a b : Ee} (h : wpR (evE Γ a ρ μ) fun x μ1 => wpR (evE Γ b ρ μ1) fun y μ2 => N ((ρ.set i (some x)).set j (some y)) μ2) : wpF (exS Γ (.asg (.tp [.nm i, .nm j]) (.tup [a, b])) ρ μ) N Rt := by
  rw [ex_asg]
  refine wpF_thenF (wp_t2 (wpR_mono h fun x μ1 h => wpR_mono h fun y μ2 h => ?_))
  exact wpF_nx.mpr h
theorem clst0 : evE Γ (.clst []) ρ μ = .ok (.cell μ.length) (μ ++ [.lst []]) := rfl
theorem wp_loop {tg : Tg} {ik : IK} {its : List Ee} {body : List Ss} {xs : List D} {μ1 : Sto} {ds : List D} {gs : List (Nat × List D)} (h1 : evEs Γ its ρ μ = .ok xs μ1) (h2 : itemsOf ik xs μ1 = some (ds, gs)) (h : wpF (forL gs tg (exB Γ body) ds ρ μ1) N Rt) : wpF (exS Γ (.loop tg ik its body) ρ μ) N Rt := by
  rw [ex_loop, h1, R.thenF_ok, h2]
  exact h
end
theorem St.lst {L k m i : Nat} {cs : List Cell} {μ : Sto} {Bs : List D} (h : St L k m cs μ) (hc : cs[i]? = some (.lst Bs)) : lstOf μ (.cell (L + i)) = some Bs ∧ seqOf μ (.cell (L + i)) = some Bs := by
  have g := h.get i
  rw [hc] at g
  exact ⟨by simp only [lstOf, g], by simp only [seqOf, g]⟩
end S
namespace S
open PySem T
def gcdL (ns : List Int) : Nat := ns.foldl (fun g n => Int.gcd (n.natAbs : Int) (g : Int)) 0
def redF (t b : Int) : Int × Int := if 0 < b then (t / (Int.gcd t b : Int), b / (Int.gcd t b : Int)) else (-(t / (Int.gcd t b : Int)), -(b / (Int.gcd t b : Int)))
theorem red_ok {t b : Int} (h0 : b ≠ 0) : 0 < (redF t b).2 ∧ Int.gcd (redF t b).1 (redF t b).2 = 1 ∧ vq (redF t b) = (t : Rat) / (b : Rat) := by
  have hg0 : 0 < Int.gcd t b := Int.gcd_pos_of_ne_zero_right t h0
  have hgi : ((Int.gcd t b : Nat) : Int) ≠ 0 := by omega
  obtain ⟨t', ht⟩ := Int.gcd_dvd_left (a := t) (b := b)
  obtain ⟨b', hb⟩ := Int.gcd_dvd_right (a := t) (b := b)
  have et : t / (Int.gcd t b : Int) = t' := by
    conv => lhs; lhs; rw [ht]
    exact Int.mul_ediv_cancel_left _ hgi
  have eb : b / (Int.gcd t b : Int) = b' := by
    conv => lhs; lhs; rw [hb]
    exact Int.mul_ediv_cancel_left _ hgi
  have hco : Int.gcd t' b' = 1 := by
    rw [← et, ← eb]
    exact Int.gcd_ediv_gcd_ediv_gcd hg0
  generalize hG : ((Int.gcd t b : Nat) : Int) = G at ht hb hgi et eb
  have hGp : 0 < G := by omega
  have hb0 : b' ≠ 0 := fun z => h0 (by rw [hb, z, Int.mul_zero])
  have hv : (t : Rat) / (b : Rat) = vq (t', b') := by
    have e1 : (G : Rat) ≠ 0 := by exact_mod_cast hgi
    have e2 : (b' : Rat) ≠ 0 := by exact_mod_cast hb0
    unfold vq
    rw [ht, hb]
    push_cast
    grind
  unfold redF
  rw [hG, et, eb]
  by_cases hp : 0 < b
  · rw [if_pos hp]
    refine ⟨?_, hco, hv.symm⟩
    show 0 < b'
    rw [hb] at hp
    have : ¬ b' ≤ 0 := fun z => by
      have := Int.mul_nonneg (Int.le_of_lt hGp) (show 0 ≤ -b' by omega)
      rw [Int.mul_neg] at this
      omega
    omega
  · rw [if_neg hp]
    refine ⟨?_, by simpa using hco, ?_⟩
    · show 0 < -b'
      have : b < 0 := by omega
      rw [hb] at this
      have h1 : ¬ 0 ≤ b' := fun z => by
        have := Int.mul_nonneg (Int.le_of_lt hGp) z
        omega
      omega
    · rw [hv]
      unfold vq
      push_cast
      grind
end S
namespace S
open PySem T
end S
namespace S
open PySem T
def Frs (fs : List (Int × Int)) : Prop := ∀ f ∈ fs, 0 < f.2 ∧ Int.gcd f.1 f.2 = 1
theorem Frs.pos {fs : List (Int × Int)} (h : Frs fs) : posF fs := fun f hf => (h f hf).1
end S
namespace S
open PySem T
theorem set_last {cs : List Cell} {a b : Cell} : (cs ++ [a]).set cs.length b = cs ++ [b] := by
  rw [List.set_append_right _ _ (Nat.le_refl _), Nat.sub_self]
  rfl
end S
namespace S
open PySem T
structure Wrd (n : List Nat) : Prop where
  lo : 1 ≤ n.length
  hi : n.length ≤ 8
  az : ∀ c ∈ n, 97 ≤ c ∧ c ≤ 122
theorem az_mem {c : Nat} (h : 97 ≤ c ∧ c ≤ 122) : c ∈ ("abcdefghijklmnopqrstuvwxyz" : Str).cps.toList := by
  have k : ∀ i : Fin 26, (97 + i.1) ∈ ("abcdefghijklmnopqrstuvwxyz" : Str).cps.toList := by decide +kernel
  have := k ⟨c - 97, by omega⟩
  rwa [show 97 + (c - 97) = c by omega] at this
theorem Wrd.writ {n : List Nat} (h : Wrd n) : writB (SX.S n) = true := by
  unfold writB
  have hl : (SX.S n).length = n.length := SX.S_len n
  have h1 := h.lo
  have h2 := h.hi
  rw [hl, decide_eq_true (show 1 ≤ (n.length : Int) by omega), decide_eq_true (show (n.length : Int) ≤ 8 by omega)]
  simp only [Bool.true_and]
  rw [List.all_eq_true]
  exact fun c hc => decide_eq_true (az_mem (h.az c hc))
theorem Wrd.no {n : List Nat} (h : Wrd n) {c : Nat} (hc : c < 97) : c ∉ n := fun m => by
  have := h.az c m
  omega
structure Sch where
  ns : List (List Nat)
  ts : List (List Nat × Im)
def imT (ns : List (List Nat)) (q : Int × Nat) : List Nat := (if q.1 < 0 then [45] else []) ++ ns.getD q.2 []
def turnT (ns : List (List Nat)) (t : List Nat × Im) : List Nat := t.1 ++ ([58, 32] ++ TL.joinL [32] (t.2.map (imT ns)))
def schT (d : Sch) : List Nat := TL.joinL [59, 32] (TL.joinL [32] d.ns :: d.ts.map (turnT d.ns))
structure SchOk (d : Sch) : Prop where
  ne : d.ns ≠ []
  n6 : d.ns.length ≤ 6
  nw : ∀ n ∈ d.ns, Wrd n
  nr : risB (d.ns.map SX.S) = true
  t4 : d.ts.length ≤ 4
  tw : ∀ t ∈ d.ts, Wrd t.1
  tr : risB (d.ts.map fun t => SX.S t.1) = true
  tn : ∀ t ∈ d.ts, t.1 ∉ d.ns
  il : ∀ t ∈ d.ts, t.2.length = d.ns.length
  is : ∀ t ∈ d.ts, ∀ q ∈ t.2, (q.1 = 1 ∨ q.1 = -1) ∧ q.2 < d.ns.length
  ind : ∀ t ∈ d.ts, (t.2.map (·.2)).Nodup
theorem mem_joinL {sep : List Nat} {c : Nat} : ∀ {ps : List (List Nat)}, c ∈ TL.joinL sep ps → c ∈ sep ∨ ∃ p ∈ ps, c ∈ p
  | [], h => by cases h
  | [p], h => .inr ⟨p, by simp, h⟩
  | p :: q :: r, h => by
    have h : c ∈ p ++ (sep ++ TL.joinL sep (q :: r)) := h
    rw [List.mem_append, List.mem_append] at h
    rcases h with h | h | h
    · exact .inr ⟨p, by simp, h⟩
    · exact .inl h
    · rcases mem_joinL (ps := q :: r) h with h | ⟨z, h1, h2⟩
      · exact .inl h
      · exact .inr ⟨z, by simp only [List.mem_cons] at h1 ⊢; exact .inr h1, h2⟩
theorem len_joinL {sep : List Nat} {m : Nat} : ∀ {ps : List (List Nat)}, (∀ p ∈ ps, p.length ≤ m) → (TL.joinL sep ps).length ≤ ps.length * (m + sep.length)
  | [], _ => Nat.zero_le _
  | [p], h => by
    have := h p (by simp)
    show p.length ≤ 1 * _
    omega
  | p :: q :: r, h => by
    have h1 := h p (by simp)
    have ih := len_joinL (sep := sep) (ps := q :: r) (fun z hz => h z (by simp only [List.mem_cons] at hz ⊢; exact .inr hz))
    show (p ++ (sep ++ TL.joinL sep (q :: r))).length ≤ _
    rw [List.length_append, List.length_append, show (p :: q :: r).length = (q :: r).length + 1 from rfl, Nat.succ_mul]
    omega
theorem sp_S : (" " : Str) = SX.S [32] := by decide +kernel
theorem se_S : ("; " : Str) = SX.S [59, 32] := by decide +kernel
theorem co_S : (": " : Str) = SX.S [58, 32] := by decide +kernel
theorem mi_S : ("-" : Str) = SX.S [45] := by decide +kernel
theorem split_sp {ps : List (List Nat)} (hn : ps ≠ []) (h : ∀ p ∈ ps, 32 ∉ p) : Txt.split (SX.S (TL.joinL [32] ps)) " " = ps.map SX.S := by
  rw [sp_S, SX.split_S (by simp) (by decide), SX.spl_join hn h]
theorem split_se {ps : List (List Nat)} (hn : ps ≠ []) (h : ∀ p ∈ ps, 59 ∉ p) : Txt.split (SX.S (TL.joinL [59, 32] ps)) "; " = ps.map SX.S := by
  rw [se_S, SX.split_S (by simp) (by decide), SX.spl_join hn h]
theorem part_co {p q : List Nat} (h : 58 ∉ p) : Txt.partition (SX.S (p ++ ([58, 32] ++ q))) ": " = (SX.S p, (": " : Str), SX.S q) := by
  rw [co_S, SX.partition_some (by simp) (SX.par_head q h)]
theorem cut1 (l : List Nat) : L2.cutS (SX.S l) none (some 1) = SX.S (l.take 1) := by
  rw [C8.cutS_slice, SX.slice_to (by omega)]
  rfl
theorem cut2 (l : List Nat) : L2.cutS (SX.S l) (some 1) none = SX.S (l.drop 1) := by
  rw [C8.cutS_slice, SX.slice_from (by omega)]
  rfl
theorem S_mem {n : List Nat} {ns : List (List Nat)} : SX.S n ∈ ns.map SX.S ↔ n ∈ ns := by
  rw [List.mem_map]
  constructor
  · rintro ⟨m, h1, h2⟩
    rw [SX.S_inj h2] at h1
    exact h1
  · exact fun h => ⟨n, h, rfl⟩
theorem S_nodup {ns : List (List Nat)} (h : (ns.map SX.S).Nodup) : ns.Nodup := by
  rw [List.nodup_iff_pairwise_ne] at h ⊢
  rw [List.pairwise_map] at h
  exact h.imp fun h e => h (by rw [e])
theorem S_idx {ns : List (List Nat)} (hd : ns.Nodup) {k : Nat} (hk : k < ns.length) : (ns.map SX.S).idxOf (SX.S (ns.getD k [])) = k := by
  induction ns generalizing k with
  | nil => exact absurd hk (Nat.not_lt_zero _)
  | cons n ns ih =>
    rw [List.nodup_cons] at hd
    cases k with
    | zero =>
      rw [List.map_cons, List.getD_cons_zero, List.idxOf_cons]
      simp
    | succ k =>
      have hk : k < ns.length := Nat.lt_of_succ_lt_succ hk
      have hm : ns.getD k [] ∈ ns := by
        rw [List.getD_eq_getElem?_getD, List.getElem?_eq_getElem hk]
        exact List.getElem_mem hk
      rw [List.map_cons, List.getD_cons_succ, List.idxOf_cons]
      have hb : (SX.S n == SX.S (ns.getD k [])) = false := by
        rw [beq_eq_false_iff_ne]
        intro e
        rw [← SX.S_inj e] at hm
        exact hd.1 hm
      rw [hb, cond_false, ih hd.2 hk]
theorem getD_mem {ns : List (List Nat)} {k : Nat} (hk : k < ns.length) : ns.getD k [] ∈ ns := by
  rw [List.getD_eq_getElem?_getD, List.getElem?_eq_getElem hk]
  exact List.getElem_mem hk
theorem imgF_of {ns : List (List Nat)} (hw : ∀ n ∈ ns, Wrd n) (hd : ns.Nodup) {q : Int × Nat} (hs : q.1 = 1 ∨ q.1 = -1) (hk : q.2 < ns.length) : imgF (SX.S (imT ns q)) (ns.map SX.S) = some q := by
  obtain ⟨s, k⟩ := q
  simp only at hs hk
  have hm : ns.getD k [] ∈ ns := getD_mem hk
  have hwd := hw _ hm
  rcases hs with rfl | rfl
  · have e : imT ns (1, k) = ns.getD k [] := rfl
    have h1 : ¬ L2.cutS (SX.S (ns.getD k [])) none (some 1) = ("-" : Str) := by
      rw [cut1, mi_S]
      intro h
      have h := SX.S_inj h
      have h45 : 45 ∈ ns.getD k [] := List.mem_of_mem_take (i := 1) (by rw [h]; simp)
      exact hwd.no (by omega) h45
    unfold imgF
    rw [e, if_neg h1, if_pos (S_mem.mpr hm), S_idx hd hk]
  · have e : imT ns (-1, k) = 45 :: ns.getD k [] := rfl
    have h1 : L2.cutS (SX.S (45 :: ns.getD k [])) none (some 1) = ("-" : Str) := by
      rw [cut1, mi_S]
      rfl
    have h2 : L2.cutS (SX.S (45 :: ns.getD k [])) (some 1) none = SX.S (ns.getD k []) := by
      rw [cut2]
      rfl
    unfold imgF
    rw [e, if_pos h1, h2, if_pos (S_mem.mpr hm), S_idx hd hk]
theorem allSome_map {α β : Type} {f : α → Option β} {g : α → β} : ∀ {l : List α}, (∀ a ∈ l, f a = some (g a)) → allSome (l.map f) = some (l.map g)
  | [], _ => rfl
  | a :: r, h => by
    rw [List.map_cons, h a (by simp)]
    show (allSome (r.map f)).map (g a :: ·) = _
    rw [allSome_map fun b hb => h b (by simp [hb])]
    rfl
theorem imT_no {ns : List (List Nat)} (hw : ∀ n ∈ ns, Wrd n) (q : Int × Nat) {c : Nat} (hc : c < 97) (h45 : c ≠ 45) : c ∉ imT ns q := by
  intro h
  unfold imT at h
  rw [List.mem_append] at h
  rcases h with h | h
  · split at h
    · rw [List.mem_singleton] at h
      exact h45 h
    · cases h
  · rw [List.getD_eq_getElem?_getD] at h
    cases e : ns[q.2]? with
    | none => rw [e] at h; cases h
    | some n =>
      rw [e] at h
      exact (hw n (List.mem_of_getElem? e)).no hc h
theorem imT_len {ns : List (List Nat)} (hw : ∀ n ∈ ns, Wrd n) (q : Int × Nat) : (imT ns q).length ≤ 9 := by
  unfold imT
  rw [List.length_append]
  have h2 : (ns.getD q.2 []).length ≤ 8 := by
    rw [List.getD_eq_getElem?_getD]
    cases e : ns[q.2]? with
    | none => exact Nat.zero_le _
    | some n => exact (hw n (List.mem_of_getElem? e)).hi
  split
  · show 1 + _ ≤ 9
    omega
  · show 0 + _ ≤ 9
    omega
theorem imT_asc {ns : List (List Nat)} (hw : ∀ n ∈ ns, Wrd n) (q : Int × Nat) : ∀ c ∈ imT ns q, c ≤ 122 := by
  intro c h
  unfold imT at h
  rw [List.mem_append] at h
  rcases h with h | h
  · split at h
    · rw [List.mem_singleton] at h
      omega
    · cases h
  · rw [List.getD_eq_getElem?_getD] at h
    cases e : ns[q.2]? with
    | none => rw [e] at h; cases h
    | some n =>
      rw [e] at h
      exact ((hw n (List.mem_of_getElem? e)).az c h).2
section
variable {d : Sch} (h : SchOk d)
include h
theorem SchOk.nd : d.ns.Nodup := S_nodup (ris_nodup h.nr)
theorem SchOk.imgs {t : List Nat × Im} (ht : t ∈ d.ts) : allSome ((Txt.split (SX.S (TL.joinL [32] (t.2.map (imT d.ns)))) " ").map fun p => imgF p (d.ns.map SX.S)) = some t.2 := by
  have hne : t.2.map (imT d.ns) ≠ [] := by
    have h1 := h.il t ht
    have h2 := List.length_pos_iff.mpr h.ne
    intro e
    have := congrArg List.length e
    rw [List.length_map] at this
    simp only [List.length_nil] at this
    omega
  rw [split_sp hne fun p hp => by
    obtain ⟨q, _, rfl⟩ := List.mem_map.mp hp
    exact imT_no h.nw q (by omega) (by omega), List.map_map, List.map_map]
  have := allSome_map (f := ((fun p => imgF p (d.ns.map SX.S)) ∘ SX.S) ∘ imT d.ns) (g := fun q => q) (l := t.2) fun q hq => imgF_of h.nw h.nd (h.is t ht q hq).1 (h.is t ht q hq).2
  rw [List.map_id'] at this
  exact this
theorem SchOk.turn {t : List Nat × Im} (ht : t ∈ d.ts) : turnF (d.ns.map SX.S) (SX.S (turnT d.ns t)) = some (SX.S t.1, t.2) := by
  have hp : Txt.partition (SX.S (turnT d.ns t)) ": " = (SX.S t.1, (": " : Str), SX.S (TL.joinL [32] (t.2.map (imT d.ns)))) := part_co ((h.tw t ht).no (by omega))
  have hc : ¬ ((": " : Str) = "" ∨ writB (SX.S t.1) = false ∨ SX.S t.1 ∈ d.ns.map SX.S) := by
    rintro (e | e | e)
    · exact absurd e (by decide +kernel)
    · rw [(h.tw t ht).writ] at e
      cases e
    · exact h.tn t ht (S_mem.mp e)
  have hi : imgsF (SX.S (TL.joinL [32] (t.2.map (imT d.ns)))) (d.ns.map SX.S) = some t.2 := by
    unfold imgsF
    rw [h.imgs ht]
    simp only
    rw [if_pos ⟨by rw [List.length_map]; exact h.il t ht, h.ind t ht⟩]
  unfold turnF
  rw [hp]
  simp only
  rw [if_neg hc, hi]
  rfl
theorem SchOk.line : Txt.split (SX.S (schT d)) "; " = SX.S (TL.joinL [32] d.ns) :: (d.ts.map fun t => SX.S (turnT d.ns t)) := by
  unfold schT
  rw [split_se (by simp) fun p hp => ?_]
  · rw [List.map_cons, List.map_map]
    rfl
  · intro hm
    rcases List.mem_cons.mp hp with rfl | hp
    · rcases mem_joinL hm with hm | ⟨n, h1, h2⟩
      · simp at hm
      · exact (h.nw n h1).no (by omega) h2
    · obtain ⟨t, ht, rfl⟩ := List.mem_map.mp hp
      unfold turnT at hm
      rw [List.mem_append, List.mem_append] at hm
      rcases hm with hm | hm | hm
      · exact (h.tw t ht).no (by omega) hm
      · simp at hm
      · rcases mem_joinL hm with hm | ⟨n, h1, h2⟩
        · simp at hm
        · obtain ⟨q, _, rfl⟩ := List.mem_map.mp h1
          exact imT_no h.nw q (by omega) (by omega) h2
theorem SchOk.names : namesF (SX.S (schT d)) = d.ns.map SX.S := by
  unfold namesF
  rw [h.line]
  show Txt.split (SX.S (TL.joinL [32] d.ns)) " " = _
  exact split_sp h.ne fun p hp => (h.nw p hp).no (by omega)
theorem SchOk.parts : partsF (SX.S (schT d)) = d.ts.map fun t => SX.S (turnT d.ns t) := by
  unfold partsF
  rw [h.line]
  rfl
theorem SchOk.tx : TxOk (SX.S (schT d)) := by
  have hj : ∀ t ∈ d.ts, (turnT d.ns t).length ≤ 70 := by
    intro t ht
    unfold turnT
    rw [List.length_append, List.length_append]
    have h1 := (h.tw t ht).hi
    have h2 := len_joinL (sep := [32]) (m := 9) (ps := t.2.map (imT d.ns)) fun p hp => by
      obtain ⟨q, _, rfl⟩ := List.mem_map.mp hp
      exact imT_len h.nw q
    rw [List.length_map, h.il t ht] at h2
    have h3 := h.n6
    have h4 : d.ns.length * (9 + [32].length) ≤ 6 * 10 := Nat.mul_le_mul h3 (Nat.le_refl _)
    show t.1.length + (2 + _) ≤ 70
    omega
  have hn : (TL.joinL [32] d.ns).length ≤ 70 := by
    have h2 := len_joinL (sep := [32]) (m := 8) (ps := d.ns) fun p hp => (h.nw p hp).hi
    have h3 := h.n6
    have h4 : d.ns.length * (8 + [32].length) ≤ 6 * 9 := Nat.mul_le_mul h3 (Nat.le_refl _)
    omega
  refine ⟨⟨?_, ?_⟩, ?_, ?_⟩
  · show (schT d).toArray.toList.length ≤ 4000
    rw [List.toList_toArray]
    unfold schT
    have h2 := len_joinL (sep := [59, 32]) (m := 70) (ps := TL.joinL [32] d.ns :: d.ts.map (turnT d.ns)) fun p hp => by
      rcases List.mem_cons.mp hp with rfl | hp
      · exact hn
      · obtain ⟨t, ht, rfl⟩ := List.mem_map.mp hp
        exact hj t ht
    rw [List.length_cons, List.length_map] at h2
    have h3 := h.t4
    have h4 : (d.ts.length + 1) * (70 + [59, 32].length) ≤ 5 * 72 := Nat.mul_le_mul (by omega) (Nat.le_refl _)
    omega
  · intro c hc
    have hc : c ∈ (schT d).toArray.toList := hc
    rw [List.toList_toArray] at hc
    unfold schT at hc
    have : c ≤ 122 := by
      rcases mem_joinL hc with hm | ⟨p, hp, hm⟩
      · simp at hm
        omega
      · rcases List.mem_cons.mp hp with rfl | hp
        · rcases mem_joinL hm with hm | ⟨n, h1, h2⟩
          · simp at hm
            omega
          · exact ((h.nw n h1).az c h2).2
        · obtain ⟨t, ht, rfl⟩ := List.mem_map.mp hp
          unfold turnT at hm
          rw [List.mem_append, List.mem_append] at hm
          rcases hm with hm | hm | hm
          · exact ((h.tw t ht).az c hm).2
          · simp at hm
            omega
          · rcases mem_joinL hm with hm | ⟨n, h1, h2⟩
            · simp at hm
              omega
            · obtain ⟨q, _, rfl⟩ := List.mem_map.mp h1
              exact imT_asc h.nw q c h2
    omega
  · rw [h.parts, List.length_map]
    have := h.t4
    omega
  · intro p hp
    rw [h.parts] at hp
    obtain ⟨t, ht, rfl⟩ := List.mem_map.mp hp
    have hpp : Txt.partition (SX.S (turnT d.ns t)) ": " = (SX.S t.1, (": " : Str), SX.S (TL.joinL [32] (t.2.map (imT d.ns)))) := part_co ((h.tw t ht).no (by omega))
    rw [hpp, h.names]
    unfold okNd
    intro im him _
    have him : allSome ((Txt.split (SX.S (TL.joinL [32] (t.2.map (imT d.ns)))) " ").map fun p => imgF p (d.ns.map SX.S)) = some im := him
    rw [h.imgs ht] at him
    cases him
    exact h.ind t ht
end
end S
namespace S
open PySem T
section
variable {Γ : Tb} {ρ : T.Env} {μ : Sto} {N : T.Env → Sto → Prop} {Rt : D → Sto → Prop} {Q : D → Sto → Prop}
theorem wp_call2 {f : Nat} {a b : Ee} (h : wpR (evE Γ a ρ μ) fun x μ1 => wpR (evE Γ b ρ μ1) fun y μ2 => wpR (Γ.fn f [x, y] μ2) Q) : wpR (evE Γ (.call f [a, b]) ρ μ) Q := by
  obtain ⟨x, μ1, e1, h⟩ := wpR_ex h
  obtain ⟨y, μ2, e2, h⟩ := wpR_ex h
  have e : evEs Γ [a, b] ρ μ = .ok [x, y] μ2 := by
    rw [evs_cons, e1]
    simp only [R.bind_ok, evs_cons, e2, evs_nil]
  rw [ev_call, e, R.bind_ok]
  exact h
theorem wp_call3 {f : Nat} {a b c : Ee} (h : wpR (evE Γ a ρ μ) fun x μ1 => wpR (evE Γ b ρ μ1) fun y μ2 => wpR (evE Γ c ρ μ2) fun z μ3 => wpR (Γ.fn f [x, y, z] μ3) Q) : wpR (evE Γ (.call f [a, b, c]) ρ μ) Q := by
  obtain ⟨x, μ1, e1, h⟩ := wpR_ex h
  obtain ⟨y, μ2, e2, h⟩ := wpR_ex h
  obtain ⟨z, μ3, e3, h⟩ := wpR_ex h
  have e : evEs Γ [a, b, c] ρ μ = .ok [x, y, z] μ3 := by
    rw [evs_cons, e1]
    simp only [R.bind_ok, evs_cons, e2, e3, evs_nil]
  rw [ev_call, e, R.bind_ok]
  exact h
theorem wp_ix {a b : Ee} (h : wpR (evE Γ a ρ μ) fun x μ1 => wpR (evE Γ b ρ μ1) fun y μ2 => wpR (ixD x y μ2) Q) : wpR (evE Γ (.ix a b) ρ μ) Q := by
  rw [ev_ix, wpR_bind]
  exact wpR_mono h fun x μ1 h => wpR_bind.mpr h
end
theorem add_strs {a b : List Nat} (h : a.length + b.length ≤ 8000) {μ : Sto} : binD .add (.str (SX.S a)) (.str (SX.S b)) μ = .ok (.str (SX.S (a ++ b))) μ := by
  show (if fits ((SX.S a).length + (SX.S b).length) = true then R.ok (D.str (SX.S a ++ SX.S b)) μ else .bad) = _
  rw [SX.S_len, SX.S_len, if_pos (fits_n h), SX.S_cat]
theorem strsD_map : ∀ xs : List Str, strsD (xs.map .str) = some xs
  | [] => rfl
  | x :: xs => by
    show (strsD (xs.map D.str)).map (x :: ·) = _
    rw [strsD_map xs]
    rfl
end S
namespace S
open PySem T
structure Tail (t : List Nat) : Prop where
  len : t.length ≤ 7
  az : ∀ c ∈ t, 97 ≤ c ∧ c ≤ 122
structure Heads (ls : List Nat) (n : Nat) (ws : List (List Nat)) : Prop where
  len : ws.length = n
  at_ : ∀ i < n, ∃ c t, ls[i]? = some c ∧ ws[i]? = some (c :: t) ∧ Tail t
def wsD (ws : List (List Nat)) : List D := ws.map fun w => .str (SX.S w)
theorem bel_ws (n : Nat) (ws : List (List Nat)) : belows n (wsD ws) = true := pls_below n _ (pls_all fun d hd => by
  obtain ⟨x, _, rfl⟩ := List.mem_map.mp hd
  rfl)
abbrev E6 (a b c d e f : Option D) : T.Env := [a, b, c, d, e, f]
theorem get_last {cs : List Cell} {c : Cell} : (cs ++ [c])[cs.length]? = some c := by
  rw [List.getElem?_append_right (Nat.le_refl _), Nat.sub_self]
  rfl
structure TurnOk (n : Nat) (im : Im) : Prop where
  len : im.length = n
  sg : ∀ q ∈ im, (q.1 = 1 ∨ q.1 = -1) ∧ q.2 < n
  nd : (im.map (·.2)).Nodup
def natsD (l : List Nat) : List D := l.map fun (i : Nat) => .int (i : Int)
theorem map_erase : ∀ (l : List Nat) (i : Nat), (l.map fun (i : Nat) => D.int (i : Int)).eraseIdx i = (l.eraseIdx i).map fun (i : Nat) => D.int (i : Int)
  | [], _ => rfl
  | y :: l, 0 => rfl
  | y :: l, i + 1 => by
    rw [List.map_cons, List.eraseIdx_cons_succ, List.eraseIdx_cons_succ, map_erase l i, List.map_cons]
theorem perm_erase {x : Nat} : ∀ {l : List Nat} {i : Nat}, l[i]? = some x → (x :: l.eraseIdx i).Perm l
  | [], _, h => by cases h
  | y :: l, 0, h => by
    cases h
    exact List.Perm.refl _
  | y :: l, i + 1, h => by
    have ih := perm_erase (l := l) (i := i) h
    exact (List.Perm.swap _ _ _).trans (ih.cons y)
theorem perm_pop {l r : List Nat} {i x : Nat} (h : l[i]? = some x) {s : List Nat} (hp : (l ++ r).Perm s) : (l.eraseIdx i ++ (r ++ [x])).Perm s := by
  refine List.Perm.trans ?_ hp
  have h1 := perm_erase h
  have h2 : (l.eraseIdx i ++ (r ++ [x])).Perm (x :: (l.eraseIdx i ++ r)) := by
    rw [← List.append_assoc]
    exact List.perm_append_singleton _ _
  exact h2.trans (h1.append_right r)
end S
namespace S
open PySem T
theorem Heads.mem {ls : List Nat} {n : Nat} {ws : List (List Nat)} (h : Heads ls n ws) {w : List Nat} (hw : w ∈ ws) : ∃ c t, c ∈ ls ∧ w = c :: t ∧ Tail t := by
  obtain ⟨i, hi, rfl⟩ := List.getElem_of_mem hw
  obtain ⟨c, t, h1, h2, h3⟩ := h.at_ i (by rw [← h.len]; exact hi)
  rw [List.getElem?_eq_getElem hi] at h2
  exact ⟨c, t, List.mem_of_getElem? h1, Option.some.inj h2, h3⟩
theorem wp_step {Γ : Tb} {ρ : T.Env} {μ : Sto} {N : T.Env → Sto → Prop} {Rt : D → Sto → Prop} {s : Ss} {ρ' : T.Env} {μ' : Sto} (h : exS Γ s ρ μ = .nx ρ' μ') (hN : N ρ' μ') : wpF (exS Γ s ρ μ) N Rt := by
  rw [h]
  exact wpF_nx.mpr hN
theorem sum_len {m : Nat} : ∀ {ps : List (List Nat)}, (∀ p ∈ ps, p.length ≤ m) → (ps.map (·.length)).sum ≤ ps.length * m
  | [], _ => by simp
  | p :: ps, h => by
    have h1 := h p (by simp)
    have ih := sum_len (ps := ps) fun q hq => h q (by simp [hq])
    rw [List.map_cons, List.sum_cons, List.length_cons, Nat.succ_mul]
    omega
theorem join_ws {s : List Nat} {ps : List (List Nat)} {x : D} {μ : Sto} {m : Nat} (hx : seqOf μ x = some (wsD ps)) (hm : ∀ p ∈ ps, p.length ≤ m) (hl : ps.length * m + s.length * ps.length ≤ 8000) : meD .join (.str (SX.S s)) [x] μ = .ok (.str (SX.S (TL.joinL s ps))) μ := by
  have e : wsD ps = (ps.map SX.S).map .str := by
    unfold wsD
    rw [List.map_map]
    rfl
  have h1 : (seqOf μ x).bind strsD = some (ps.map SX.S) := by rw [hx, e, Option.bind_some, strsD_map]
  show (match D.str (SX.S s), (seqOf μ x).bind strsD with
    | .str a, some ys => if fits ((ys.map Str.length).sum + a.length * ys.length) = true then R.ok (D.str (Txt.join a ys)) μ else .bad
    | _, _ => .bad) = _
  rw [h1]
  have h2 := sum_len hm
  have h3 : fits (((ps.map SX.S).map Str.length).sum + (SX.S s).length * (ps.map SX.S).length) = true := by
    refine fits_n ?_
    have := SX.lens ps
    have e3 : ((ps.map SX.S).map Str.length) = ps.map (·.length) := this
    rw [e3, SX.S_len, List.length_map]
    omega
  simp only
  rw [if_pos h3, SX.join_S]
theorem recv_join {a : Str} {μ : Sto} : recv .join (.str a) μ = true := rfl
theorem ix_ws {ns : List (List Nat)} {k : Nat} (hk : k < ns.length) {μ : Sto} : ixD (.lst (wsD ns)) (.int (k : Int)) μ = .ok (.str (SX.S (ns.getD k []))) μ := by
  have h2 : L2.atI (wsD ns) (k : Int) = some (.str (SX.S (ns.getD k []))) := by
    unfold L2.atI L2.ixN
    have : (wsD ns).length = ns.length := List.length_map _
    rw [if_pos (by omega), if_pos (by omega)]
    simp only [Int.toNat_natCast, Option.bind_some]
    unfold wsD
    rw [List.getElem?_map, List.getElem?_eq_getElem hk, List.getD_eq_getElem?_getD, List.getElem?_eq_getElem hk]
    rfl
  show (match L2.atI (wsD ns) (k : Int) with
    | some d => R.ok d μ
    | none => .bad) = _
  rw [h2]
theorem int_blD {b : Bool} {μ : Sto} : biD .int [.bl b] μ = .ok (.int (if b then 1 else 0)) μ := rfl
theorem mi_1 {μ : Sto} : binD .mul (.str "-") (.int 1) μ = .ok (.str (SX.S [45])) μ := by
  have : repS ("-" : Str) 1 = SX.S [45] := by decide +kernel
  show (if (decide (-(2 ^ 62) < (1 : Int) ∧ (1 : Int) < 2 ^ 62) && fits (("-" : Str).length * (1 : Int).toNat)) = true then R.ok (D.str (repS ("-" : Str) 1)) μ else .bad) = _
  rw [if_pos (by decide +kernel), this]
theorem mi_0 {μ : Sto} : binD .mul (.str "-") (.int 0) μ = .ok (.str (SX.S [])) μ := by
  have : repS ("-" : Str) 0 = SX.S [] := by decide +kernel
  show (if (decide (-(2 ^ 62) < (0 : Int) ∧ (0 : Int) < 2 ^ 62) && fits (("-" : Str).length * (0 : Int).toNat)) = true then R.ok (D.str (repS ("-" : Str) 0)) μ else .bad) = _
  rw [if_pos (by decide +kernel), this]
theorem mi_b {b : Bool} {μ : Sto} : binD .mul (.str "-") (.int (if b then 1 else 0)) μ = .ok (.str (SX.S (if b then [45] else []))) μ := by
  cases b
  · exact mi_0
  · exact mi_1
theorem leave_pl {μ : Sto} (h : Wf μ) {d : D} (hd : pl d = true) (c : Cell) : leave false μ.length d (μ ++ [c]) = .ok d μ := by
  unfold leave
  rw [if_neg (by simp), List.take_left, if_pos (show μ.all (belowC μ.length) = true from h)]
  have hb := pl_below μ.length d hd
  have ht : thaw μ.length (μ ++ [c]) d = some d := by
    cases d with
    | cell i => cases hd
    | tup ds => exact if_pos hb
    | _ => exact if_pos (e := none) hb
  simp only [ht]
theorem turnT_len {d : Sch} (h : SchOk d) {t : List Nat × Im} (ht : t ∈ d.ts) : (TL.joinL [32] (t.2.map (imT d.ns))).length ≤ 60 ∧ (turnT d.ns t).length ≤ 70 := by
  have h1 := (h.tw t ht).hi
  have h2 := len_joinL (sep := [32]) (m := 9) (ps := t.2.map (imT d.ns)) fun p hp => by
    obtain ⟨q, _, rfl⟩ := List.mem_map.mp hp
    exact imT_len h.nw q
  rw [List.length_map, h.il t ht] at h2
  have h3 := h.n6
  have h4 : d.ns.length * (9 + [32].length) ≤ 6 * 10 := Nat.mul_le_mul h3 (Nat.le_refl _)
  refine ⟨by omega, ?_⟩
  unfold turnT
  rw [List.length_append, List.length_append]
  show t.1.length + (2 + _) ≤ 70
  omega
theorem names_len {d : Sch} (h : SchOk d) : (TL.joinL [32] d.ns).length ≤ 70 := by
  have h2 := len_joinL (sep := [32]) (m := 8) (ps := d.ns) fun p hp => (h.nw p hp).hi
  have h3 := h.n6
  have h4 : d.ns.length * (8 + [32].length) ≤ 6 * 9 := Nat.mul_le_mul h3 (Nat.le_refl _)
  omega
end S
namespace S
open PySem T
theorem bel_tI (n : Nat) (xs : List Int) : below n (tI xs) = true := pl_below n _ (pl_tI xs)
end S
namespace S
open PySem T
structure Pyo (n : Nat) (d : D) : Prop where
  ex : ∃ q, toPy d = some q ∧ PyData.canLay0 q = true ∧ PyData.depth q ≤ n
theorem Pyo.mono {m n : Nat} {d : D} (h : Pyo m d) (hn : m ≤ n) : Pyo n d := by
  obtain ⟨q, h1, h2, h3⟩ := h
  exact ⟨q, h1, h2, Nat.le_trans h3 hn⟩
theorem pyo_non : Pyo 0 .non := ⟨_, rfl, rfl, Nat.le_refl _⟩
theorem pyo_bl (b : Bool) : Pyo 0 (.bl b) := ⟨_, rfl, rfl, Nat.le_refl _⟩
theorem pyo_int (i : Int) : Pyo 0 (.int i) := ⟨_, rfl, rfl, Nat.le_refl _⟩
theorem pyo_str {x : Str} (h : asc x) : Pyo 0 (.str x) := ⟨_, rfl, h.ok, Nat.le_refl _⟩
theorem pyos {n : Nat} : ∀ {ds : List D}, (∀ d ∈ ds, Pyo n d) → ∃ qs, toPys ds = some qs ∧ qs.length = ds.length ∧ PyData.canLayAll0 qs = true ∧ PyData.depthAll qs ≤ n
  | [], _ => ⟨[], rfl, rfl, rfl, Nat.zero_le _⟩
  | d :: ds, h => by
    obtain ⟨q, h1, h2, h3⟩ := h d (by simp)
    obtain ⟨qs, k1, k2, k3, k4⟩ := pyos (ds := ds) fun e he => h e (by simp [he])
    refine ⟨q :: qs, ?_, by rw [List.length_cons, List.length_cons, k2], ?_, ?_⟩
    · show (toPy d).bind (fun x => (toPys ds).map (x :: ·)) = _
      rw [h1, k1]
      rfl
    · show (PyData.canLay0 q && PyData.canLayAll0 qs) = true
      rw [h2, k3]
      rfl
    · show max (PyData.depth q) (PyData.depthAll qs) ≤ n
      omega
theorem Pyo.tup {n : Nat} {ds : List D} (h : ∀ d ∈ ds, Pyo n d) : Pyo (n + 1) (.tup ds) := by
  obtain ⟨qs, k1, k2, k3, k4⟩ := pyos h
  refine ⟨.tuple qs, ?_, k3, ?_⟩
  · show (toPys ds).map PyData.tuple = _
    rw [k1]
    rfl
  · show PyData.depthAll qs + 1 ≤ n + 1
    omega
theorem Pyo.lst {n : Nat} {ds : List D} (h : ∀ d ∈ ds, Pyo n d) : Pyo (n + 1) (.lst ds) := by
  obtain ⟨qs, k1, k2, k3, k4⟩ := pyos h
  refine ⟨.list qs, ?_, k3, ?_⟩
  · show (toPys ds).map PyData.list = _
    rw [k1]
    rfl
  · show PyData.depthAll qs + 1 ≤ n + 1
    omega
theorem shaped_of {q : PyData} (h1 : PyData.canLay0 q = true) (h2 : PyData.depth q ≤ 64) : SeqAt.shaped q = true := by
  unfold SeqAt.shaped
  rw [Bool.and_eq_true]
  exact ⟨h1, decide_eq_true h2⟩
theorem eqvAll_nil {ds : List D} {qs : List PyData} (h : qs.length = ds.length) : PyData.eqvAll qs [] = decide (ds = []) := by
  cases qs with
  | nil =>
    cases ds with
    | nil => rfl
    | cons d ds => simp at h
  | cons q qs =>
    cases ds with
    | nil => simp at h
    | cons d ds =>
      simp
      rfl
theorem eq_nilL {ds : List D} (h : ∀ d ∈ ds, Pyo 60 d) {μ : Sto} : cmpD .eq (.lst ds) (.lst []) μ = .ok (.bl (decide (ds = []))) μ := by
  obtain ⟨qs, k1, k2, k3, k4⟩ := pyos h
  have e : eqB μ (.lst ds) (.lst []) = some (decide (ds = [])) := by
    show (match (toPys ds).map PyData.list, some (PyData.list []) with
      | some a, some b => if (SeqAt.shaped a && SeqAt.shaped b) = true then some (PyData.eqv a b) else none
      | _, _ => none) = _
    rw [k1]
    have s1 : SeqAt.shaped (.list qs) = true := shaped_of k3 (by show PyData.depthAll qs + 1 ≤ 64; omega)
    have s2 : SeqAt.shaped (.list []) = true := shaped_of rfl (by decide)
    simp only [Option.map_some, s1, s2, Bool.and_true, if_true]
    exact congrArg some (eqvAll_nil k2)
  show (match eqB μ (.lst ds) (.lst []) with
    | some b => R.ok (D.bl b) μ
    | none => .bad) = _
  rw [e]
end S
namespace S
open PySem T
def NB (k : Nat) (a : D) : Prop := (∃ x : Int, a = .int x ∧ B k x) ∨ ∃ b, a = .bl b
inductive Cel (k : Nat) : D → Prop
  | non : Cel k .non
  | bl (b : Bool) : Cel k (.bl b)
  | int (x : Int) (h : B k x) : Cel k (.int x)
  | zero : Cel k (.str "0")
  | tup0 : Cel k (.tup [])
  | tup2 (a : D) (x : Int) (ha : NB k a) (hx : B k x) : Cel k (.tup [a, .int x])
  | tup3 (a : D) (x : Int) (ha : NB k a) (hx : B k x) : Cel k (.tup [a, .int x, .int 1])
  | lst2 (a : D) (x : Int) (ha : NB k a) (hx : B k x) : Cel k (.lst [a, .int x])
theorem NB.mono {k l : Nat} (hk : k ≤ l) {a : D} (h : NB k a) : NB l a := by
  rcases h with ⟨x, rfl, h⟩ | ⟨b, rfl⟩
  · exact .inl ⟨x, rfl, h.mono hk⟩
  · exact .inr ⟨b, rfl⟩
theorem Cel.mono {k l : Nat} (hk : k ≤ l) {e : D} (h : Cel k e) : Cel l e := by
  cases h with
  | non => exact .non
  | bl b => exact .bl b
  | int x h => exact .int x (h.mono hk)
  | zero => exact .zero
  | tup0 => exact .tup0
  | tup2 a x ha hx => exact .tup2 a x (ha.mono hk) (hx.mono hk)
  | tup3 a x ha hx => exact .tup3 a x (ha.mono hk) (hx.mono hk)
  | lst2 a x ha hx => exact .lst2 a x (ha.mono hk) (hx.mono hk)
theorem NB.pl {k : Nat} {a : D} (h : NB k a) : S.pl a = true := by
  rcases h with ⟨x, rfl, h⟩ | ⟨b, rfl⟩ <;> rfl
theorem NB.pyo {k : Nat} {a : D} (h : NB k a) : Pyo 0 a := by
  rcases h with ⟨x, rfl, h⟩ | ⟨b, rfl⟩
  · exact pyo_int x
  · exact pyo_bl b
theorem pls2 {a b : D} (ha : pl a = true) (hb : pl b = true) : pls [a, b] = true := by
  show (pl a && (pl b && true)) = true
  rw [ha, hb]
  rfl
theorem pls3 {a b c : D} (ha : pl a = true) (hb : pl b = true) (hc : pl c = true) : pls [a, b, c] = true := by
  show (pl a && (pl b && (pl c && true))) = true
  rw [ha, hb, hc]
  rfl
theorem Cel.pl {k : Nat} {e : D} (h : Cel k e) : S.pl e = true := by
  cases h with
  | tup2 a x ha hx => exact pls2 ha.pl rfl
  | tup3 a x ha hx => exact pls3 ha.pl rfl rfl
  | lst2 a x ha hx => exact pls2 ha.pl rfl
  | _ => rfl
theorem asc_0 : asc ("0" : Str) := by unfold asc; decide +kernel
theorem NB.two {k : Nat} {a : D} {x : Int} (ha : NB k a) : ∀ d ∈ [a, .int x], Pyo 0 d := fun d hd => by
  simp only [List.mem_cons, List.not_mem_nil, or_false] at hd
  rcases hd with rfl | rfl
  · exact ha.pyo
  · exact pyo_int _
theorem NB.three {k : Nat} {a : D} {x y : Int} (ha : NB k a) : ∀ d ∈ [a, .int x, .int y], Pyo 0 d := fun d hd => by
  simp only [List.mem_cons, List.not_mem_nil, or_false] at hd
  rcases hd with rfl | rfl | rfl
  · exact ha.pyo
  · exact pyo_int _
  · exact pyo_int _
theorem Cel.pyo {k : Nat} {e : D} (h : Cel k e) : Pyo 1 e := by
  cases h with
  | non => exact pyo_non.mono (by decide)
  | bl b => exact (pyo_bl b).mono (by decide)
  | int x h => exact (pyo_int x).mono (by decide)
  | zero => exact (pyo_str asc_0).mono (by decide)
  | tup0 => exact Pyo.tup (n := 0) fun d hd => by cases hd
  | tup2 a x ha hx => exact Pyo.tup ha.two
  | tup3 a x ha hx => exact Pyo.tup ha.three
  | lst2 a x ha hx => exact Pyo.lst ha.two
def PgK (k n : Nat) (d : D) : Prop := d = .non ∨ ∃ ds, (d = .tup ds ∨ d = .lst ds) ∧ ds.length ≤ n ∧ ∀ e ∈ ds, Cel k e
theorem PgK.pl {k n : Nat} {d : D} (h : PgK k n d) : S.pl d = true := by
  rcases h with rfl | ⟨ds, rfl | rfl, _, h⟩
  · rfl
  · exact pls_all fun e he => (h e he).pl
  · exact pls_all fun e he => (h e he).pl
theorem PgK.mono {k l n o : Nat} {d : D} (h : PgK k n d) (hk : k ≤ l) (hn : n ≤ o) : PgK l o d := by
  rcases h with rfl | ⟨ds, h1, hl, h⟩
  · exact .inl rfl
  · exact .inr ⟨ds, h1, by omega, fun e he => (h e he).mono hk⟩
theorem NB.ar {k : Nat} (hk : 1 ≤ k) {a : D} (h : NB k a) : ∃ z : Int, B k z ∧ (∀ μ, binD .add a (.int 1) μ = .ok (.int (z + 1)) μ) ∧ (∀ μ, negD a μ = .ok (.int (-z)) μ) ∧ ∀ μ, binD .mul (.int 2) a μ = .ok (.int (2 * z)) μ := by
  rcases h with ⟨x, rfl, h⟩ | ⟨b, rfl⟩
  · exact ⟨x, h, fun _ => rfl, fun _ => rfl, fun μ => mul_l (small_of (by omega) (by omega)) μ⟩
  · refine ⟨if b = true then 1 else 0, ?_, fun _ => rfl, fun _ => rfl, fun _ => rfl⟩
    have h2 : 2 ^ 1 ≤ 2 ^ k := Nat.pow_le_pow_right (by decide) hk
    unfold B
    cases b
    · show (0 : Int).natAbs < 2 ^ k
      simp
      omega
    · show (1 : Int).natAbs < 2 ^ k
      simp
      omega
theorem wp_ite {Γ : Tb} {ρ : T.Env} {μ : Sto} {N : T.Env → Sto → Prop} {Rt : D → Sto → Prop} {c : Ee} {x y : List Ss} (b : Bool) (hc : evT Γ c ρ μ = .ok b μ) (h1 : b = true → wpF (exB Γ x ρ μ) N Rt) (h2 : b = false → wpF (exB Γ y ρ μ) N Rt) : wpF (exS Γ (.ite c x y) ρ μ) N Rt := by
  rw [ex_ite, hc, R.thenF_ok]
  cases b with
  | true => exact h1 rfl
  | false => exact h2 rfl
end S
namespace S
open PySem T
theorem pg_tup {k n : Nat} {ds : List D} (hl : ds.length ≤ n) (h : ∀ e ∈ ds, Cel k e) : PgK k n (.tup ds) := .inr ⟨ds, .inl rfl, hl, h⟩
end S
namespace S
open PySem T
end S
namespace S
open PySem T
end S
namespace S
open PySem T
theorem St.src {L k m i : Nat} {cs : List Cell} {μ : Sto} {Bs : List D} (h : St L k m cs μ) (hc : cs[i]? = some (.lst Bs)) : srcOf μ (.cell (L + i)) = some (Bs, [(L + i, Bs)]) ∧ still [(L + i, Bs)] μ ∧ biD .tuple [.cell (L + i)] μ = .ok (.tup Bs) μ := by
  have g := h.get i
  rw [hc] at g
  refine ⟨?_, ?_, ?_⟩
  · show (match μ[L + i]? with
      | some (.lst ds) => some (ds, [(L + i, ds)])
      | _ => none) = _
    rw [g]
  · intro p hp
    rw [List.mem_singleton] at hp
    subst hp
    exact g
  · show optR (seqOf μ (.cell (L + i))) μ D.tup = _
    rw [(h.lst hc).2]
    rfl
end S
namespace S
open PySem T
structure RdOk (r : Rd) : Prop where
  lo : -1000 ≤ r.2.1
  le : r.2.1 ≤ r.2.2
  hi : r.2.2 ≤ 1000
end S
namespace S
open PySem T
end S
namespace S
open PySem T
end S
namespace S
open PySem T
theorem RdOk.mv {r : Rd} (h : RdOk r) : (-mv ≤ r.2.1 ∧ r.2.1 ≤ mv) ∧ (-mv ≤ r.2.2 ∧ r.2.2 ≤ mv) ∧ r.2.1 ≤ r.2.2 := by
  have hmv : S.mv = 1000000000000 := rfl
  have := h.lo
  have := h.le
  have := h.hi
  exact ⟨⟨by omega, by omega⟩, ⟨by omega, by omega⟩, h.le⟩
theorem ev_callk {Γ : Tb} {f : Nat} {es ks : List Ee} {pm : List Nat} {ρ : T.Env} {μ : Sto} : evE Γ (.callk f es ks pm) ρ μ = (evEs Γ es ρ μ).bind fun ds μ1 => (evEs Γ ks ρ μ1).bind fun zs μ2 => Γ.fn f (sel pm (ds ++ zs)) μ2 := by rw [evE]
end S
namespace S
open PySem T
end S
namespace S
open PySem T
theorem turnI_snoc : ∀ (l : List (Int × (Int × Nat))) (p : Int × (Int × Nat)) (acc : List Int), turnI acc (l ++ [p]) = (turnI acc l).set p.2.2 (p.2.1 * p.1)
  | [], _, _ => rfl
  | q :: l, p, acc => turnI_snoc l p _
theorem asc_wrd {n : List Nat} (h : Wrd n) : asc (SX.S n) := by
  have hl := h.hi
  refine ⟨?_, fun c hc => ?_⟩
  · show (n.toArray).toList.length ≤ _
    rw [List.toList_toArray]
    omega
  · have hc : c ∈ (n.toArray).toList := hc
    rw [List.toList_toArray] at hc
    have := h.az c hc
    omega
end S
namespace S
open PySem T
abbrev lI (xs : List Int) : D := .lst (xs.map .int)
theorem ne_nilL2 {ds : List D} (h : ∀ d ∈ ds, Pyo 60 d) {μ : Sto} : cmpD .ne (.lst ds) (.lst []) μ = .ok (.bl (!decide (ds = []))) μ := by
  have e := eq_nilL h (μ := μ)
  have e : (match eqB μ (.lst ds) (.lst []) with
    | some b => R.ok (D.bl b) μ
    | none => .bad) = R.ok (.bl (decide (ds = []))) μ := e
  show (match eqB μ (.lst ds) (.lst []) with
    | some b => R.ok (D.bl (!b)) μ
    | none => .bad) = _
  cases hq : eqB μ (.lst ds) (.lst []) with
  | none =>
    rw [hq] at e
    cases e
  | some b =>
    rw [hq] at e
    cases e
    rfl
theorem can_ints : ∀ xs : List Int, PyData.canLayAll0 (xs.map .int) = true
  | [] => rfl
  | x :: xs => by
    show (PyData.canLay0 (.int x) && PyData.canLayAll0 (xs.map .int)) = true
    rw [can_ints xs]
    rfl
theorem St.ix {L k m ci j : Nat} {cs : List Cell} {μ : Sto} {Bs : List D} {d : D} (h : St L k m cs μ) (hc : cs[ci]? = some (.lst Bs)) (hj : Bs[j]? = some d) : ixD (.cell (L + ci)) (.int (j : Int)) μ = .ok d μ := by
  have hl := (List.getElem?_eq_some_iff.mp hj).1
  have h2 : L2.atI Bs (j : Int) = some d := by
    unfold L2.atI L2.ixN
    rw [if_pos (by omega), if_pos (by omega)]
    simp only [Int.toNat_natCast, Option.bind_some, hj]
  show (match seqOf μ (.cell (L + ci)) with
    | some ds => (match L2.atI ds (j : Int) with
      | some d => R.ok d μ
      | none => .bad)
    | none => .bad) = _
  rw [(h.lst hc).2]
  simp only [h2]
theorem ix_lI {xs : List Int} {k : Nat} (h : k < xs.length) {μ : Sto} : ixD (lI xs) (.int (k : Int)) μ = .ok (.int (xs.getD k 0)) μ := by
  have h2 : L2.atI (xs.map D.int) (k : Int) = some (.int (xs.getD k 0)) := by
    unfold L2.atI L2.ixN
    rw [if_pos (by omega), if_pos (by rw [List.length_map]; omega)]
    rw [Int.toNat_natCast, Option.bind_some, List.getElem?_map, List.getD_eq_getElem?_getD, List.getElem?_eq_getElem h]
    rfl
  show (match seqOf μ (lI xs) with
    | some ds => (match L2.atI ds (k : Int) with
      | some d => R.ok d μ
      | none => .bad)
    | none => .bad) = _
  simp only [seqOf, h2]
theorem gcdL_dvd {ns : List Int} : ∀ n ∈ ns, ((gcdL ns : Nat) : Int) ∣ n := by
  have key : ∀ (ns : List Int) (g : Nat), ((ns.foldl (fun g n => Int.gcd (n.natAbs : Int) (g : Int)) g : Nat) : Int) ∣ (g : Int) ∧ ∀ n ∈ ns, ((ns.foldl (fun g n => Int.gcd (n.natAbs : Int) (g : Int)) g : Nat) : Int) ∣ n := by
    intro ns
    induction ns with
    | nil => exact fun g => ⟨Int.dvd_refl _, fun n hn => by cases hn⟩
    | cons n ns ih =>
      intro g
      obtain ⟨h1, h2⟩ := ih (Int.gcd (n.natAbs : Int) (g : Int))
      refine ⟨Int.dvd_trans h1 (Int.gcd_dvd_right ..), fun m hm => ?_⟩
      rcases List.mem_cons.mp hm with rfl | hm
      · exact Int.dvd_natAbs.mp (Int.dvd_trans h1 (Int.gcd_dvd_left ..))
      · exact h2 m hm
  exact (key ns 0).2
def lowI (ns : List Int) : List Int := if (gcdL ns : Int) > 1 then ns.map (· / (gcdL ns : Int)) else ns
theorem lowI_len (ns : List Int) : (lowI ns).length = ns.length := by
  unfold lowI
  split
  · rw [List.length_map]
  · rfl
theorem B_div {k : Nat} {x g : Int} (h : B k x) : B k (x / g) := by
  unfold B at *
  exact Nat.lt_of_le_of_lt (Int.natAbs_ediv_le_natAbs x g) h
theorem lowI_B {k : Nat} {ns : List Int} (h : ∀ n ∈ ns, B k n) : ∀ n ∈ lowI ns, B k n := by
  unfold lowI
  split
  · intro n hn
    obtain ⟨m, hm, rfl⟩ := List.mem_map.mp hn
    exact B_div (h m hm)
  · exact h
def redRow (c : Nat) (h r : List Int) : List Int := lowI (List.zipWith (fun a b => h.getD c 0 * b - r.getD c 0 * a) h r)
def elimTo (p c : Nat) (rows : List (List Int)) (j : Nat) : List (List Int) := rows.mapIdx fun k r => if k < j ∧ k ≠ p then redRow c (rows.getD p []) r else r
def freeP (c : Nat) (rows : List (List Int)) (spots : List (Nat × Nat)) (k : Nat) : Bool := !decide ((rows.getD k []).getD c 0 = 0) && !decide ((k : Int) ∈ spots.map fun p => (p.1 : Int))
def freeI (c : Nat) (rows : List (List Int)) (spots : List (Nat × Nat)) : List Nat := (List.range rows.length).filter (freeP c rows spots)
def redCol (c : Nat) (st : List (List Int) × List (Nat × Nat)) : List (List Int) × List (Nat × Nat) := match freeI c st.1 st.2 with
  | [] => st
  | p :: _ => (elimTo p c st.1 st.1.length, st.2 ++ [(p, c)])
theorem elimTo_len (p c : Nat) (rows : List (List Int)) (j : Nat) : (elimTo p c rows j).length = rows.length := List.length_mapIdx
theorem elimTo_get (p c : Nat) (rows : List (List Int)) (j i : Nat) (hi : i < rows.length) : (elimTo p c rows j).getD i [] = if i < j ∧ i ≠ p then redRow c (rows.getD p []) (rows.getD i []) else rows.getD i [] := by
  unfold elimTo
  rw [List.getD_eq_getElem?_getD, List.getElem?_mapIdx, List.getD_eq_getElem?_getD (l := rows) (i := i), List.getElem?_eq_getElem hi]
  rfl
theorem redRow_len {c : Nat} {h r : List Int} (e : h.length = r.length) : (redRow c h r).length = r.length := by
  unfold redRow
  rw [lowI_len, List.length_zipWith]
  omega
theorem B.sub {a : Nat} {x y : Int} (h1 : B a x) (h2 : B a y) : B (a + 1) (x - y) := by
  unfold B at *
  rw [Nat.pow_succ]
  have := Int.natAbs_sub_le x y
  omega
theorem getD_Bk {k : Nat} {r : List Int} (h : ∀ x ∈ r, B k x) (c : Nat) : B k (r.getD c 0) := by
  rw [List.getD_eq_getElem?_getD]
  cases hc : r[c]? with
  | none =>
    unfold B
    exact Nat.two_pow_pos k
  | some x => exact h x (List.mem_of_getElem? hc)
theorem zipWith_mem {α β γ : Type} {f : α → β → γ} : ∀ {as : List α} {bs : List β} {z : γ}, z ∈ List.zipWith f as bs → ∃ a ∈ as, ∃ b ∈ bs, z = f a b
  | [], _, _, h => by simp at h
  | _ :: _, [], _, h => by simp at h
  | a :: as, b :: bs, z, h => by
    rw [List.zipWith_cons_cons, List.mem_cons] at h
    rcases h with rfl | h
    · exact ⟨a, by simp, b, by simp, rfl⟩
    · obtain ⟨a', h1, b', h2, e⟩ := zipWith_mem h
      exact ⟨a', by simp [h1], b', by simp [h2], e⟩
theorem redRaw_B {k c : Nat} {h r : List Int} (hh : ∀ x ∈ h, B k x) (hr : ∀ x ∈ r, B k x) : ∀ x ∈ List.zipWith (fun a b => h.getD c 0 * b - r.getD c 0 * a) h r, B (2 * k + 1) x := fun x hx => by
  obtain ⟨a, ha, b, hb, rfl⟩ := zipWith_mem hx
  have h1 := (getD_Bk hh c).mul (hr b hb)
  have h2 := (getD_Bk hr c).mul (hh a ha)
  have : k + k = 2 * k := by omega
  rw [this] at h1 h2
  exact h1.sub h2
theorem redRow_B {k c : Nat} {h r : List Int} (hh : ∀ x ∈ h, B k x) (hr : ∀ x ∈ r, B k x) : ∀ x ∈ redRow c h r, B (2 * k + 1) x := lowI_B (redRaw_B hh hr)
end S
namespace S
open PySem T
structure RI (R w b : Nat) (rows : List (List Int)) : Prop where
  len : rows.length = R
  wd : ∀ r ∈ rows, r.length = w
  bd : ∀ r ∈ rows, ∀ x ∈ r, B b x
theorem getD_mem' {rows : List (List Int)} {p : Nat} (h : p < rows.length) : rows.getD p [] ∈ rows := by
  rw [List.getD_eq_getElem?_getD, List.getElem?_eq_getElem h]
  exact List.getElem_mem h
theorem mem_getD {α : Type} {a : α} {l : List α} {x : α} (h : x ∈ l) : ∃ i, i < l.length ∧ l.getD i a = x := by
  obtain ⟨i, hi, e⟩ := List.mem_iff_getElem.mp h
  exact ⟨i, hi, by rw [List.getD_eq_getElem?_getD, List.getElem?_eq_getElem hi, Option.getD_some, e]⟩
theorem RI.elim {R w b p c : Nat} {rows : List (List Int)} (h : RI R w b rows) (hp : p < R) (j : Nat) : RI R w (2 * b + 1) (elimTo p c rows j) := by
  have hk : ∀ r ∈ elimTo p c rows j, ∃ i, i < rows.length ∧ r = if i < j ∧ i ≠ p then redRow c (rows.getD p []) (rows.getD i []) else rows.getD i [] := fun r hr => by
    obtain ⟨i, hi, rfl⟩ := mem_getD (a := []) hr
    rw [elimTo_len] at hi
    exact ⟨i, hi, elimTo_get p c rows j i hi⟩
  refine ⟨by rw [elimTo_len, h.len], fun r hr => ?_, fun r hr x hx => ?_⟩
  · obtain ⟨i, hi, rfl⟩ := hk r hr
    split
    · rw [redRow_len]
      · exact h.wd _ (getD_mem' hi)
      · rw [h.wd _ (getD_mem' hi), h.wd _ (getD_mem' (by rw [h.len]; exact hp))]
    · exact h.wd _ (getD_mem' hi)
  · obtain ⟨i, hi, rfl⟩ := hk r hr
    split at hx
    · exact redRow_B (h.bd _ (getD_mem' (by rw [h.len]; exact hp))) (h.bd _ (getD_mem' hi)) x hx
    · exact (h.bd _ (getD_mem' hi) x hx).mono (by omega)
theorem free_lt {c : Nat} {rows : List (List Int)} {spots : List (Nat × Nat)} {p : Nat} (h : p ∈ freeI c rows spots) : p < rows.length ∧ freeP c rows spots p = true := by
  unfold freeI at h
  rw [List.mem_filter, List.mem_range] at h
  exact h
theorem RI.col {R w b c : Nat} {st : List (List Int) × List (Nat × Nat)} (h : RI R w b st.1) : RI R w (2 * b + 1) (redCol c st).1 := by
  unfold redCol
  cases hf : freeI c st.1 st.2 with
  | nil => exact ⟨h.len, h.wd, fun r hr x hx => (h.bd r hr x hx).mono (by omega)⟩
  | cons p r =>
    have := (free_lt (p := p) (by rw [hf]; simp)).1
    exact h.elim (by rw [← h.len]; exact this) _
end S
namespace S
open PySem T
theorem toPys_nats (l : List Nat) : toPys (l.map fun (k : Nat) => D.int (k : Int)) = some ((l.map fun (k : Nat) => (k : Int)).map .int) := by
  have := toPys_ints (l.map fun (k : Nat) => (k : Int))
  rw [List.map_map] at this
  exact this
structure PV (rows : List (List Int)) (spots : List (Nat × Nat)) (j : Nat) : Prop where
  lt : ∀ s ∈ spots, s.1 < rows.length
  nz : ∀ s ∈ spots, (rows.getD s.1 []).getD s.2 0 ≠ 0
  zr : ∀ s ∈ spots, ∀ q, q < rows.length → q ≠ s.1 → (rows.getD q []).getD s.2 0 = 0
  cl : (spots.map (·.2)).Sublist (List.range j)
theorem zipW_getD (g : Int → Int → Int) (h0 : g 0 0 = 0) : ∀ (as bs : List Int) (c : Nat), as.length = bs.length → (List.zipWith g as bs).getD c 0 = g (as.getD c 0) (bs.getD c 0)
  | [], [], c, _ => by
    simp [h0]
  | a :: as, b :: bs, 0, _ => rfl
  | a :: as, b :: bs, c + 1, h => zipW_getD g h0 as bs c (by simpa using h)
theorem lowI_getD (ns : List Int) (c : Nat) : (lowI ns).getD c 0 = if (gcdL ns : Int) > 1 then ns.getD c 0 / (gcdL ns : Int) else ns.getD c 0 := by
  unfold lowI
  split
  · rw [List.getD_eq_getElem?_getD, List.getElem?_map, List.getD_eq_getElem?_getD]
    cases ns[c]? with
    | none => exact (Int.zero_ediv _).symm
    | some x => rfl
  · rfl
theorem lowI_zero {ns : List Int} {c : Nat} (h : ns.getD c 0 = 0) : (lowI ns).getD c 0 = 0 := by
  rw [lowI_getD, h]
  split
  · exact Int.zero_ediv _
  · rfl
theorem lowI_nz {ns : List Int} {c : Nat} (h : ns.getD c 0 ≠ 0) : (lowI ns).getD c 0 ≠ 0 := by
  rw [lowI_getD]
  split
  · rename_i hg
    have hm : ns.getD c 0 ∈ ns := by
      rw [List.getD_eq_getElem?_getD] at h ⊢
      cases e : ns[c]? with
      | none => rw [e] at h; exact absurd rfl h
      | some x => exact List.mem_of_getElem? e
    obtain ⟨k, hk⟩ := gcdL_dvd _ hm
    rw [hk, Int.mul_ediv_cancel_left _ (by omega)]
    intro z
    rw [z, Int.mul_zero] at hk
    exact h hk
  · exact h
theorem redRow_getD {c i : Nat} {h r : List Int} (e : h.length = r.length) : ((List.zipWith (fun a b => h.getD c 0 * b - r.getD c 0 * a) h r).getD i 0) = h.getD c 0 * r.getD i 0 - r.getD c 0 * h.getD i 0 := zipW_getD (fun a b => h.getD c 0 * b - r.getD c 0 * a) (by simp) h r i e
theorem PV.col {R w b j : Nat} {rows : List (List Int)} {spots : List (Nat × Nat)} (hr : RI R w b rows) (h : PV rows spots j) : PV (redCol j (rows, spots)).1 (redCol j (rows, spots)).2 (j + 1) := by
  have hsub : (List.range j).Sublist (List.range (j + 1)) := by
    rw [List.range_succ]
    exact List.sublist_append_left _ _
  unfold redCol
  cases hf : freeI j rows spots with
  | nil => exact ⟨h.lt, h.nz, h.zr, h.cl.trans hsub⟩
  | cons p fr =>
    obtain ⟨hp, hfp⟩ := free_lt (p := p) (by rw [hf]; simp)
    unfold freeP at hfp
    rw [Bool.and_eq_true, Bool.not_eq_true', Bool.not_eq_true', decide_eq_false_iff_not, decide_eq_false_iff_not] at hfp
    obtain ⟨hnz, hni⟩ := hfp
    have hold : ∀ s ∈ spots, s.1 ≠ p := fun s hs e => hni (List.mem_map.mpr ⟨s, hs, by rw [e]⟩)
    have hwd : ∀ i, i < rows.length → (rows.getD p []).length = (rows.getD i []).length := fun i hi => by rw [hr.wd _ (getD_mem' hp), hr.wd _ (getD_mem' hi)]
    have get : ∀ i, i < rows.length → (elimTo p j rows rows.length).getD i [] = if i ≠ p then redRow j (rows.getD p []) (rows.getD i []) else rows.getD i [] := fun i hi => by
      rw [elimTo_get p j rows rows.length i hi]
      by_cases e : i = p
      · rw [if_neg (by omega), if_neg (by omega)]
      · rw [if_pos ⟨hi, e⟩, if_pos e]
    refine ⟨fun s hs => ?_, fun s hs => ?_, fun s hs q hq hqs => ?_, ?_⟩
    · rw [elimTo_len]
      rcases List.mem_append.mp hs with hs | hs
      · exact h.lt s hs
      · rw [List.mem_singleton] at hs
        subst hs
        exact hp
    · rcases List.mem_append.mp hs with hs | hs
      · show ((elimTo p j rows rows.length).getD s.1 []).getD s.2 0 ≠ 0
        rw [get _ (h.lt s hs), if_pos (hold s hs)]
        refine lowI_nz ?_
        rw [redRow_getD (hwd _ (h.lt s hs)), h.zr s hs p hp (fun e => hold s hs e.symm), Int.mul_zero, Int.sub_zero]
        exact Int.mul_ne_zero hnz (h.nz s hs)
      · rw [List.mem_singleton] at hs
        subst hs
        show ((elimTo p j rows rows.length).getD p []).getD j 0 ≠ 0
        rw [get _ hp, if_neg (by omega)]
        exact hnz
    · have hq : q < rows.length := by rw [elimTo_len] at hq; exact hq
      show ((elimTo p j rows rows.length).getD q []).getD s.2 0 = 0
      rw [get _ hq]
      rcases List.mem_append.mp hs with hs | hs
      · split
        · refine lowI_zero ?_
          rw [redRow_getD (hwd _ hq), h.zr s hs p hp (fun e => hold s hs e.symm), h.zr s hs q hq hqs]
          simp
        · exact h.zr s hs q hq hqs
      · rw [List.mem_singleton] at hs
        subst hs
        rw [if_pos hqs]
        refine lowI_zero ?_
        show (List.zipWith _ _ _).getD j 0 = 0
        rw [redRow_getD (hwd _ hq), Int.mul_comm]
        omega
    · show ((spots ++ [(p, j)]).map (·.2)).Sublist _
      rw [List.map_append, List.range_succ]
      exact h.cl.append (List.Sublist.refl _)
end S
namespace S
open PySem T
def eqLB (xs ys : List Int) : Bool := PyData.eqv (.list (xs.map .int)) (.list (ys.map .int))
theorem sh_ints (xs : List Int) : SeqAt.shaped (.list (xs.map .int)) = true := shaped_of (can_ints xs) (by
  show PyData.depthAll (xs.map .int) + 1 ≤ 64
  rw [dep_ints xs]
  decide)
theorem eq_lI {xs ys : List Int} {μ : Sto} : cmpD .eq (lI xs) (lI ys) μ = .ok (.bl (eqLB xs ys)) μ := by
  have h : eqB μ (lI xs) (lI ys) = some (eqLB xs ys) := by
    show (match (toPys (xs.map D.int)).map PyData.list, (toPys (ys.map D.int)).map PyData.list with
      | some a, some b => if (SeqAt.shaped a && SeqAt.shaped b) = true then some (PyData.eqv a b) else none
      | _, _ => none) = _
    rw [toPys_ints, toPys_ints]
    simp only [Option.map_some, sh_ints, Bool.and_true, if_true]
    rfl
  show (match eqB μ (lI xs) (lI ys) with
    | some b => R.ok (D.bl b) μ
    | none => .bad) = _
  rw [h]
theorem nodup_lt : ∀ (n : Nat) (l : List Nat), l.Nodup → (∀ x ∈ l, x < n) → l.length ≤ n
  | 0, [], _, _ => Nat.le_refl _
  | 0, x :: _, _, h => absurd (h x (by simp)) (by omega)
  | n + 1, l, hd, h => by
    have h1 := nodup_lt n (l.erase n) (hd.erase n) fun x hx => by
      have h2 := h x (List.mem_of_mem_erase hx)
      have h3 : x ≠ n := fun e => by
        subst e
        exact hd.not_mem_erase hx
      omega
    have h2 := List.length_erase (a := n) (l := l)
    split at h2 <;> omega
end S
namespace S
open PySem T
end S
namespace S
open PySem T
def dotI (r v : List Int) : Int := (List.zipWith (· * ·) r v).sum
theorem dot_cons (a b : Int) (r v : List Int) : dotI (a :: r) (b :: v) = a * b + dotI r v := by
  unfold dotI
  rw [List.zipWith_cons_cons, List.sum_cons]
theorem dot_nil (v : List Int) : dotI [] v = 0 := by
  unfold dotI
  rw [List.zipWith_nil_left]
  rfl
theorem dot_nil2 (r : List Int) : dotI r [] = 0 := by
  unfold dotI
  rw [List.zipWith_nil_right]
  rfl
theorem get_low (ns : List Int) : ∃ g : Int, g ≠ 0 ∧ ∀ i, ns.getD i 0 = g * (lowI ns).getD i 0 := by
  by_cases hg : (gcdL ns : Int) > 1
  · refine ⟨(gcdL ns : Int), by omega, fun i => ?_⟩
    rw [lowI_getD, if_pos hg]
    have hd : (gcdL ns : Int) ∣ ns.getD i 0 := by
      rw [List.getD_eq_getElem?_getD]
      cases e : ns[i]? with
      | none => exact Int.dvd_zero _
      | some x => exact gcdL_dvd x (List.mem_of_getElem? e)
    obtain ⟨k, hk⟩ := hd
    rw [hk, Int.mul_ediv_cancel_left _ (by omega)]
  · refine ⟨1, by decide, fun i => ?_⟩
    rw [lowI_getD, if_neg hg]
    omega
theorem get_redRow {c : Nat} {h r : List Int} (e : h.length = r.length) : ∃ g : Int, g ≠ 0 ∧ ∀ i, g * (redRow c h r).getD i 0 = h.getD c 0 * r.getD i 0 - r.getD c 0 * h.getD i 0 := by
  obtain ⟨g, h0, h1⟩ := get_low (List.zipWith (fun a b => h.getD c 0 * b - r.getD c 0 * a) h r)
  refine ⟨g, h0, fun i => ?_⟩
  rw [← redRow_getD e, h1]
  rfl
def NZ (rows : List (List Int)) (spots : List (Nat × Nat)) (j : Nat) : Prop := ∀ k, k < rows.length → k ∉ spots.map (·.1) → ∀ c, c < j → (rows.getD k []).getD c 0 = 0
theorem notfree {c k : Nat} {rows : List (List Int)} {spots : List (Nat × Nat)} (hk : k < rows.length) (hn : k ∉ spots.map (·.1)) (hf : k ∉ freeI c rows spots) : (rows.getD k []).getD c 0 = 0 := by
  refine Classical.byContradiction fun h => hf ?_
  unfold freeI
  rw [List.mem_filter, List.mem_range]
  refine ⟨hk, ?_⟩
  unfold freeP
  rw [Bool.and_eq_true, Bool.not_eq_true', Bool.not_eq_true', decide_eq_false_iff_not, decide_eq_false_iff_not]
  refine ⟨h, fun hm => hn ?_⟩
  obtain ⟨s, hs, e⟩ := List.mem_map.mp hm
  exact List.mem_map.mpr ⟨s, hs, by omega⟩
theorem free_ok {c k : Nat} {rows : List (List Int)} {spots : List (Nat × Nat)} (h : k ∈ freeI c rows spots) : k < rows.length ∧ k ∉ spots.map (·.1) ∧ (rows.getD k []).getD c 0 ≠ 0 := by
  obtain ⟨h1, h2⟩ := free_lt h
  unfold freeP at h2
  rw [Bool.and_eq_true, Bool.not_eq_true', Bool.not_eq_true', decide_eq_false_iff_not, decide_eq_false_iff_not] at h2
  refine ⟨h1, fun hm => h2.2 ?_, h2.1⟩
  obtain ⟨s, hs, e⟩ := List.mem_map.mp hm
  exact List.mem_map.mpr ⟨s, hs, by rw [e]⟩
theorem elim_all {p c i : Nat} {rows : List (List Int)} (hi : i < rows.length) : (elimTo p c rows rows.length).getD i [] = if i ≠ p then redRow c (rows.getD p []) (rows.getD i []) else rows.getD i [] := by
  rw [elimTo_get p c rows rows.length i hi]
  by_cases e : i = p
  · rw [if_neg (by omega), if_neg (by omega)]
  · rw [if_pos ⟨hi, e⟩, if_pos e]
theorem NZ.col {R w b j : Nat} {rows : List (List Int)} {spots : List (Nat × Nat)} (hr : RI R w b rows) (h : NZ rows spots j) : NZ (redCol j (rows, spots)).1 (redCol j (rows, spots)).2 (j + 1) := by
  unfold redCol
  cases hf : freeI j rows spots with
  | nil =>
    intro k hk hn c hc
    by_cases e : c = j
    · subst e
      exact notfree hk hn (by rw [hf]; simp)
    · exact h k hk hn c (by omega)
  | cons p fr =>
    obtain ⟨hp, hpn, hnz⟩ := free_ok (k := p) (by rw [hf]; simp)
    intro k hk hn c hc
    have hk : k < rows.length := by rw [elimTo_len] at hk; exact hk
    have hn : k ∉ (spots ++ [(p, j)]).map (·.1) := hn
    rw [List.map_append, List.mem_append] at hn
    have hkp : k ≠ p := fun e => hn (.inr (by simp [e]))
    have hks : k ∉ spots.map (·.1) := fun e => hn (.inl e)
    show ((elimTo p j rows rows.length).getD k []).getD c 0 = 0
    rw [elim_all hk, if_pos hkp]
    refine lowI_zero ?_
    have hl : (rows.getD p []).length = (rows.getD k []).length := by rw [hr.wd _ (getD_mem' hp), hr.wd _ (getD_mem' hk)]
    rw [redRow_getD hl]
    by_cases e : c = j
    · subst e
      rw [Int.mul_comm]
      omega
    · rw [h p hp hpn c (by omega), h k hk hks c (by omega), Int.mul_zero, Int.mul_zero]
      rfl
def Par (r s : List Int) : Prop := r.length = s.length ∧ ∃ a b : Int, a ≠ 0 ∧ b ≠ 0 ∧ ∀ i, a * r.getD i 0 = b * s.getD i 0
theorem Par.nz {r s : List Int} (h : Par r s) (i : Nat) : r.getD i 0 = 0 ↔ s.getD i 0 = 0 := by
  obtain ⟨_, a, b, ha, hb, h⟩ := h
  have := h i
  constructor
  · intro e
    rw [e, Int.mul_zero] at this
    rcases Int.mul_eq_zero.mp this.symm with z | z
    · exact absurd z hb
    · exact z
  · intro e
    rw [e, Int.mul_zero] at this
    rcases Int.mul_eq_zero.mp this with z | z
    · exact absurd z ha
    · exact z
theorem Par.redRow {c : Nat} {h h' r r' : List Int} (ph : Par h h') (pr : Par r r') (e : h.length = r.length) : Par (redRow c h r) (redRow c h' r') := by
  obtain ⟨l1, a, b, ha, hb, p1⟩ := ph
  obtain ⟨l2, x, y, hx, hy, p2⟩ := pr
  have e' : h'.length = r'.length := by rw [← l1, ← l2, e]
  obtain ⟨g, hg, q1⟩ := get_redRow (c := c) e
  obtain ⟨g', hg', q2⟩ := get_redRow (c := c) e'
  refine ⟨by rw [redRow_len e, redRow_len e', l2], a * x * g, b * y * g', Int.mul_ne_zero (Int.mul_ne_zero ha hx) hg, Int.mul_ne_zero (Int.mul_ne_zero hb hy) hg', fun i => ?_⟩
  rw [Int.mul_assoc, q1, Int.mul_assoc (b * y), q2]
  have h1 := p1 c
  have h2 := p1 i
  have h3 := p2 c
  have h4 := p2 i
  have k1 : a * x * (h.getD c 0 * r.getD i 0 - r.getD c 0 * h.getD i 0) = (a * h.getD c 0) * (x * r.getD i 0) - (x * r.getD c 0) * (a * h.getD i 0) := by grind
  rw [k1, h1, h2, h3, h4]
  grind
end S
namespace S
open PySem T
structure PA (R w : Nat) (v : List Int) (A B : List (List Int) × List (Nat × Nat)) (g : List Int) : Prop where
  rows : B.1 = A.1 ++ [g]
  spots : B.2 = A.2
  len : A.1.length = R
  wd : ∀ r ∈ A.1, r.length = w
  gw : g.length = w
  gd : dotI g v ≠ 0
  rd : ∀ r ∈ A.1, dotI r v = 0
  lt : ∀ s ∈ A.2, s.1 < R
end S
namespace Dt
open PySem PySem.Spec PyProof.Rows L2 T
def f__law_draw : Df := ⟨2, 3, false, [(.ite (.cmp .gt (.ix (.v 0) (.k (.int 0))) (.k (.int 0))) [(.asg (.tp [(.sub (.v 0) (.k (.int 0))), (.nm 2)]) (.bi .divmod [(.ix (.v 0) (.k (.int 0))), (.v 1)])), (.ret (.v 2))] []), (.asg (.sub (.v 0) (.k (.int 1))) (.bin .mod (.bi .int [(.bin .add (.bin .mul (.ix (.v 0) (.k (.int 1))) (.k (.int 46337))) (.k (.int 40503)))]) (.k (.int 2147483647)))), (.ret (.bin .mod (.bi .int [(.bin .fdiv (.ix (.v 0) (.k (.int 1))) (.k (.int 1024)))]) (.v 1)))]⟩
def f__law_labels : Df := ⟨2, 4, false, [(.asg (.nm 2) (.clst [(.k (.str "a")), (.k (.str "b")), (.k (.str "edge")), (.k (.str "face")), (.k (.str "level")), (.k (.str "slope")), (.k (.str "t")), (.k (.str "width")), (.k (.str "zzzzzzzz"))])), (.ret (.bi .sorted [(.comp false (.me .pop (.v 2) [(.call 1000 [(.v 0), (.bi .len [(.v 2)])])]) (.nm 3) .range [(.v 1)] [] [3])]))]⟩
def f__law_moves : Df := ⟨3, 11, false, [(.asg (.tp [(.nm 4), (.nm 5)]) (.tup [(.clst [(.k (.str "flip")), (.k (.str "half")), (.k (.str "next")), (.k (.str "turn")), (.k (.str "x"))]), (.clst [])])), (.loop (.nm 3) .range [(.call 1000 [(.v 0), (.bin .add (.v 2) (.k (.int 1)))])] [(.asg (.tp [(.nm 8), (.nm 9)]) (.tup [(.bi .crange1 [(.v 1)]), (.clst [])])), (.asg (.nm 6) (.cmp .eq (.call 1000 [(.v 0), (.k (.int 3))]) (.k (.int 0)))), (.loop (.nm 7) .range [(.v 1)] [(.asg (.nm 10) (.ife (.v 6) (.k (.int 0)) (.call 1000 [(.v 0), (.bi .len [(.v 8)])]))), (.ex (.me .append (.v 9) [(.tup [(.ife (.cmp .eq (.call 1000 [(.v 0), (.k (.int 2))]) (.k (.int 0))) (.k (.int 1)) (.neg (.k (.int 1)))), (.me .pop (.v 8) [(.v 10)])])]))]), (.ex (.me .append (.v 5) [(.tup [(.me .pop (.v 4) [(.call 1000 [(.v 0), (.bi .len [(.v 4)])])]), (.bi .tuple [(.v 9)])])]))]), (.ret (.bi .sorted [(.v 5)]))]⟩
def f__law_sum : Df := ⟨3, 5, false, [(.asg (.nm 3) (.clst [])), (.loop (.nm 4) .range [(.v 1)] [(.ex (.me .append (.v 3) [(.ife (.cmp .eq (.call 1000 [(.v 0), (.k (.int 3))]) (.k (.int 0))) (.k (.int 0)) (.bin .sub (.call 1000 [(.v 0), (.bin .add (.bin .mul (.k (.int 2)) (.v 2)) (.k (.int 1)))]) (.v 2)))]))]), (.ret (.bi .tuple [(.v 3)]))]⟩
def f__law_pick : Df := ⟨2, 2, false, [(.ret (.ix (.v 1) (.call 1000 [(.v 0), (.bi .len [(.v 1)])])))]⟩
def f__law_moved : Df := ⟨2, 6, false, [(.asg (.nm 2) (.cbin .mul (.lst [(.k (.int 0))]) (.bi .len [(.v 0)]))), (.loop (.tp [(.nm 3), (.tp [(.nm 4), (.nm 5)])]) .enum [(.v 1)] [(.asg (.sub (.v 2) (.v 5)) (.bin .mul (.v 4) (.ix (.v 0) (.v 3))))]), (.ret (.bi .tuple [(.v 2)]))]⟩
def f__law_spelled : Df := ⟨2, 7, false, [(.asg (.nm 2) (.clst [(.me .join (.k (.str " ")) [(.v 0)])])), (.loop (.tp [(.nm 3), (.nm 4)]) .plain [(.v 1)] [(.ex (.me .append (.v 2) [(.bin .add (.bin .add (.v 3) (.k (.str ": "))) (.me .join (.k (.str " ")) [(.comp false (.bin .add (.bin .mul (.k (.str "-")) (.bi .int [(.cmp .lt (.v 5) (.k (.int 0)))])) (.ix (.v 0) (.v 6))) (.tp [(.nm 5), (.nm 6)]) .plain [(.v 4)] [] [5, 6])]))]))]), (.ret (.me .join (.k (.str "; ")) [(.v 2)]))]⟩
def f__law_right : Df := ⟨1, 20, false, [(.loop (.nm 1) .range [(.k (.int 4))] [(.asg (.nm 2) (.bin .add (.k (.int 1)) (.call 1000 [(.v 0), (.k (.int 6))]))), (.asg (.tp [(.nm 8), (.nm 9)]) (.tup [(.call 1001 [(.v 0), (.v 2)]), (.call 1002 [(.v 0), (.v 2), (.k (.int 4))])])), (.asg (.tp [(.nm 10), (.nm 11)]) (.tup [(.mk 1 [(.call 1006 [(.v 8), (.v 9)])]), (.call 1003 [(.v 0), (.v 2), (.k (.int 1000))])])), (.asg (.nm 3) (.comp false (.call 1004 [(.v 0), (.v 9)]) (.nm 14) .range [(.call 1000 [(.v 0), (.k (.int 7))])] [(.cmp .ne (.v 9) (.lst []))] [14])), (.asg (.nm 4) (.v 11)), (.loop (.tp [(.nm 12), (.nm 13)]) .plain [(.v 3)] [(.asg (.nm 4) (.call 1005 [(.v 4), (.v 13)]))]), (.asg (.nm 5) (.call 162 [(.v 10), (.v 11), (.bi .tuple [(.comp false (.ix (.v 15) (.k (.int 0))) (.nm 15) .plain [(.v 3)] [] [15])])])), (.ite (.or (.cmp .ne (.v 5) (.v 4)) (.cmp .ne (.callk 162 [] [(.bi .tuple [(.comp false (.ix (.v 15) (.k (.int 0))) (.nm 15) .plain [(.v 3)] [] [15])]), (.v 11), (.v 10)] [2, 1, 0]) (.v 4))) [(.ret (.k (.bl false)))] []), (.asg (.nm 6) (.comp false (.bin .sub (.call 1000 [(.v 0), (.k (.int 2000))]) (.k (.int 1000))) (.nm 14) .range [(.v 2)] [] [14])), (.asg (.nm 7) (.bi .list [(.v 6)])), (.loop (.tp [(.nm 12), (.nm 13)]) .plain [(.rev (.v 3))] [(.asg (.nm 7) (.comp false (.bin .mul (.v 16) (.ix (.v 7) (.v 17))) (.tp [(.nm 16), (.nm 17)]) .plain [(.v 13)] [] [16, 17]))]), (.ite (.cmp .ne (.bi .sum [(.comp false (.bin .mul (.v 18) (.v 19)) (.tp [(.nm 18), (.nm 19)]) .zip [(.v 5), (.v 6)] [] [18, 19])]) (.bi .sum [(.comp false (.bin .mul (.v 18) (.v 19)) (.tp [(.nm 18), (.nm 19)]) .zip [(.v 11), (.v 7)] [] [18, 19])])) [(.ret (.k (.bl false)))] []), (.ite (.cmp .ne (.call 162 [(.v 10), (.v 11), (.tup [])]) (.v 11)) [(.ret (.k (.bl false)))] [])]), (.ret (.k (.bl true)))]⟩
def f__law_purse : Df := ⟨2, 5, true, [(.asg (.nm 2) (.ife (.cmp .lt (.v 1) (.bi .len [(.v 0)])) (.ix (.v 0) (.v 1)) (.bin .mul (.k (.int 5099)) (.bin .add (.v 1) (.k (.int 5)))))), (.asg (.nm 3) (.bin .add (.k (.int 877)) (.v 1))), (.loop (.nm 4) .plain [(.bin .add (.sl (.v 0) .no (.k (.int 5))) (.lst [(.v 2)]))] [(.asg (.nm 3) (.bin .mod (.bi .int [(.bin .add (.bin .add (.bin .mul (.v 3) (.k (.int 44617))) (.bin .mod (.bi .int [(.v 4)]) (.k (.int 2147483647)))) (.k (.int 101)))]) (.k (.int 2147483647))))]), (.ret (.clst [(.ife (.cmp .ge (.bi .abs [(.v 2)]) (.bin .pow (.k (.int 10)) (.k (.int 18)))) (.bi .abs [(.v 2)]) (.k (.int 0))), (.v 3)]))]⟩
def f_law : Df := ⟨1, 2, false, [(.ret (.bi .all [(.comp false (.call 1007 [(.call 1008 [(.v 0), (.v 1)])]) (.nm 1) .range [(.bi .max2 [(.k (.int 2)), (.bi .min2 [(.bi .len [(.v 0)]), (.k (.int 4))])])] [] [1])]))]⟩
def en0 : En := ⟨155, "check_scheme", none, ["scheme"], ["scheme"], Pg.f_check_scheme, [], none, []⟩
def en1 : En := ⟨102, "is_integer", none, ["value"], ["value"], Pg.f_is_integer, [], none, []⟩
def en2 : En := ⟨103, "is_between", none, ["value", "least", "most"], ["value", "least", "most"], Pg.f_is_between, [], none, []⟩
def en3 : En := ⟨156, "is_form", none, ["scheme", "value"], ["scheme", "value", "factor"], Pg.f_is_form, [], none, []⟩
def en4 : En := ⟨157, "check_form", none, ["scheme", "form"], ["scheme", "form"], Pg.f_check_form, [], none, []⟩
def en5 : En := ⟨160, "turned_once", none, ["scheme", "form", "word"], ["scheme", "form", "word", "found", "factor", "sign", "index"], Pg.f_turned_once, [], none, []⟩
def en6 : En := ⟨161, "turned_by", none, ["scheme", "form", "words"], ["scheme", "form", "words", "word"], Pg.f_turned_by, [], none, []⟩
def en7 : En := ⟨159, "is_word", none, ["scheme", "value"], ["scheme", "value", "word", "images"], Pg.f_is_word, [], none, []⟩
def en8 : En := ⟨162, "turned", none, ["scheme", "form", "words"], ["scheme", "form", "words", "k", "word"], Pg.f_turned, [(0, ["words", "form", "scheme"], [2, 1, 0])], none, []⟩
def en9 : En := ⟨1000, "_law_draw", none, ["_law_purse_here", "_law_many"], ["_law_purse_here", "_law_many", "_law_digit"], Dt.f__law_draw, [], none, []⟩
def en10 : En := ⟨1001, "_law_labels", none, ["_law_purse_here", "_law_many"], ["_law_purse_here", "_law_many", "_law_some", "_law_k"], Dt.f__law_labels, [], none, []⟩
def en11 : En := ⟨1002, "_law_moves", none, ["_law_purse_here", "_law_many", "_law_most"], ["_law_purse_here", "_law_many", "_law_most", "_law_turn", "_law_row_x", "_law_found", "_law_is_plain", "_law_k", "_law_left", "_law_images_here", "_law_spot"], Dt.f__law_moves, [], none, []⟩
def en12 : En := ⟨143, "image_in", none, ["word", "names"], ["word", "names", "sign", "name"], Pg.f_image_in, [], none, []⟩
def en13 : En := ⟨104, "is_name", none, ["value"], ["value", "sign"], Pg.f_is_name, [], none, []⟩
def en14 : En := ⟨144, "turn_in", none, ["text", "names"], ["text", "names", "parts", "images", "word", "sign", "index"], Pg.f_turn_in, [], none, []⟩
def en15 : En := ⟨145, "are_ascending", none, ["values"], ["values", "one", "later"], Pg.f_are_ascending, [], none, []⟩
def en16 : En := ⟨146, "scheme_in", none, ["text"], ["text", "parts", "names", "turns", "part", "name", "word", "images"], Pg.f_scheme_in, [], none, []⟩
def en17 : En := ⟨147, "Scheme", some 1, ["self", "text"], ["self", "text", "found"], Pg.f_Scheme___init__, [], none, []⟩
def en18 : En := ⟨1003, "_law_sum", none, ["_law_purse_here", "_law_many", "_law_most"], ["_law_purse_here", "_law_many", "_law_most", "_law_found", "_law_k"], Dt.f__law_sum, [], none, []⟩
def en19 : En := ⟨1004, "_law_pick", none, ["_law_purse_here", "_law_some"], ["_law_purse_here", "_law_some"], Dt.f__law_pick, [], none, []⟩
def en20 : En := ⟨1005, "_law_moved", none, ["_law_sum_here", "_law_images_here"], ["_law_sum_here", "_law_images_here", "_law_found", "_law_k", "_law_sign", "_law_spot"], Dt.f__law_moved, [], none, []⟩
def en21 : En := ⟨1006, "_law_spelled", none, ["_law_labels_here", "_law_moves_here"], ["_law_labels_here", "_law_moves_here", "_law_parts", "_law_word_here", "_law_images_here", "_law_sign", "_law_spot"], Dt.f__law_spelled, [], none, []⟩
def en22 : En := ⟨1007, "_law_right", none, ["_law_purse_here"], ["_law_purse_here", "_law_turn", "_law_many", "_law_row_here", "_law_due", "_law_told", "_law_numbers_here", "_law_behind", "_law_labels_here", "_law_moves_here", "_law_plan", "_law_sum_here", "_law_word_here", "_law_images_here", "_law_k", "_law_pair", "_law_sign", "_law_spot", "_law_x", "_law_y"], Dt.f__law_right, [], none, []⟩
def en23 : En := ⟨1008, "_law_purse", none, ["_law_script", "_law_spot"], ["_law_script", "_law_spot", "_law_cell", "_law_seed", "_law_one"], Dt.f__law_purse, [], none, []⟩
def en24 : En := ⟨1009, "law", none, ["_law_script"], ["_law_script", "_law_spot"], Dt.f_law, [], none, []⟩
def es0 : List En := []
def es1 : List En := en0 :: es0
def es2 : List En := en1 :: es1
def es3 : List En := en2 :: es2
def es4 : List En := en3 :: es3
def es5 : List En := en4 :: es4
def es6 : List En := en5 :: es5
def es7 : List En := en6 :: es6
def es8 : List En := en7 :: es7
def es9 : List En := en8 :: es8
def es10 : List En := en9 :: es9
def es11 : List En := en10 :: es10
def es12 : List En := en11 :: es11
def es13 : List En := en12 :: es12
def es14 : List En := en13 :: es13
def es15 : List En := en14 :: es14
def es16 : List En := en15 :: es15
def es17 : List En := en16 :: es16
def es18 : List En := en17 :: es17
def es19 : List En := en18 :: es18
def es20 : List En := en19 :: es19
def es21 : List En := en20 :: es20
def es22 : List En := en21 :: es21
def es23 : List En := en22 :: es22
def es24 : List En := en23 :: es23
def gl : Nat → D
  | 4 => .int 1000
  | 9 => .str "abcdefghijklmnopqrstuvwxyz"
  | 2 => .int 6
  | 3 => .int 4
  | 501 => .cls 1
  | _ => .non
def gls : List (Str × Nat) := [("MOST_FACTOR", 4), ("LETTERS", 9), ("MOST_NAMES", 2), ("MOST_TURNS", 3), ("Scheme", 501)]
def blt : List Str := ["abs", "all", "bool", "dict", "divmod", "enumerate", "int", "isinstance", "len", "list", "max", "min", "range", "sorted", "str", "sum", "tuple", "zip"]
def at_ (C : Nat) (f : Str) : Bool := match C with
  | 1 => (["written", "labels", "moves", "is "] : List Str).contains f
  | _ => false
end Dt
namespace V
def sumN : Nat → (Nat → Int) → Int
  | 0, _ => 0
  | n + 1, f => sumN n f + f n
theorem sumN_congr {n : Nat} {f g : Nat → Int} (h : ∀ j, j < n → f j = g j) : sumN n f = sumN n g := by
  induction n with
  | zero => rfl
  | succ n ih => rw [sumN, sumN, ih fun j hj => h j (by omega), h n (by omega)]
theorem sumN_zero {n : Nat} {f : Nat → Int} (h : ∀ j, j < n → f j = 0) : sumN n f = 0 := by
  induction n with
  | zero => rfl
  | succ n ih => rw [sumN, ih fun j hj => h j (by omega), h n (by omega)]; rfl
theorem sumN_add (n : Nat) (f g : Nat → Int) : sumN n (fun j => f j + g j) = sumN n f + sumN n g := by
  induction n with
  | zero => rfl
  | succ n ih => rw [sumN, sumN, sumN, ih]; omega
theorem sumN_mul (n : Nat) (a : Int) (f : Nat → Int) : sumN n (fun j => a * f j) = a * sumN n f := by
  induction n with
  | zero => exact (Int.mul_zero a).symm
  | succ n ih => rw [sumN, sumN, ih, Int.mul_add]
theorem sumN_one {n c : Nat} {f : Nat → Int} (hc : c < n) (h : ∀ j, j < n → j ≠ c → f j = 0) : sumN n f = f c := by
  induction n with
  | zero => omega
  | succ n ih =>
    rw [sumN]
    by_cases e : c = n
    · subst e
      rw [sumN_zero fun j hj => h j (by omega) (by omega), Int.zero_add]
    · rw [ih (by omega) fun j hj hn => h j (by omega) hn, h n (by omega) (Ne.symm e), Int.add_zero]
theorem sumN_two {n a b : Nat} {f : Nat → Int} (hab : a < b) (hb : b < n) (h : ∀ j, j < n → j ≠ a → j ≠ b → f j = 0) : sumN n f = f a + f b := by
  induction n with
  | zero => omega
  | succ n ih =>
    rw [sumN]
    by_cases e : b = n
    · subst e
      rw [sumN_one (c := a) (by omega) fun j hj hn => h j (by omega) hn (by omega)]
    · rw [ih (by omega) fun j hj h1 h2 => h j (by omega) h1 h2, h n (by omega) (by omega) (Ne.symm e), Int.add_zero]
theorem sumN_comm (n m : Nat) (f : Nat → Nat → Int) : sumN n (fun i => sumN m (fun j => f i j)) = sumN m (fun j => sumN n (fun i => f i j)) := by
  induction n with
  | zero =>
    rw [sumN, sumN_zero]
    intro j _
    rfl
  | succ n ih =>
    rw [sumN, ih, ← sumN_add]
    rfl
def sgn (j : Nat) : Int := if j % 2 = 0 then 1 else -1
theorem sgn_succ (j : Nat) : sgn (j + 1) = -sgn j := by
  unfold sgn
  by_cases h : j % 2 = 0
  · rw [if_pos h, if_neg (by omega)]
  · rw [if_neg h, if_pos (by omega)]
    rfl
def skip (j c : Nat) : Nat := if c < j then c else c + 1
abbrev Mx := Nat → Nat → Int
def minor (M : Mx) (j : Nat) : Mx := fun r c => M (r + 1) (skip j c)
def det : Nat → Mx → Int
  | 0, _ => 1
  | n + 1, M => sumN (n + 1) fun j => sgn j * M 0 j * det n (minor M j)
theorem skip_lt {n j c : Nat} (hj : j < n + 1) (hc : c < n) : skip j c < n + 1 := by
  unfold skip
  split <;> omega
theorem skip_ne (j c : Nat) : skip j c ≠ j := by
  unfold skip
  split <;> omega
theorem det_congr : ∀ {n : Nat} {M N : Mx}, (∀ r c, r < n → c < n → M r c = N r c) → det n M = det n N
  | 0, _, _, _ => rfl
  | n + 1, M, N, h => by
    rw [det, det]
    refine sumN_congr fun j hj => ?_
    rw [h 0 j (by omega) hj, det_congr fun r c hr hc => ?_]
    exact h (r + 1) (skip j c) (by omega) (skip_lt hj hc)
def repC (M : Mx) (c : Nat) (v : Nat → Int) : Mx := fun r k => if k = c then v r else M r k
theorem minor_rep_same (M : Mx) (c : Nat) (v : Nat → Int) : minor (repC M c v) c = minor M c := by
  funext r k
  exact if_neg (skip_ne c k)
def unskip (j c : Nat) : Nat := if c < j then c else c - 1
theorem skip_eq {j c k : Nat} (h : j ≠ c) : skip j k = c ↔ k = unskip j c := by
  unfold skip unskip
  by_cases h1 : c < j
  · rw [if_pos h1]
    by_cases h2 : k < j
    · rw [if_pos h2]
    · rw [if_neg h2]
      omega
  · rw [if_neg h1]
    by_cases h2 : k < j
    · rw [if_pos h2]
      omega
    · rw [if_neg h2]
      omega
theorem minor_rep {M : Mx} {c j : Nat} {v : Nat → Int} (h : j ≠ c) : minor (repC M c v) j = repC (minor M j) (unskip j c) (fun r => v (r + 1)) := by
  funext r k
  show (if skip j k = c then v (r + 1) else M (r + 1) (skip j k)) = if k = unskip j c then v (r + 1) else M (r + 1) (skip j k)
  by_cases e : skip j k = c
  · rw [if_pos e, if_pos ((skip_eq h).mp e)]
  · rw [if_neg e, if_neg fun z => e ((skip_eq h).mpr z)]
theorem unskip_lt {n j c : Nat} (hc : c < n + 1) (hj : j < n + 1) (h : j ≠ c) : unskip j c < n := by
  unfold unskip
  split <;> omega
theorem det_add : ∀ {n c : Nat} (M : Mx) (v w : Nat → Int), c < n → det n (repC M c fun r => v r + w r) = det n (repC M c v) + det n (repC M c w)
  | 0, _, _, _, _, h => by omega
  | n + 1, c, M, v, w, h => by
    rw [det, det, det, ← sumN_add]
    refine sumN_congr fun j hj => ?_
    by_cases e : j = c
    · subst e
      rw [minor_rep_same, minor_rep_same, minor_rep_same]
      have : ∀ u : Nat → Int, repC M j u 0 j = u 0 := fun u => if_pos rfl
      rw [this, this, this, Int.mul_add, Int.add_mul]
    · rw [minor_rep e, minor_rep e, minor_rep e, det_add (minor M j) _ _ (unskip_lt h hj e)]
      have : ∀ u : Nat → Int, repC M c u 0 j = M 0 j := fun u => if_neg e
      rw [this, this, this, Int.mul_add]
theorem det_mul : ∀ {n c : Nat} (M : Mx) (a : Int) (v : Nat → Int), c < n → det n (repC M c fun r => a * v r) = a * det n (repC M c v)
  | 0, _, _, _, _, h => by omega
  | n + 1, c, M, a, v, h => by
    rw [det, det, ← sumN_mul]
    refine sumN_congr fun j hj => ?_
    by_cases e : j = c
    · subst e
      rw [minor_rep_same, minor_rep_same]
      have : ∀ u : Nat → Int, repC M j u 0 j = u 0 := fun u => if_pos rfl
      rw [this, this, ← Int.mul_assoc, ← Int.mul_assoc, ← Int.mul_assoc, Int.mul_comm a (sgn j)]
    · rw [minor_rep e, minor_rep e, det_mul (minor M j) _ _ (unskip_lt h hj e)]
      have : ∀ u : Nat → Int, repC M c u 0 j = M 0 j := fun u => if_neg e
      rw [this, this, Int.mul_left_comm]
theorem det_zero {n c : Nat} (M : Mx) (h : c < n) : det n (repC M c fun _ => 0) = 0 := by
  have := det_mul M 0 (fun _ => 0) h
  simpa using this
theorem det_sum {n c : Nat} (M : Mx) (h : c < n) (m : Nat) (x : Nat → Int) (v : Nat → Nat → Int) : det n (repC M c fun r => sumN m fun k => x k * v k r) = sumN m fun k => x k * det n (repC M c (v k)) := by
  induction m with
  | zero => exact det_zero M h
  | succ m ih =>
    have := det_add M (fun r => sumN m fun k => x k * v k r) (fun r => x m * v m r) h
    rw [ih, det_mul M _ _ h] at this
    exact this
theorem det_adj : ∀ {n a : Nat} {M : Mx}, a + 1 < n → (∀ r, r < n → M r a = M r (a + 1)) → det n M = 0
  | 0, _, _, h, _ => by omega
  | n + 1, a, M, h, e => by
    rw [det, sumN_two (a := a) (b := a + 1) (by omega) h]
    · have h1 : det n (minor M (a + 1)) = det n (minor M a) := by
        refine det_congr fun r c hr hc => ?_
        show M (r + 1) (skip (a + 1) c) = M (r + 1) (skip a c)
        by_cases hca : c = a
        · subst hca
          have e1 : skip (c + 1) c = c := if_pos (by omega)
          have e2 : skip c c = c + 1 := if_neg (by omega)
          rw [e1, e2, e (r + 1) (by omega)]
        · congr 1
          unfold skip
          by_cases h2 : c < a
          · rw [if_pos (by omega), if_pos h2]
          · rw [if_neg (by omega), if_neg h2]
      rw [h1, ← e 0 (by omega), sgn_succ, Int.neg_mul, Int.neg_mul, Int.add_right_neg]
    · intro j hj h1 h2
      have hz : det n (minor M j) = 0 := by
        refine det_adj (a := unskip j a) ?_ fun r hr => ?_
        · unfold unskip
          split <;> omega
        · show M (r + 1) (skip j (unskip j a)) = M (r + 1) (skip j (unskip j a + 1))
          have e1 : skip j (unskip j a) = a := (skip_eq h1).mpr rfl
          have e3 : unskip j a + 1 = unskip j (a + 1) := by
            unfold unskip
            by_cases h3 : a < j
            · rw [if_pos h3, if_pos (by omega)]
            · rw [if_neg h3, if_neg (by omega)]
              omega
          have e2 : skip j (unskip j a + 1) = a + 1 := (skip_eq h2).mpr e3
          rw [e1, e2]
          exact e (r + 1) (by omega)
      rw [hz, Int.mul_zero]
theorem rep_self (M : Mx) (c : Nat) : repC M c (fun r => M r c) = M := by
  funext r k
  by_cases h : k = c
  · subst h
    exact if_pos rfl
  · exact if_neg h
theorem rep_comm {M : Mx} {a b : Nat} {u v : Nat → Int} (h : a ≠ b) : repC (repC M a u) b v = repC (repC M b v) a u := by
  funext r k
  show (if k = b then v r else if k = a then u r else M r k) = if k = a then u r else if k = b then v r else M r k
  by_cases h1 : k = b
  · subst h1
    rw [if_pos rfl, if_neg (Ne.symm h), if_pos rfl]
  · rw [if_neg h1, if_neg h1]
theorem det_swap {n a : Nat} (M : Mx) (u v : Nat → Int) (h : a + 1 < n) : det n (repC (repC M a u) (a + 1) v) = -det n (repC (repC M a v) (a + 1) u) := by
  have hz : ∀ w : Nat → Int, det n (repC (repC M a w) (a + 1) w) = 0 := fun w => det_adj h fun r _ => by
    have h1 : repC (repC M a w) (a + 1) w r a = w r := by
      show (if a = a + 1 then _ else if a = a then w r else M r a) = _
      rw [if_neg (by omega), if_pos rfl]
    have h2 : repC (repC M a w) (a + 1) w r (a + 1) = w r := if_pos rfl
    rw [h1, h2]
  have h0 := hz fun r => u r + v r
  rw [det_add (repC M a fun r => u r + v r) u v h] at h0
  have hs : ∀ w : Nat → Int, det n (repC (repC M a fun r => u r + v r) (a + 1) w) = det n (repC (repC M a u) (a + 1) w) + det n (repC (repC M a v) (a + 1) w) := fun w => by
    rw [rep_comm (a := a) (by omega), det_add (repC M (a + 1) w) u v (by omega), rep_comm (M := M) (a := a) (b := a + 1) (u := u) (by omega), rep_comm (M := M) (a := a) (b := a + 1) (u := v) (by omega)]
  rw [hs, hs, hz u, hz v] at h0
  omega
theorem det_eq : ∀ {d n a : Nat} {M : Mx}, a + d + 1 < n → (∀ r, r < n → M r a = M r (a + d + 1)) → det n M = 0
  | 0, n, a, M, h, e => det_adj h e
  | d + 1, n, a, M, h, e => by
    have h1 : det n (repC (repC M (a + d + 1) fun r => M r (a + d + 2)) (a + d + 2) fun r => M r (a + d + 1)) = 0 := by
      refine det_eq (d := d) (a := a) (by omega) fun r hr => ?_
      show (if a = a + d + 2 then _ else if a = a + d + 1 then _ else M r a) = (if a + d + 1 = a + d + 2 then _ else if a + d + 1 = a + d + 1 then M r (a + d + 2) else _)
      rw [if_neg (by omega), if_neg (by omega), if_neg (by omega), if_pos rfl]
      exact e r hr
    have h2 := det_swap (a := a + d + 1) M (fun r => M r (a + d + 1)) (fun r => M r (a + d + 2)) (by omega)
    rw [rep_self] at h2
    have h3 : repC M (a + d + 1 + 1) (fun r => M r (a + d + 2)) = M := rep_self M (a + d + 2)
    rw [h3] at h2
    rw [h2, h1]
    rfl
theorem det_eq2 {n a b : Nat} {M : Mx} (ha : a < n) (hb : b < n) (hab : a ≠ b) (e : ∀ r, r < n → M r a = M r b) : det n M = 0 := by
  by_cases h : a < b
  · obtain ⟨d, rfl⟩ : ∃ d, b = a + d + 1 := ⟨b - a - 1, by omega⟩
    exact det_eq hb e
  · obtain ⟨d, rfl⟩ : ∃ d, a = b + d + 1 := ⟨a - b - 1, by omega⟩
    exact det_eq ha fun r hr => (e r hr).symm
theorem cramer {n c : Nat} {M : Mx} {t : Int} {v x : Nat → Int} (hc : c < n) (h : ∀ r, r < n → t * v r = sumN n fun k => x k * M r k) : t * det n (repC M c v) = x c * det n M := by
  rw [← det_mul M t v hc]
  have e1 : det n (repC M c fun r => t * v r) = det n (repC M c fun r => sumN n fun k => x k * M r k) := det_congr fun r k hr _ => by
    show (if k = c then t * v r else M r k) = if k = c then (sumN n fun k => x k * M r k) else M r k
    rw [h r hr]
  rw [e1, det_sum M hc n x fun k r => M r k, sumN_one hc]
  · rw [rep_self]
  · intro j hj hn
    have hz : det n (repC M c fun r => M r j) = 0 := by
      refine det_eq2 hj hc hn fun r _ => ?_
      show (if j = c then _ else M r j) = if c = c then M r j else _
      rw [if_neg hn, if_pos rfl]
    rw [hz, Int.mul_zero]
def fac : Nat → Nat
  | 0 => 1
  | n + 1 => (n + 1) * fac n
theorem sumN_abs {n : Nat} {f : Nat → Int} {k : Nat} (h : ∀ j, j < n → (f j).natAbs ≤ k) : (sumN n f).natAbs ≤ n * k := by
  induction n with
  | zero => simp [sumN]
  | succ n ih =>
    rw [sumN]
    have h1 := ih fun j hj => h j (by omega)
    have h2 := h n (by omega)
    have h3 := Int.natAbs_add_le (sumN n f) (f n)
    rw [Nat.succ_mul]
    omega
theorem sgn_abs (j : Nat) : (sgn j).natAbs = 1 := by
  unfold sgn
  split <;> rfl
theorem det_abs : ∀ {n : Nat} {M : Mx} {K : Nat}, (∀ r c, r < n → c < n → (M r c).natAbs ≤ K) → (det n M).natAbs ≤ fac n * K ^ n
  | 0, _, K, _ => by
    show 1 ≤ 1 * K ^ 0
    rw [Nat.pow_zero]
    exact Nat.le_refl _
  | n + 1, M, K, h => by
    rw [det]
    have := sumN_abs (n := n + 1) (f := fun j => sgn j * M 0 j * det n (minor M j)) (k := K * (fac n * K ^ n)) fun j hj => by
      rw [Int.natAbs_mul, Int.natAbs_mul, sgn_abs, Nat.one_mul]
      exact Nat.mul_le_mul (h 0 j (by omega) hj) (det_abs fun r c hr hc => h (r + 1) (skip j c) (by omega) (skip_lt hj hc))
    have e : (n + 1) * (K * (fac n * K ^ n)) = fac (n + 1) * K ^ (n + 1) := by
      rw [fac, Nat.pow_succ]
      simp only [Nat.mul_assoc, Nat.mul_comm, Nat.mul_left_comm]
    rw [← e]
    exact this
end V
namespace V
structure Tab where
  L : Mx
  h : Nat → Nat
  s : Int
structure Ok (m n : Nat) (A : Mx) (T : Tab) : Prop where
  sp : 0 < T.s
  hl : ∀ i, i < m → T.h i < n + m
  cmb : ∀ x, x < m → ∀ j, j ≤ n + m → T.s * A x j = sumN m fun i => T.L i j * A x (T.h i)
  bas : ∀ i, i < m → ∀ k, k < m → T.L i (T.h k) = if i = k then T.s else 0
  dt : ∃ e : Int, e * e = 1 ∧ det m (fun x i => A x (T.h i)) = e * T.s
def sg (z : Int) : Int := if z < 0 then -1 else 1
def own (T : Tab) (r q : Nat) : Nat → Int := fun j => sg (T.L r q) * T.L r j
def piv (T : Tab) (r q : Nat) : Tab := ⟨fun i j => if i = r then own T r q j else (T.L i j * own T r q q - T.L i q * own T r q j) / T.s, fun i => if i = r then q else T.h i, own T r q q⟩
theorem sumN_two' {n a b : Nat} {f : Nat → Int} (ha : a < n) (hb : b < n) (hab : a ≠ b) (h : ∀ j, j < n → j ≠ a → j ≠ b → f j = 0) : sumN n f = f a + f b := by
  by_cases hl : a < b
  · exact sumN_two hl hb h
  · rw [sumN_two (a := b) (b := a) (by omega) ha fun j hj h1 h2 => h j hj h2 h1, Int.add_comm]
theorem det_swapG {n a b : Nat} (M : Mx) (u v : Nat → Int) (ha : a < n) (hb : b < n) (hab : a ≠ b) : det n (repC (repC M a u) b v) = -det n (repC (repC M a v) b u) := by
  have hz : ∀ w : Nat → Int, det n (repC (repC M a w) b w) = 0 := fun w => det_eq2 ha hb hab fun r _ => by
    have h1 : repC (repC M a w) b w r a = w r := by
      show (if a = b then _ else if a = a then w r else M r a) = _
      rw [if_neg hab, if_pos rfl]
    have h2 : repC (repC M a w) b w r b = w r := if_pos rfl
    rw [h1, h2]
  have h0 := hz fun r => u r + v r
  rw [det_add (repC M a fun r => u r + v r) u v hb] at h0
  have hs : ∀ w : Nat → Int, det n (repC (repC M a fun r => u r + v r) b w) = det n (repC (repC M a u) b w) + det n (repC (repC M a v) b w) := fun w => by
    rw [rep_comm hab, det_add (repC M b w) u v ha, rep_comm (M := M) (a := a) (b := b) (u := u) hab, rep_comm (M := M) (a := a) (b := b) (u := v) hab]
  rw [hs, hs, hz u, hz v] at h0
  omega
section
variable {m n : Nat} {A : Mx} {T : Tab}
def bm (A : Mx) (T : Tab) : Mx := fun x i => A x (T.h i)
theorem Ok.entry (o : Ok m n A T) {e : Int} (he : e * e = 1) (hd : det m (bm A T) = e * T.s) {i j : Nat} (hi : i < m) (hj : j ≤ n + m) : det m (repC (bm A T) i fun x => A x j) = e * T.L i j := by
  have h := cramer (n := m) (c := i) (M := bm A T) (t := T.s) (v := fun x => A x j) (x := fun k => T.L k j) hi fun r hr => o.cmb r hr j hj
  rw [hd, ← Int.mul_assoc, Int.mul_comm (T.L i j * e) T.s, Int.mul_comm (T.L i j) e] at h
  exact Int.eq_of_mul_eq_mul_left (Int.ne_of_gt o.sp) h
theorem Ok.exact (o : Ok m n A T) {r q i j : Nat} (hr : r < m) (hq : q < n + m) (hi : i < m) (hn : i ≠ r) (hj : j ≤ n + m) : ∃ E : Int, T.s * E = T.L i j * T.L r q - T.L i q * T.L r j := by
  obtain ⟨e, he, hd⟩ := o.dt
  refine ⟨e * det m (repC (repC (bm A T) r fun x => A x q) i fun x => A x j), ?_⟩
  have h1 : T.s * det m (repC (repC (bm A T) r fun x => A x q) i fun x => A x j) = e * (T.L i j * T.L r q - T.L i q * T.L r j) := by
    have c1 : repC (repC (bm A T) r fun x => A x q) i (fun x => A x j) = repC (repC (bm A T) i fun x => A x j) r fun x => A x q := rep_comm (Ne.symm hn)
    rw [c1, ← det_mul _ _ _ hr]
    have c2 : det m (repC (repC (bm A T) i fun x => A x j) r fun x => T.s * A x q) = det m (repC (repC (bm A T) i fun x => A x j) r fun x => sumN m fun k => T.L k q * bm A T x k) := det_congr fun x k hx _ => by
      show (if k = r then T.s * A x q else _) = if k = r then (sumN m fun k => T.L k q * bm A T x k) else _
      rw [o.cmb x hx q (Nat.le_of_lt hq)]
      rfl
    rw [c2, det_sum _ hr m (fun k => T.L k q) fun k x => bm A T x k, sumN_two' hr hi (Ne.symm hn)]
    · have d1 : det m (repC (repC (bm A T) i fun x => A x j) r fun x => bm A T x r) = e * T.L i j := by
        rw [rep_comm hn, rep_self]
        exact o.entry he hd hi hj
      have d2 : det m (repC (repC (bm A T) i fun x => A x j) r fun x => bm A T x i) = -(e * T.L r j) := by
        rw [det_swapG _ _ _ hi hr hn, rep_self, o.entry he hd hr hj]
      rw [d1, d2, Int.mul_neg, Int.mul_sub, Int.mul_left_comm, Int.mul_comm (T.L r q), Int.mul_left_comm (T.L i q)]
      omega
    · intro k hk h1 h2
      have : det m (repC (repC (bm A T) i fun x => A x j) r fun x => bm A T x k) = 0 := det_eq2 hk hr h1 fun x _ => by
        show (if k = r then _ else if k = i then _ else bm A T x k) = if r = r then bm A T x k else _
        rw [if_neg h1, if_neg h2, if_pos rfl]
      rw [this, Int.mul_zero]
  rw [Int.mul_left_comm, h1, ← Int.mul_assoc, he, Int.one_mul]
theorem piv_eq (o : Ok m n A T) {r q i j : Nat} (hr : r < m) (hq : q < n + m) (hi : i < m) (hn : i ≠ r) (hj : j ≤ n + m) : T.s * (piv T r q).L i j = T.L i j * own T r q q - T.L i q * own T r q j := by
  obtain ⟨E, hE⟩ := o.exact hr hq hi hn hj
  have e1 : T.L i j * own T r q q - T.L i q * own T r q j = T.s * (sg (T.L r q) * E) := by
    unfold own
    rw [Int.mul_left_comm T.s, hE, Int.mul_sub, Int.mul_left_comm (T.L i j), Int.mul_left_comm (T.L i q)]
  have e2 : (piv T r q).L i j = (T.L i j * own T r q q - T.L i q * own T r q j) / T.s := if_neg hn
  rw [e2, e1, Int.mul_ediv_cancel_left _ (Int.ne_of_gt o.sp)]
theorem piv_r (T : Tab) (r q j : Nat) : (piv T r q).L r j = own T r q j := if_pos rfl
theorem piv_hr (T : Tab) (r q : Nat) : (piv T r q).h r = q := if_pos rfl
theorem piv_h (T : Tab) {r i : Nat} (q : Nat) (h : i ≠ r) : (piv T r q).h i = T.h i := if_neg h
def crow (m : Nat) (T : Tab) (c : Nat → Int) (j : Nat) : Int := T.s * c j - sumN m fun i => T.L i j * c (T.h i)
end
end V
namespace V
def Units (m n : Nat) (A : Mx) : Prop := ∀ r, r < m → ∀ i, i < m → A r (n + i) = if r = i then 1 else 0
section
variable {m n : Nat} {A : Mx} {T : Tab}
theorem Ok.det_ne (o : Ok m n A T) : det m (bm A T) ≠ 0 := by
  obtain ⟨e, he, hd⟩ := o.dt
  have hd : det m (bm A T) = e * T.s := hd
  rw [hd]
  refine Int.mul_ne_zero (fun z => ?_) (Int.ne_of_gt o.sp)
  rw [z] at he
  cases he
theorem Ok.rows (o : Ok m n A T) (hA : Units m n A) {k j : Nat} (hk : k < m) (hj : j ≤ n + m) : T.L k j = sumN m fun y => T.L k (n + y) * A y j := by
  have h := cramer (n := m) (c := k) (M := bm A T) (t := 1) (v := fun _ => 0) (x := fun k => (sumN m fun y => T.L k (n + y) * A y j) - T.L k j) hk fun r hr => by
    have e1 : (sumN m fun k => ((sumN m fun y => T.L k (n + y) * A y j) - T.L k j) * bm A T r k) = (sumN m fun k => (sumN m fun y => T.L k (n + y) * A y j) * bm A T r k) - sumN m fun k => T.L k j * bm A T r k := by
      rw [Int.sub_eq_add_neg, ← Int.neg_one_mul, ← sumN_mul, ← sumN_add]
      refine sumN_congr fun k _ => ?_
      rw [Int.sub_mul, Int.neg_one_mul, Int.sub_eq_add_neg]
    have e2 : (sumN m fun k => (sumN m fun y => T.L k (n + y) * A y j) * bm A T r k) = T.s * A r j := by
      have : (sumN m fun k => (sumN m fun y => T.L k (n + y) * A y j) * bm A T r k) = sumN m fun k => sumN m fun y => A y j * (T.L k (n + y) * bm A T r k) := sumN_congr fun k _ => by
        rw [Int.mul_comm, ← sumN_mul]
        refine sumN_congr fun y _ => ?_
        rw [Int.mul_left_comm, Int.mul_left_comm (A y j), Int.mul_comm (bm A T r k)]
      rw [this, sumN_comm]
      have : (sumN m fun y => sumN m fun k => A y j * (T.L k (n + y) * bm A T r k)) = sumN m fun y => A y j * (T.s * A r (n + y)) := sumN_congr fun y hy => by
        rw [sumN_mul, o.cmb r hr (n + y) (by omega)]
        rfl
      rw [this, sumN_one (c := r) hr fun y hy hn => by rw [hA r hr y hy, if_neg (Ne.symm hn), Int.mul_zero, Int.mul_zero], hA r hr r hr, if_pos rfl, Int.mul_one, Int.mul_comm]
    rw [e1, e2, o.cmb r hr j hj]
    show 1 * 0 = (sumN m fun i => T.L i j * A r (T.h i)) - sumN m fun k => T.L k j * A r (T.h k)
    omega
  rw [det_zero _ hk, Int.mul_zero] at h
  rcases Int.mul_eq_zero.mp h.symm with h | h
  · omega
  · exact absurd h o.det_ne
theorem Ok.inj (o : Ok m n A T) {i k : Nat} (hi : i < m) (hk : k < m) (h : T.h i = T.h k) : i = k := Decidable.byContradiction fun z => by
  have h1 := o.bas i hi k hk
  rw [← h, o.bas i hi i hi, if_pos rfl, if_neg z] at h1
  have := o.sp
  omega
def Feas (m n : Nat) (T : Tab) : Prop := ∀ i, i < m → 0 ≤ T.L i (n + m)
structure Leaves (m n : Nat) (T : Tab) (q r : Nat) : Prop where
  lt : r < m
  pos : 0 < T.L r q
  least : ∀ i, i < m → 0 < T.L i q → T.L r (n + m) * T.L i q < T.L i (n + m) * T.L r q ∨ T.L r (n + m) * T.L i q = T.L i (n + m) * T.L r q ∧ T.h r ≤ T.h i
theorem own_pos {r q : Nat} (h : 0 < T.L r q) (j : Nat) : own T r q j = T.L r j := by
  unfold own sg
  rw [if_neg (by omega), Int.one_mul]
theorem Feas.piv (f : Feas m n T) (o : Ok m n A T) {r q : Nat} (hq : q < n + m) (h : Leaves m n T q r) : Feas m n (piv T r q) := fun i hi => by
  by_cases hn : i = r
  · subst hn
    rw [piv_r, own_pos h.pos]
    exact f i hi
  · have e := piv_eq o h.lt hq hi hn (Nat.le_refl (n + m))
    rw [own_pos h.pos, own_pos h.pos] at e
    have h1 := f i hi
    have h2 := f r h.lt
    have h3 : 0 ≤ T.L i (n + m) * T.L r q - T.L i q * T.L r (n + m) := by
      by_cases hp : 0 < T.L i q
      · rw [Int.mul_comm (T.L i q)]
        rcases h.least i hi hp with h4 | ⟨h4, _⟩ <;> omega
      · have k1 : 0 ≤ T.L i (n + m) * T.L r q := Int.mul_nonneg h1 (Int.le_of_lt h.pos)
        have k2 : T.L i q * T.L r (n + m) ≤ 0 := Int.mul_nonpos_of_nonpos_of_nonneg (by omega) h2
        omega
    rw [← e] at h3
    exact Int.nonneg_of_mul_nonneg_right h3 o.sp
theorem Ok.same {T' : Tab} (o : Ok m n A T) (o' : Ok m n A T') (h : ∀ i, i < m → T'.h i = T.h i) : T'.s = T.s ∧ ∀ i, i < m → ∀ j, j ≤ n + m → T'.L i j = T.L i j := by
  obtain ⟨e, he, hd⟩ := o.dt
  obtain ⟨e', he', hd'⟩ := o'.dt
  have eb : ∀ x i, x < m → i < m → bm A T' x i = bm A T x i := fun x i _ hi => by
    show A x (T'.h i) = A x (T.h i)
    rw [h i hi]
  have hdd : det m (bm A T') = det m (bm A T) := det_congr eb
  have hd : det m (bm A T) = e * T.s := hd
  have hd' : det m (bm A T') = e' * T'.s := hd'
  have sq : ∀ z : Int, z * z = 1 → z = 1 ∨ z = -1 := fun z hz => by
    have h0 : (z - 1) * (z + 1) = 0 := by
      rw [Int.mul_add, Int.sub_mul, hz, Int.mul_one]
      omega
    rcases Int.mul_eq_zero.mp h0 with h0 | h0
    · exact .inl (by omega)
    · exact .inr (by omega)
  have hs : e' = e ∧ T'.s = T.s := by
    have p1 := o.sp
    have p2 := o'.sp
    have k : e' * T'.s = e * T.s := by rw [← hd', hdd, hd]
    rcases sq e he with rfl | rfl <;> rcases sq e' he' with rfl | rfl <;> constructor <;> omega
  refine ⟨hs.2, fun i hi j hj => ?_⟩
  have k1 := o.entry he hd hi hj
  have k2 := o'.entry he' hd' hi hj
  have k3 : det m (repC (bm A T') i fun x => A x j) = det m (repC (bm A T) i fun x => A x j) := det_congr fun x k hx hk => by
    show (if k = i then A x j else bm A T' x k) = if k = i then A x j else bm A T x k
    rw [eb x k hx hk]
  rw [k3, k1, hs.1] at k2
  have e0 : e ≠ 0 := fun z => by
    rw [z] at he
    cases he
  exact (Int.eq_of_mul_eq_mul_left e0 k2).symm
end
end V
namespace V
def firstB (n : Nat) (f : Nat → Int) : Option Nat := (List.range n).find? fun j => decide (f j < 0)
def before (l : Nat) (T : Tab) (q row best : Nat) : Bool := decide (T.L row l * T.L best q < T.L best l * T.L row q) || (decide (T.L row l * T.L best q = T.L best l * T.L row q) && decide (T.h row < T.h best))
def lvStep (l : Nat) (T : Tab) (q : Nat) (best : Option Nat) (row : Nat) : Option Nat := if 0 < T.L row q ∧ (best = none ∨ ∃ b, best = some b ∧ before l T q row b = true) then some row else best
instance (l : Nat) (T : Tab) (q : Nat) (best : Option Nat) (row : Nat) : Decidable (0 < T.L row q ∧ (best = none ∨ ∃ b, best = some b ∧ before l T q row b = true)) := by
  cases best with
  | none => exact decidable_of_iff (0 < T.L row q) ⟨fun h => ⟨h, .inl rfl⟩, fun h => h.1⟩
  | some b => exact decidable_of_iff (0 < T.L row q ∧ before l T q row b = true) ⟨fun h => ⟨h.1, .inr ⟨b, rfl, h.2⟩⟩, fun h => ⟨h.1, h.2.elim (fun z => by cases z) fun ⟨b', e, h⟩ => by cases e; exact h⟩⟩
def leavR (l : Nat) (T : Tab) (q : Nat) (m : Nat) : Option Nat := (List.range m).foldl (lvStep l T q) none
def nx (m n : Nat) (c : Nat → Int) (T : Tab) : Option Tab := match firstB n (crow m T c) with
  | none => none
  | some q => (leavR (n + m) T q m).map fun r => piv T r q
def it (m n : Nat) (c : Nat → Int) (T : Tab) : Nat → Tab
  | 0 => T
  | k + 1 => (nx m n c (it m n c T k)).getD (it m n c T k)
def code (w : Nat) (h : Nat → Nat) : Nat → Nat
  | 0 => 0
  | m + 1 => code w h m * w + h m
end V
namespace V
def c1 (m n : Nat) : Nat → Int := fun j => if n ≤ j ∧ j < n + m then 1 else 0
def Dead (m n : Nat) (T : Tab) (i : Nat) : Prop := T.L i (n + m) = 0 ∧ ∀ j, j < n → T.L i j = 0
def Held (m n : Nat) (T : Tab) : Prop := ∀ i, i < m → T.h i < n ∨ Dead m n T i
theorem Held.piv {m n : Nat} {A : Mx} {T : Tab} (o : Ok m n A T) (h : Held m n T) {r q : Nat} (hr : r < m) (hq : q < n) (hp : T.L r q ≠ 0) : Held m n (piv T r q) := fun i hi => by
  by_cases e : i = r
  · rw [e, piv_hr]
    exact .inl hq
  · rw [piv_h _ _ e]
    rcases h i hi with h | ⟨h1, h2⟩
    · exact .inl h
    · have key : ∀ j, j ≤ n + m → T.L i j = 0 → (V.piv T r q).L i j = 0 := fun j hj hz => by
        have h3 := piv_eq o hr (show q < n + m by omega) hi e hj
        rw [hz, h2 q hq, Int.zero_mul, Int.zero_mul] at h3
        rcases Int.mul_eq_zero.mp h3 with h | h
        · exact absurd h (Int.ne_of_gt o.sp)
        · exact h
      exact .inr ⟨key _ (Nat.le_refl _) h1, fun j hj => key j (by omega) (h2 j hj)⟩
end V
namespace V
def sgp (z : Int) : Int := if z < 0 then -1 else 1
def A0 (n : Nat) (cols : Nat → Nat → Int) (g : Nat → Int) (m : Nat) : Mx := fun x j => if j < n then sgp (g x) * cols j x else if j < n + m then (if j - n = x then 1 else 0) else sgp (g x) * g x
theorem sum_abs {m : Nat} {f : Nat → Int} {B : Nat} (h : ∀ i, i < m → (f i).natAbs ≤ B) : (sumN m f).natAbs ≤ m * B := by
  induction m with
  | zero => exact Nat.zero_le _
  | succ m ih =>
    rw [sumN]
    have h1 := ih fun i hi => h i (by omega)
    have h2 := h m (by omega)
    have h3 := Int.natAbs_add_le (sumN m f) (f m)
    have e : (m + 1) * B = m * B + B := Nat.succ_mul m B
    omega
theorem Ok.small {m n : Nat} {A : Mx} {T : Tab} (o : Ok m n A T) {K : Nat} (hA : ∀ x, x < m → ∀ j, j ≤ n + m → (A x j).natAbs ≤ K) : T.s.natAbs ≤ fac m * K ^ m ∧ ∀ i, i < m → ∀ j, j ≤ n + m → (T.L i j).natAbs ≤ fac m * K ^ m := by
  obtain ⟨e, he, hd⟩ := o.dt
  have e1 : ∀ z : Int, (e * z).natAbs = z.natAbs := fun z => by
    have h1 : e.natAbs * e.natAbs = 1 := by
      rw [← Int.natAbs_mul, he]
      rfl
    have h2 : e.natAbs = 1 := Nat.eq_one_of_dvd_one ⟨_, h1.symm⟩
    rw [Int.natAbs_mul, h2, Nat.one_mul]
  constructor
  · rw [← e1, ← hd]
    exact det_abs fun r c hr hc => hA r hr _ (Nat.le_of_lt (o.hl c hc))
  · intro i hi j hj
    rw [← e1, ← o.entry he hd hi hj]
    refine det_abs fun r c hr hc => ?_
    show (if c = i then A r j else A r (T.h c)).natAbs ≤ K
    split
    · exact hA r hr j hj
    · exact hA r hr _ (Nat.le_of_lt (o.hl c hc))
theorem crow_small {m n : Nat} {T : Tab} {c : Nat → Int} {B C j : Nat} (hs : T.s.natAbs ≤ B) (hL : ∀ i, i < m → (T.L i j).natAbs ≤ B) (hj : (c j).natAbs ≤ C) (hc : ∀ i, i < m → (c (T.h i)).natAbs ≤ C) : (crow m T c j).natAbs ≤ (m + 1) * (B * C) := by
  unfold crow
  have h1 : (T.s * c j).natAbs ≤ B * C := by
    rw [Int.natAbs_mul]
    exact Nat.mul_le_mul hs hj
  have h2 := sum_abs (m := m) (f := fun i => T.L i j * c (T.h i)) (B := B * C) fun i hi => by
    rw [Int.natAbs_mul]
    exact Nat.mul_le_mul (hL i hi) (hc i hi)
  have h3 := Int.natAbs_sub_le (T.s * c j) (sumN m fun i => T.L i j * c (T.h i))
  have e : (m + 1) * (B * C) = m * (B * C) + B * C := Nat.succ_mul m _
  omega
end V
namespace V
def DB (m : Nat) : Nat := fac m * 1000 ^ m
section
variable {m n : Nat} {cols : Nat → Nat → Int} {g c : Nat → Int} {T : Tab}
theorem sgp_abs (z : Int) : (sgp z).natAbs = 1 := by
  unfold sgp
  split <;> rfl
theorem A0_abs (hc : ∀ j, j < n → ∀ i, i < m → (cols j i).natAbs ≤ 1000) (hg : ∀ i, i < m → (g i).natAbs ≤ 1000) : ∀ x, x < m → ∀ j, j ≤ n + m → (A0 n cols g m x j).natAbs ≤ 1000 := fun x hx j _ => by
  unfold A0
  split
  · rename_i h
    rw [Int.natAbs_mul, sgp_abs, Nat.one_mul]
    exact hc j h x hx
  · split
    · split <;> decide
    · rw [Int.natAbs_mul, sgp_abs, Nat.one_mul]
      exact hg x hx
end
end V
namespace S
open PySem T
section
variable {Γ : Tb} {ρ : T.Env} {μ : Sto}
theorem ev_isi {a : Ee} {C : Nat} : evE Γ (.isi a C) ρ μ = (evE Γ a ρ μ).bind fun x μ1 => (match isiOf Γ x C μ1 with
    | some b => .ok (.bl b) μ1
    | none => .bad) := rfl
end
def rwD (w : Nat) (f : Nat → Int) : D := .lst ((List.range w).map fun j => .int (f j))
section
variable {w : Nat} {f g : Nat → Int} {μ : Sto}
theorem sq_rw : Sq μ (rwD w f) ((List.range w).map fun j => .int (f j)) := rfl
theorem zip_rw : itemsOf .zip [rwD w f, rwD w g] μ = some ((List.range w).map fun j => .tup [.int (f j), .int (g j)], []) := by
  rw [zip_sq sq_rw sq_rw]
  congr 2
  rw [List.zipWith_map_left, List.zipWith_map_right]
  generalize List.range w = l
  induction l with
  | nil => rfl
  | cons x l ih => rw [List.zipWith_cons_cons, List.map_cons, ih]
end
def RwAt (μ : Sto) (x : D) (w : Nat) (f : Nat → Int) : Prop := x = rwD w f ∨ ∃ a, x = .cell a ∧ μ[a]? = some (.lst ((List.range w).map fun j => .int (f j)))
section
variable {w : Nat} {f g : Nat → Int} {μ : Sto} {x : D}
theorem RwAt.seq (h : RwAt μ x w f) : seqOf μ x = some ((List.range w).map fun j => .int (f j)) := by
  rcases h with rfl | ⟨a, rfl, h⟩
  · rfl
  · simp only [seqOf, h]
theorem ix_seq {ds : List D} {i : Int} {d : D} (h : seqOf μ x = some ds) (hx : ∀ k es, x ≠ .dic k es) (hs : ∀ z, x ≠ .str z) (h2 : L2.atI ds i = some d) : ixD x (.int i) μ = .ok d μ := by
  cases x <;> first
    | exact absurd rfl (hx _ _)
    | exact absurd rfl (hs _)
    | (simp only [ixD, h, h2])
theorem RwAt.nd (h : RwAt μ x w f) : (∀ k es, x ≠ .dic k es) ∧ ∀ z, x ≠ .str z := by
  rcases h with rfl | ⟨a, rfl, h⟩
  · exact ⟨fun _ _ e => (by cases e), fun _ e => (by cases e)⟩
  · exact ⟨fun _ _ e => (by cases e), fun _ e => (by cases e)⟩
theorem RwAt.ix (h : RwAt μ x w f) {k : Nat} (hk : k < w) : ixD x (.int (k : Int)) μ = .ok (.int (f k)) μ := ix_seq h.seq h.nd.1 h.nd.2 (by
  unfold L2.atI L2.ixN
  rw [if_pos (by omega), if_pos (by simp; omega)]
  simp [hk])
theorem RwAt.zip (h : RwAt μ x w f) : ∃ gs, itemsOf .zip [x, rwD w g] μ = some ((List.range w).map fun j => .tup [.int (f j), .int (g j)], gs) ∧ still gs μ := by
  rcases h with rfl | ⟨a, rfl, h⟩
  · exact ⟨[], zip_rw, fun p hp => by cases hp⟩
  · refine ⟨[(a, (List.range w).map fun j => .int (f j))] ++ [], ?_, fun p hp => ?_⟩
    · have e := zip_rw (w := w) (f := f) (g := g) (μ := μ)
      have e : (match srcOf μ (rwD w f), srcOf μ (rwD w g) with
        | some p, some q => some (p.1.zipWith (fun a b => D.tup [a, b]) q.1, p.2 ++ q.2)
        | _, _ => none) = _ := e
      show (match srcOf μ (.cell a), srcOf μ (rwD w g) with
        | some p, some q => some (p.1.zipWith (fun a b => D.tup [a, b]) q.1, p.2 ++ q.2)
        | _, _ => none) = _
      have h1 : srcOf μ (.cell a) = some ((List.range w).map fun j => .int (f j), [(a, (List.range w).map fun j => .int (f j))]) := by simp only [srcOf, h]
      have h2 : srcOf μ (rwD w g) = some ((List.range w).map fun j => .int (g j), []) := rfl
      have h3 : srcOf μ (rwD w f) = some ((List.range w).map fun j => .int (f j), []) := rfl
      rw [h2, h3] at e
      rw [h1, h2]
      have e2 := congrArg (fun z => z.map (·.1)) e
      simp only [Option.map_some, Option.some.injEq] at e2
      simp only [e2]
    · have e : p = (a, (List.range w).map fun j => .int (f j)) := by simpa using hp
      rw [e]
      exact h
end
end S
namespace S
open PySem T
section
def lsD (w m : Nat) (L : Nat → Nat → Int) : List D := (List.range m).map fun i => rwD w (L i)
structure Sz (n m : Nat) (c : Nat → Int) (T : V.Tab) : Prop where
  s : B 440 T.s
  L : ∀ i, i < m → ∀ j, j < n + m + 1 → B 440 (T.L i j)
  c1 : ∀ j, j < n + m + 1 → B 440 (V.crow m T (V.c1 m n) j)
  c : ∀ j, j < n + m + 1 → B 440 (V.crow m T c j)
end
end S
namespace S
open PySem T
abbrev ETu (a b c d e f g : Option D) : T.Env := [a, b, c, d, e, f, g]
end S
namespace S
open PySem T
end S
namespace S
open PySem T
end S
namespace S
open PySem T
end S
namespace S
open PySem T
abbrev ETd (a b c : Option D) : T.Env := [a, b, c]
end S
namespace S
open PySem T
end S
namespace S
open PySem T
end S
namespace S
open PySem T
def rowL (w : Nat) (f : Nat → Int) : List D := (List.range w).map fun j => .int (f j)
end S
namespace S
open PySem T
def IX (μ : Sto) (fs : List Str) (vs : List D) (cs : List Cell) : Sto := μ ++ (.ins 3 fs vs :: cs)
end S
namespace S
open PySem T
section
variable {Γ : Tb} {μ : Sto} {n m : Nat} {g c : Nat → Int} {cols : Nat → Nat → Int}
abbrev sgD (m : Nat) (g : Nat → Int) : D := rwD m fun i => V.sgp (g i)
abbrev I2 (μ : Sto) (n m : Nat) (g : Nat → Int) : Sto := IX μ ["many", "signs"] [.int (n : Int), sgD m g] []
abbrev I3 (μ : Sto) (n m : Nat) (g : Nat → Int) (cols : Nat → Nat → Int) : Sto := IX μ ["many", "signs", "lines"] [.int (n : Int), sgD m g, .cell (μ.length + 1)] [.lst (lsD (n + m + 1) m (V.A0 n cols g m))]
abbrev I4 (μ : Sto) (n m : Nat) (g : Nat → Int) (cols : Nat → Nat → Int) (f : Nat → Int) : Sto := IX μ ["many", "signs", "lines", "start"] [.int (n : Int), sgD m g, .cell (μ.length + 1), .cell (μ.length + 2)] [.lst (lsD (n + m + 1) m (V.A0 n cols g m)), .lst (rowL (n + m + 1) f)]
abbrev I6 (μ : Sto) (n m : Nat) (g : Nat → Int) (cols : Nat → Nat → Int) (f p : Nat → Int) : Sto := IX μ ["many", "signs", "lines", "start", "prices"] [.int (n : Int), sgD m g, .cell (μ.length + 1), .cell (μ.length + 2), rwD (n + m + 1) p] [.lst (lsD (n + m + 1) m (V.A0 n cols g m)), .lst (rowL (n + m + 1) f)]
end
end S
namespace S
open PySem T
end S
namespace S
open PySem T
structure Ask (n m : Nat) (cols : Nat → Nat → Int) (g c : Nat → Int) : Prop where
  m0 : 0 < m
  m6 : m ≤ 6
  n60 : n ≤ 60
  hc : ∀ j, j < n → ∀ i, i < m → (cols j i).natAbs ≤ 1000
  hg : ∀ i, i < m → (g i).natAbs ≤ 1000
  hcc : ∀ j, (c j).natAbs ≤ 1000000000000
  hz : ∀ j, n ≤ j → c j = 0
theorem DB_le {m : Nat} (h : m ≤ 6) : V.DB m ≤ 720 * 1000 ^ 6 := by
  have : m = 0 ∨ m = 1 ∨ m = 2 ∨ m = 3 ∨ m = 4 ∨ m = 5 ∨ m = 6 := by omega
  rcases this with rfl | rfl | rfl | rfl | rfl | rfl | rfl <;> decide
section
variable {Γ : Tb} {μ : Sto} {n m : Nat} {g c : Nat → Int} {cols : Nat → Nat → Int}
theorem Ask.sz (a : Ask n m cols g c) {W : V.Tab} (o : V.Ok m n (V.A0 n cols g m) W) : Sz n m c W := by
  have hD := DB_le a.m6
  obtain ⟨b1, b2⟩ := o.small (V.A0_abs a.hc a.hg)
  have e1 : ∀ x : Int, x.natAbs ≤ V.DB m → B 440 x := fun x h => Nat.lt_of_lt_of_le (Nat.lt_of_le_of_lt (Nat.le_trans h hD) (show 720 * 1000 ^ 6 < 2 ^ 100 by decide)) (Nat.pow_le_pow_right (by decide) (by decide))
  have hm := a.m6
  have e2 : ∀ (x : Int) (C : Nat), C ≤ 1000000000000 → x.natAbs ≤ (m + 1) * (V.DB m * C) → B 440 x := fun x C hC h => by
    have h1 : (m + 1) * (V.DB m * C) ≤ 7 * (720 * 1000 ^ 6 * 1000000000000) := Nat.mul_le_mul (by omega) (Nat.mul_le_mul hD hC)
    exact Nat.lt_of_lt_of_le (Nat.lt_of_le_of_lt (Nat.le_trans h h1) (show 7 * (720 * 1000 ^ 6 * 1000000000000) < 2 ^ 200 by decide)) (Nat.pow_le_pow_right (by decide) (by decide))
  have hc1 : ∀ j, (V.c1 m n j).natAbs ≤ 1 := fun j => by
    unfold V.c1
    split <;> decide
  exact ⟨e1 _ b1, fun i hi j hj => e1 _ (b2 i hi j (by omega)), fun j hj => e2 _ 1 (by decide) (V.crow_small (n := n) b1 (fun k hk => b2 k hk _ (by omega)) (hc1 _) fun k _ => hc1 _),
    fun j hj => e2 _ 1000000000000 (Nat.le_refl _) (V.crow_small (n := n) b1 (fun k hk => b2 k hk _ (by omega)) (a.hcc _) fun k _ => a.hcc _)⟩
end
end S
namespace S
open PySem T
abbrev hT : Ee := .cmp .gt (.v 1) (.k (.int 0))
end S
namespace S
open PySem T
def negI (xs : List Int) : List Int := xs.map fun x => -x
theorem range_getD {α : Type} (d : α) : ∀ xs : List α, (List.range xs.length).map (fun i => xs.getD i d) = xs
  | [] => rfl
  | x :: xs => by
    rw [List.length_cons, List.range_succ_eq_map, List.map_cons, List.map_map]
    show x :: (List.range xs.length).map (fun i => xs.getD i d) = _
    rw [range_getD d xs]
def two (fs : List (List Int)) : List (List Int) := fs ++ fs.map negI
theorem neg_bd {f : List Int} (h : ∀ x ∈ f, -1000 ≤ x ∧ x ≤ 1000) : ∀ x ∈ negI f, -1000 ≤ x ∧ x ≤ 1000 := fun x hx => by
  obtain ⟨y, hy, rfl⟩ := List.mem_map.mp hx
  have := h y hy
  omega
theorem negI_getD (f : List Int) (i : Nat) : (negI f).getD i 0 = -f.getD i 0 := by
  unfold negI
  rw [List.getD_eq_getElem?_getD, List.getElem?_map, List.getD_eq_getElem?_getD]
  cases f[i]? <;> rfl
structure ToldBy (fs : List (List Int)) (w : List Int) (z : Nat → Int) (s : Int) : Prop where
  sp : 0 < s
  sb : s.natAbs ≤ V.DB w.length
  zb : ∀ j, j < fs.length → (z j).natAbs ≤ V.DB w.length
  eq : ∀ i, i < w.length → (V.sumN fs.length fun j => z j * (fs.getD j []).getD i 0) = s * w.getD i 0
theorem dotI_sum : ∀ (f y : List Int), dotI f y = V.sumN f.length fun i => f.getD i 0 * y.getD i 0
  | [], y => dot_nil y
  | a :: f, [] => by
    rw [dot_nil2]
    exact (V.sumN_zero fun i _ => by
      show _ * 0 = 0
      exact Int.mul_zero _).symm
  | a :: f, b :: y => by
    have h1 : ∀ (n : Nat) (g : Nat → Int), V.sumN (n + 1) g = g 0 + V.sumN n fun i => g (i + 1) := fun n g => by
      induction n with
      | zero =>
        show 0 + g 0 = g 0 + 0
        omega
      | succ n ih =>
        rw [V.sumN, ih, V.sumN, Int.add_assoc]
    rw [dot_cons, dotI_sum f y, List.length_cons, h1]
    rfl
def Told (fs : List (List Int)) (w : List Int) : Prop := ∃ z s, ToldBy fs w z s
end S
namespace S
open PySem T
def dF (w : Nat) (r : List Int) (v : Nat → Int) : Int := V.sumN w fun i => r.getD i 0 * v i
structure PT (R w : Nat) (A B : List (List Int) × List (Nat × Nat)) (g : List Int) : Prop where
  rows : B.1 = A.1 ++ [g]
  spots : B.2 = A.2
  len : A.1.length = R
  wd : ∀ r ∈ A.1, r.length = w
  gw : g.length = w
  lt : ∀ s ∈ A.2, s.1 < R
  td : ∀ v : Nat → Int, (∀ r ∈ A.1, dF w r v = 0) → dF w g v = 0
  gz : ∀ s ∈ A.2, g.getD s.2 0 = 0
theorem ToldBy.dF {fs : List (List Int)} {w : List Int} {z : Nat → Int} {s : Int} (h : ToldBy fs w z s) : ∀ v : Nat → Int, (∀ r ∈ fs, S.dF w.length r v = 0) → S.dF w.length w v = 0 := fun v hv => by
  have e2 : s * S.dF w.length w v = V.sumN w.length fun i => (V.sumN fs.length fun j => z j * (fs.getD j []).getD i 0) * v i := by
    unfold S.dF
    rw [← V.sumN_mul]
    exact V.sumN_congr fun i hi => by rw [h.eq i hi, Int.mul_assoc]
  have c1 : (V.sumN w.length fun i => (V.sumN fs.length fun j => z j * (fs.getD j []).getD i 0) * v i) = V.sumN w.length fun i => V.sumN fs.length fun j => z j * (fs.getD j []).getD i 0 * v i := V.sumN_congr fun i _ => by
    rw [Int.mul_comm, ← V.sumN_mul]
    exact V.sumN_congr fun j _ => Int.mul_comm _ _
  rw [c1, V.sumN_comm, V.sumN_zero fun j hj => by
    have := hv _ (getD_mem' hj)
    unfold S.dF at this
    have e : (V.sumN w.length fun i => z j * (fs.getD j []).getD i 0 * v i) = z j * V.sumN w.length fun i => (fs.getD j []).getD i 0 * v i := by
      rw [← V.sumN_mul]
      exact V.sumN_congr fun i _ => Int.mul_assoc _ _ _
    rw [e, this, Int.mul_zero]] at e2
  rcases Int.mul_eq_zero.mp e2 with y | y
  · have := h.sp
    omega
  · exact y
end S
namespace S
open PySem T
def SIsName (F : FnS) : Prop := ∀ (w : Str) (μ : Sto), fits w.length = true → F [.str w] μ = .ok (.bl (writB w)) μ
theorem u_isName {Γ : Tb} (hl : Γ.gl 9 = .str "abcdefghijklmnopqrstuvwxyz") : SIsName (runD Γ Pg.f_is_name) := by
  intro w μ hf
  have e : runD Γ Pg.f_is_name [.str w] μ = finD false μ.length (exB Γ Pg.f_is_name.body [some (.str w), none] μ) := run_eq rfl
  rw [e]
  have hc := ev_compM (Γ := Γ) (ρ := [some (.str w), none]) (μ := μ) (melt := .cmp .isin (.v 1) (.g 9)) (mt := .nm 1) (ik := .plain) (mits := [.v 0]) (own := [1]) (xs := [.str w]) w.cps.toList (fun c => .str ⟨#[c]⟩) (fun c => .bl (decide (c ∈ ("abcdefghijklmnopqrstuvwxyz" : Str).cps.toList))) rfl (plain_str hf)
    (fun c hc => ⟨[some (.str w), some (.str ⟨#[c]⟩)], rfl, by
      simp only [hl, in_sign, evz]⟩)
  simp only [Pg.f_is_name, len_str hf, le_int, hc, all_map, evz]
  unfold writB
  cases decide (1 ≤ (w.length : Int)) with
  | false => simp
  | true => cases decide ((w.length : Int) ≤ 8) <;> simp
def SImgIn (F : FnS) : Prop := ∀ (w : Str) (names : List Str) (μ : Sto), asc w → (∀ x ∈ names, asc x) → F [.str w, .lst (names.map .str)] μ = .ok (imgD (imgF w names)) μ
theorem u_imgIn (Γ : Tb) : SImgIn (runD Γ Pg.f_image_in) := by
  intro w names μ hw hn
  have e : runD Γ Pg.f_image_in [.str w, .lst (names.map .str)] μ = finD false μ.length (exB Γ Pg.f_image_in.body [some (.str w), some (.lst (names.map .str)), none, none] μ) := run_eq rfl
  rw [e]
  have heq := eq_str (μ := μ) (hw.cut none (some 1)) asc_minus
  have hi1 := in_strs (μ := μ) (hw.cut (some 1) none) hn
  have hi2 := in_strs (μ := μ) hw hn
  have f2 : fits (0 + 1 + 1) = true := fits_small (by decide)
  by_cases h1 : L2.cutS w none (some 1) = ("-" : Str)
  · by_cases h2 : L2.cutS w (some 1) none ∈ names
    · have hx := index_strs (μ := μ) (hw.cut (some 1) none) hn h2
      simp only [Pg.f_image_in, sl_str hw, oI_no, oI_k, heq, decide_eq_true h1, f2, hi1, decide_eq_true h2, recv_lst, hx, evz]
      simp only [imgF, if_pos h1, if_pos h2]
      rfl
    · simp only [Pg.f_image_in, sl_str hw, oI_no, oI_k, heq, decide_eq_true h1, f2, hi1, decide_eq_false h2, recv_lst, evz]
      simp only [imgF, if_pos h1, if_neg h2]
      rfl
  · by_cases h2 : w ∈ names
    · have hx := index_strs (μ := μ) hw hn h2
      simp only [Pg.f_image_in, sl_str hw, oI_no, oI_k, heq, decide_eq_false h1, f2, hi2, decide_eq_true h2, recv_lst, hx, evz]
      simp only [imgF, if_neg h1, if_pos h2]
      rfl
    · simp only [Pg.f_image_in, sl_str hw, oI_no, oI_k, heq, decide_eq_false h1, f2, hi2, decide_eq_false h2, recv_lst, evz]
      simp only [imgF, if_neg h1, if_neg h2]
      rfl
def SAsc (F : FnS) : Prop := ∀ (ws : List Str) (μ : Sto), F [.lst (ws.map .str)] μ = .ok (.bl (risB ws)) μ
theorem ris_zip : ∀ ws : List Str, (ws.zip ws.tail).all (fun p => ltS p.1 p.2) = risB ws
  | [] => rfl
  | [a] => rfl
  | a :: b :: r => by
    rw [risB_cons, ← ris_zip (b :: r)]
    rfl
theorem sl_tailG {ds : List D} {μ : Sto} : slD (.lst ds) (some 1) none μ = .ok (.lst ds.tail) μ := by
  show R.ok (D.lst (cutG ds (some 1) none)) μ = _
  have h2 : HT.sIx ds.length ds.length none = ds.length := rfl
  congr 2
  unfold cutG
  cases ds with
  | nil => rfl
  | cons d ds =>
    have h1 : HT.sIx (d :: ds).length 0 (some 1) = 1 := by
      simp only [HT.sIx]
      rw [List.length_cons]
      simp
    rw [h1, h2, List.length_cons, Nat.add_sub_cancel]
    show ds.take ds.length = ds
    exact List.take_length
theorem u_asc {Γ : Tb} : SAsc (runD Γ Pg.f_are_ascending) := by
  intro ws μ
  have e : runD Γ Pg.f_are_ascending [.lst (ws.map .str)] μ = finD false μ.length (exB Γ Pg.f_are_ascending.body [some (.lst (ws.map .str)), none, none] μ) := run_eq rfl
  rw [e]
  have hev : evEs Γ [.v 0, .sl (.v 0) (.k (.int 1)) .no] [some (.lst (ws.map .str)), none, none] μ = .ok [.lst (ws.map .str), .lst (ws.map .str).tail] μ := by
    simp only [ev_sl, oI_no, oI_k, sl_tailG, evz]
  have hz : itemsOf .zip [.lst (ws.map .str), .lst (ws.map .str).tail] μ = some ((ws.zip ws.tail).map fun p => .tup [.str p.1, .str p.2], []) := by
    rw [zip_sq sq_lst sq_lst, ← List.map_tail, List.zipWith_map_left, List.zipWith_map_right]
    congr 2
    rw [List.zip, List.map_zipWith]
  have hc := ev_compM (Γ := Γ) (ρ := [some (.lst (ws.map .str)), none, none]) (μ := μ) (melt := .cmp .lt (.v 1) (.v 2)) (mt := .tp [.nm 1, .nm 2]) (ik := .zip) (mits := [.v 0, .sl (.v 0) (.k (.int 1)) .no]) (own := [1, 2]) (ws.zip ws.tail) (fun p => .tup [.str p.1, .str p.2]) (fun p => .bl (ltS p.1 p.2)) hev hz
    (fun p hp => ⟨[some (.lst (ws.map .str)), some (.str p.1), some (.str p.2)], rfl, by
      simp only [lt_str, evz]⟩)
  simp only [Pg.f_are_ascending, hc, all_map, ris_zip, evz]
theorem perm_range {n : Nat} {is : List Nat} (hd : is.Nodup) (hl : is.length = n) (hm : ∀ x ∈ is, x < n) : is.Perm (List.range n) := by
  refine (List.perm_ext_iff_of_nodup hd List.nodup_range).mpr fun k => ?_
  rw [List.mem_range]
  refine ⟨hm k, fun hk => Classical.byContradiction fun hn => ?_⟩
  have := nodup_lt n (k :: is) (List.nodup_cons.mpr ⟨hn, hd⟩) fun x hx => by
    rcases List.mem_cons.mp hx with rfl | hx
    · exact hk
    · exact hm x hx
  rw [List.length_cons] at this
  omega
theorem sorted_range {n : Nat} {is : List Nat} (h : is.Perm (List.range n)) {μ : Sto} : biD .sorted [.lst (is.map fun (k : Nat) => .int (k : Int))] μ = .ok (.lst ((List.range n).map fun (k : Nat) => .int (k : Int))) μ := by
  have hq : toPys (is.map fun (k : Nat) => D.int (k : Int)) = some (is.map fun (k : Nat) => PyData.int (k : Int)) := by
    have := toPys_nats is
    rw [List.map_map] at this
    exact this
  have h1 : alikes (is.map fun (k : Nat) => PyData.int (k : Int)) = true := by
    unfold alikes
    rw [List.all_eq_true]
    intro a ha
    rw [List.all_eq_true]
    intro b hb
    obtain ⟨x, _, rfl⟩ := List.mem_map.mp ha
    obtain ⟨y, _, rfl⟩ := List.mem_map.mp hb
    simp [PySem.W.alike]
  have h2 : sortableB (is.map fun (k : Nat) => PyData.int (k : Int)) = true := by
    unfold sortableB
    rw [Bool.or_eq_true]
    right
    rw [List.all_eq_true]
    intro a ha
    obtain ⟨x, _, rfl⟩ := List.mem_map.mp ha
    rfl
  have h3 : (is.map fun (k : Nat) => PyData.int (k : Int)).all (fun q => decide (q.depth ≤ 60)) = true := by
    rw [List.all_eq_true]
    intro a ha
    obtain ⟨x, _, rfl⟩ := List.mem_map.mp ha
    exact decide_eq_true (show 0 ≤ 60 by decide)
  have hs : biD .sorted [.lst (is.map fun (k : Nat) => .int (k : Int))] μ = .ok (.lst (sortD (is.map fun (k : Nat) => .int (k : Int)) (is.map fun (k : Nat) => PyData.int (k : Int)))) μ := by
    show (match lstOf μ (.lst (is.map fun (k : Nat) => D.int (k : Int))) with
      | some ds => (match toPys ds with
        | some qs => if alikes qs && sortableB qs && qs.all (fun q => decide (q.depth ≤ 60)) then R.ok (D.lst (sortD ds qs)) μ else R.bad
        | none => R.bad)
      | none => R.bad) = _
    simp only [lstOf, hq, h1, h2, h3, Bool.and_true, if_true]
  have hm : is.mergeSort (fun a b => decide (a ≤ b)) = List.range n := by
    refine List.Perm.eq_of_pairwise (le := fun a b => a ≤ b) (fun a b _ _ h1 h2 => Nat.le_antisymm h1 h2) ?_ ?_ ((List.mergeSort_perm _ _).trans h)
    · have := List.pairwise_mergeSort (le := fun (a b : Nat) => decide (a ≤ b)) (fun a b c h1 h2 => decide_eq_true (Nat.le_trans (of_decide_eq_true h1) (of_decide_eq_true h2))) (fun a b => by
        rw [Bool.or_eq_true, decide_eq_true_eq, decide_eq_true_eq]
        omega) is
      exact this.imp fun h => of_decide_eq_true h
    · rw [List.pairwise_iff_getElem]
      intro i j hi hj hij
      rw [List.getElem_range, List.getElem_range]
      omega
  have hk : sortD (is.map fun (k : Nat) => .int (k : Int)) (is.map fun (k : Nat) => PyData.int (k : Int)) = (is.mergeSort fun a b => decide (a ≤ b)).map fun (k : Nat) => D.int (k : Int) := by
    unfold sortD
    have hz : (is.map fun (k : Nat) => D.int (k : Int)).zip (is.map fun (k : Nat) => PyData.int (k : Int)) = is.map fun (k : Nat) => (D.int (k : Int), PyData.int (k : Int)) := by
      rw [List.zip_map']
    rw [hz, ← List.map_mergeSort (r := fun (a b : Nat) => decide (a ≤ b)) (s := PySem.W.dataLe false fun z : D × PyData => z.2) (f := fun (k : Nat) => (D.int (k : Int), PyData.int (k : Int))) fun a _ b _ => ?_, List.map_map]
    · rfl
    · have e1 := congrFun (congrFun (PySem.W.dataLe_int (fun k : Nat => (k : Int))) a) b
      show decide (a ≤ b) = PySem.W.dataLe false (fun k : Nat => PyData.int (k : Int)) a b
      rw [e1, decide_eq_decide]
      omega
  rw [hs, hk, hm]
end S
namespace S
open PySem T
theorem toPys_tups : ∀ {ds : List D} {qs : List PyData}, toPys ds = some qs → (∀ d ∈ ds, ∃ es, d = .tup es) → ∀ q ∈ qs, ∃ as, q = .tuple as
  | [], qs, h, _, q, hq => by
    cases h
    cases hq
  | d :: ds, qs, h, ht, q, hq => by
    obtain ⟨es, rfl⟩ := ht d (by simp)
    have h : (toPy (.tup es)).bind (fun a => (toPys ds).map (a :: ·)) = some qs := h
    have h1 : toPy (.tup es) = (toPys es).map .tuple := rfl
    rw [h1] at h
    cases h2 : toPys es with
    | none =>
      rw [h2] at h
      cases h
    | some as =>
      rw [h2] at h
      cases h3 : toPys ds with
      | none =>
        rw [h3] at h
        cases h
      | some rs =>
        rw [h3] at h
        have h : some (PyData.tuple as :: rs) = some qs := h
        cases h
        rcases List.mem_cons.mp hq with rfl | hq
        · exact ⟨as, rfl⟩
        · exact toPys_tups h3 (fun d hd => ht d (by simp [hd])) q hq
theorem in_nonT {ds : List D} (h : ∀ d ∈ ds, Pyo 60 d) (ht : ∀ d ∈ ds, ∃ es, d = .tup es) {μ : Sto} : cmpD .isin .non (.lst ds) μ = .ok (.bl false) μ := by
  obtain ⟨qs, k1, k2, k3, k4⟩ := pyos h
  have s1 : SeqAt.shaped (.list qs) = true := shaped_of k3 (by show PyData.depthAll qs + 1 ≤ 64; omega)
  have s2 : SeqAt.shaped .none = true := shaped_of rfl (by decide)
  have ha : (qs.any fun z => PyData.eqv z .none) = false := by
    rw [List.any_eq_false]
    intro q hq
    obtain ⟨as, rfl⟩ := toPys_tups k1 ht q hq
    exact Bool.false_ne_true
  have h3 : inB μ .non (.lst ds) = some false := by
    show (match some PyData.none, (toPys ds).map PyData.list with
      | some a, some (.list bs) => if SeqAt.shaped a && SeqAt.shaped (.list bs) then some (bs.any fun z => PyData.eqv z a) else none
      | _, _ => none) = _
    rw [k1]
    simp only [Option.map_some, s1, s2, Bool.and_true, if_true, ha]
  show (match inB μ .non (.lst ds) with
    | some b => R.ok (D.bl b) μ
    | none => .bad) = _
  rw [h3]
theorem eqLB_self (xs : List Int) : eqLB xs xs = true := by
  show PyData.eqvAll (xs.map .int) (xs.map .int) = true
  rw [eqv_ints, decide_eq_true_iff]
theorem ne_natsR {n : Nat} {μ : Sto} : cmpD .ne (.lst ((List.range n).map fun (k : Nat) => .int (k : Int))) (.lst ((List.range n).map fun (k : Nat) => .int (k : Int))) μ = .ok (.bl false) μ := by
  have e := eq_lI (xs := (List.range n).map fun (k : Nat) => (k : Int)) (ys := (List.range n).map fun (k : Nat) => (k : Int)) (μ := μ)
  have hx : lI ((List.range n).map fun (k : Nat) => (k : Int)) = .lst ((List.range n).map fun (k : Nat) => .int (k : Int)) := by
    unfold lI
    rw [List.map_map]
    rfl
  have hb : eqLB ((List.range n).map fun (k : Nat) => (k : Int)) ((List.range n).map fun (k : Nat) => (k : Int)) = true := eqLB_self _
  rw [hx, hb] at e
  generalize D.lst ((List.range n).map fun (k : Nat) => .int (k : Int)) = L at *
  have e : (match eqB μ L L with
    | some b => R.ok (D.bl b) μ
    | none => .bad) = R.ok (.bl true) μ := e
  show (match eqB μ L L with
    | some b => R.ok (D.bl (!b)) μ
    | none => .bad) = _
  cases hq : eqB μ L L with
  | none =>
    rw [hq] at e
    cases e
  | some b =>
    rw [hq] at e
    cases e
    rfl
abbrev imTu (im : Im) : D := .tup (im.map imD)
abbrev tuT (t : List Nat × Im) : D := .tup [.str (SX.S t.1), imTu t.2]
theorem pyo_im (q : Int × Nat) : Pyo 1 (imD q) := Pyo.tup fun d hd => by
  rcases List.mem_cons.mp hd with rfl | hd
  · exact pyo_int _
  · rw [List.mem_singleton] at hd
    subst hd
    exact pyo_int _
theorem split_co {p q : List Nat} (hp : 58 ∉ p) (hq : 58 ∉ q) : Txt.split (SX.S (p ++ ([58, 32] ++ q))) ": " = [SX.S p, SX.S q] := by
  rw [co_S, SX.split_S (by simp) (by decide), show p ++ ([58, 32] ++ q) = TL.joinL [58, 32] [p, q] from rfl, SX.spl_join (by simp) (fun r hr => by
    rcases List.mem_cons.mp hr with rfl | hr
    · exact hp
    · rw [List.mem_singleton] at hr
      subst hr
      exact hq)]
  rfl
section
variable {Γ : Tb} {d : Sch} {μ : Sto}
def STurnIn (F : FnS) : Prop := ∀ (d : Sch) (t : List Nat × Im) (μ : Sto), SchOk d → t ∈ d.ts → F [.str (SX.S (turnT d.ns t)), .lst (wsD d.ns)] μ = .ok (tuT t) μ
theorem wsD_S (ns : List (List Nat)) : wsD ns = (ns.map SX.S).map .str := by
  unfold wsD
  rw [List.map_map]
  rfl
theorem SchOk.ascP (h : SchOk d) : ∀ p ∈ Txt.split (SX.S (schT d)) "; ", asc p := (h.tx.asc.split "; ").1
theorem SchOk.ascN (h : SchOk d) : ∀ x ∈ d.ns.map SX.S, asc x := fun x hx => by
  have hp := h.ascP (SX.S (TL.joinL [32] d.ns)) (by rw [h.line]; simp)
  have := (hp.split " ").1 x
  rw [split_sp h.ne fun p hp => (h.nw p hp).no (by omega)] at this
  exact this hx
theorem SchOk.ascT (h : SchOk d) {t : List Nat × Im} (ht : t ∈ d.ts) : asc (SX.S (turnT d.ns t)) := h.ascP _ (by
  rw [h.line, List.mem_cons]
  exact .inr (List.mem_map.mpr ⟨t, ht, rfl⟩))
theorem SchOk.splT (h : SchOk d) {t : List Nat × Im} (ht : t ∈ d.ts) : Txt.split (SX.S (turnT d.ns t)) ": " = [SX.S t.1, SX.S (TL.joinL [32] (t.2.map (imT d.ns)))] := by
  unfold turnT
  refine split_co ((h.tw t ht).no (by omega)) fun hm => ?_
  rcases mem_joinL hm with hm | ⟨p, hp, hm⟩
  · simp at hm
  · obtain ⟨q, _, rfl⟩ := List.mem_map.mp hp
    exact imT_no h.nw q (by omega) (by omega) hm
theorem u_turnIn (hn : SIsName (Γ.fn 104)) (hi : SImgIn (Γ.fn 143)) : STurnIn (runD Γ Pg.f_turn_in) := by
  intro d t μ h ht
  have e : runD Γ Pg.f_turn_in [.str (SX.S (turnT d.ns t)), .lst (wsD d.ns)] μ = finD false μ.length (exB Γ Pg.f_turn_in.body (ETu (some (.str (SX.S (turnT d.ns t)))) (some (.lst (wsD d.ns))) none none none none none) μ) := run_eq rfl
  have hat := h.ascT ht
  have hsp := split_str (μ := μ) hat co_len
  rw [h.splT ht] at hsp
  have hpa := (hat.split ": ").1
  rw [h.splT ht] at hpa
  have a1 := hpa (SX.S t.1) (by simp)
  have a2 := hpa (SX.S (TL.joinL [32] (t.2.map (imT d.ns)))) (by simp)
  have hsp2 := split_str (μ := μ) a2 sp_len
  have hwn : wsD d.ns = (d.ns.map SX.S).map .str := wsD_S _
  have hnn := hn (SX.S t.1) μ a1.fits
  rw [(h.tw t ht).writ] at hnn
  have hin := in_strs (μ := μ) a1 h.ascN
  rw [← hwn, decide_eq_false (fun hm => h.tn t ht (S_mem.mp hm))] at hin
  have ln2 : biD .len [.lst [D.str (SX.S t.1), .str (SX.S (TL.joinL [32] (t.2.map (imT d.ns))))]] μ = .ok (.int 2) μ := rfl
  have i0 : ixD (.lst [D.str (SX.S t.1), .str (SX.S (TL.joinL [32] (t.2.map (imT d.ns))))]) (.int 0) μ = .ok (.str (SX.S t.1)) μ := rfl
  have i1 : ixD (.lst [D.str (SX.S t.1), .str (SX.S (TL.joinL [32] (t.2.map (imT d.ns))))]) (.int 1) μ = .ok (.str (SX.S (TL.joinL [32] (t.2.map (imT d.ns))))) μ := rfl
  generalize hX : SX.S (TL.joinL [32] (t.2.map (imT d.ns))) = X at *
  have him := h.imgs ht
  rw [hX] at him
  have him := allSome_some him
  have hmap : ((Txt.split X " ").map fun p => imgD (imgF p (d.ns.map SX.S))) = t.2.map imD := by
    have := congrArg (fun l => l.map imgD) him
    simp only [List.map_map] at this
    exact this
  rw [e]
  have n2 : cmpD .ne (.int 2) (.int 2) μ = .ok (.bl false) μ := (ne_int 2 2 μ).trans rfl
  have s1 : exS Γ (.asg (.nm 2) (.me .split (.v 0) [(.k (.str ": "))])) (ETu (some (.str (SX.S (turnT d.ns t)))) (some (.lst (wsD d.ns))) none none none none none) μ = .nx (ETu (some (.str (SX.S (turnT d.ns t)))) (some (.lst (wsD d.ns))) (some (.lst [D.str (SX.S t.1), .str X])) none none none none) μ := by
    simp only [recv_split, hsp, evz]
  have s2 : exS Γ (.ite (.or (.cmp .ne (.bi .len [(.v 2)]) (.k (.int 2))) (.or (.not (.call 104 [(.ix (.v 2) (.k (.int 0)))])) (.cmp .isin (.ix (.v 2) (.k (.int 0))) (.v 1)))) [(.ret (.k .non))] []) (ETu (some (.str (SX.S (turnT d.ns t)))) (some (.lst (wsD d.ns))) (some (.lst [D.str (SX.S t.1), .str X])) none none none none) μ = .nx (ETu (some (.str (SX.S (turnT d.ns t)))) (some (.lst (wsD d.ns))) (some (.lst [D.str (SX.S t.1), .str X])) none none none none) μ := by
    simp only [ln2, n2, i0, hnn, hin, evz]
  have hc1 := ev_compM (Γ := Γ) (ρ := ETu (some (.str (SX.S (turnT d.ns t)))) (some (.lst (wsD d.ns))) (some (.lst [D.str (SX.S t.1), .str X])) none none none none) (μ := μ) (melt := .call 143 [.v 4, .v 1]) (mt := .nm 4) (ik := .plain) (mits := [.me .split (.ix (.v 2) (.k (.int 1))) [.k (.str " ")]]) (own := [4]) (xs := [.lst ((Txt.split X " ").map .str)]) (Txt.split X " ") .str (fun p => imgD (imgF p (d.ns.map SX.S))) (by simp only [i1, recv_split, hsp2, evz]) rfl
    (fun p hp => by
      refine ⟨_, rfl, ?_⟩
      have h1 := hi p (d.ns.map SX.S) μ ((a2.split " ").1 p hp) h.ascN
      rw [← hwn] at h1
      show evE Γ _ (ETu (some (.str (SX.S (turnT d.ns t)))) (some (.lst (wsD d.ns))) (some (.lst [D.str (SX.S t.1), .str X])) none (some (.str p)) none none) μ = _
      simp only [h1, evz])
  rw [hmap] at hc1
  have s3 : exS Γ (.asg (.nm 3) (.comp false (.call 143 [(.v 4), (.v 1)]) (.nm 4) .plain [(.me .split (.ix (.v 2) (.k (.int 1))) [(.k (.str " "))])] [] [4])) (ETu (some (.str (SX.S (turnT d.ns t)))) (some (.lst (wsD d.ns))) (some (.lst [D.str (SX.S t.1), .str X])) none none none none) μ = .nx (ETu (some (.str (SX.S (turnT d.ns t)))) (some (.lst (wsD d.ns))) (some (.lst [D.str (SX.S t.1), .str X])) (some (.lst (t.2.map imD))) none none none) μ := by
    rw [ex_asg, hc1, R.thenF_ok, set_nm]
    rfl
  have hno := in_nonT (ds := t.2.map imD) (μ := μ) (fun x hx => by
    obtain ⟨q, _, rfl⟩ := List.mem_map.mp hx
    exact (pyo_im q).mono (by decide)) fun x hx => by
    obtain ⟨q, _, rfl⟩ := List.mem_map.mp hx
    exact ⟨_, rfl⟩
  have hc2 := ev_compM (Γ := Γ) (ρ := ETu (some (.str (SX.S (turnT d.ns t)))) (some (.lst (wsD d.ns))) (some (.lst [D.str (SX.S t.1), .str X])) (some (.lst (t.2.map imD))) none none none) (μ := μ) (melt := .v 6) (mt := .tp [.nm 5, .nm 6]) (ik := .plain) (mits := [.v 3]) (own := [5, 6]) (xs := [.lst (t.2.map imD)]) t.2 imD (fun q => .int (q.2 : Int)) rfl rfl fun q hq => ⟨_, rfl, rfl⟩
  have hpm := perm_range (n := d.ns.length) (is := t.2.map (·.2)) (h.ind t ht) (by rw [List.length_map]; exact h.il t ht) fun x hx => by
    obtain ⟨q, hq, rfl⟩ := List.mem_map.mp hx
    exact (h.is t ht q hq).2
  have hso := sorted_range hpm (μ := μ)
  rw [List.map_map] at hso
  have hso : biD .sorted [.lst (t.2.map fun q => .int (q.2 : Int))] μ = .ok (.lst ((List.range d.ns.length).map fun (k : Nat) => .int (k : Int))) μ := hso
  have hll : biD .len [.lst (wsD d.ns)] μ = .ok (.int (d.ns.length : Int)) μ := by
    rw [hwn]
    show R.ok (D.int (((d.ns.map SX.S).map D.str).length : Int)) μ = _
    rw [List.length_map, List.length_map]
  have hra : biD .range1 [.int (d.ns.length : Int)] μ = .ok (.lst ((List.range d.ns.length).map fun (k : Nat) => .int (k : Int))) μ := by
    show (if (decide (0 ≤ (d.ns.length : Int)) && fits (d.ns.length : Int).toNat) = true then R.ok (D.lst ((List.range (d.ns.length : Int).toNat).map fun (i : Nat) => .int (i : Int))) μ else .bad) = _
    rw [if_pos (by rw [Bool.and_eq_true]; exact ⟨decide_eq_true (by omega), fits_small (by rw [Int.toNat_natCast]; have := h.n6; omega)⟩), Int.toNat_natCast]
  have hne := ne_natsR (n := d.ns.length) (μ := μ)
  have s4 : exS Γ (.ite (.or (.cmp .isin (.k .non) (.v 3)) (.cmp .ne (.bi .sorted [(.comp false (.v 6) (.tp [(.nm 5), (.nm 6)]) .plain [(.v 3)] [] [5, 6])]) (.bi .range1 [(.bi .len [(.v 1)])]))) [(.ret (.k .non))] []) (ETu (some (.str (SX.S (turnT d.ns t)))) (some (.lst (wsD d.ns))) (some (.lst [D.str (SX.S t.1), .str X])) (some (.lst (t.2.map imD))) none none none) μ = .nx (ETu (some (.str (SX.S (turnT d.ns t)))) (some (.lst (wsD d.ns))) (some (.lst [D.str (SX.S t.1), .str X])) (some (.lst (t.2.map imD))) none none none) μ := by
    simp only [hno, hc2, hso, hll, hra, hne, evz]
  have f2 : fits (0 + 1 + 1) = true := fits_small (by decide)
  have s5 : evE Γ (.tup [(.ix (.v 2) (.k (.int 0))), (.bi .tuple [(.v 3)])]) (ETu (some (.str (SX.S (turnT d.ns t)))) (some (.lst (wsD d.ns))) (some (.lst [D.str (SX.S t.1), .str X])) (some (.lst (t.2.map imD))) none none none) μ = .ok (tuT t) μ := by
    have hb : biD .tuple [.lst (t.2.map imD)] μ = .ok (.tup (t.2.map imD)) μ := rfl
    simp only [i0, hb, f2, evz]
  rw [show Pg.f_turn_in.body = [.asg (.nm 2) (.me .split (.v 0) [(.k (.str ": "))]), .ite (.or (.cmp .ne (.bi .len [(.v 2)]) (.k (.int 2))) (.or (.not (.call 104 [(.ix (.v 2) (.k (.int 0)))])) (.cmp .isin (.ix (.v 2) (.k (.int 0))) (.v 1)))) [(.ret (.k .non))] [], .asg (.nm 3) (.comp false (.call 143 [(.v 4), (.v 1)]) (.nm 4) .plain [(.me .split (.ix (.v 2) (.k (.int 1))) [(.k (.str " "))])] [] [4]), .ite (.or (.cmp .isin (.k .non) (.v 3)) (.cmp .ne (.bi .sorted [(.comp false (.v 6) (.tp [(.nm 5), (.nm 6)]) .plain [(.v 3)] [] [5, 6])]) (.bi .range1 [(.bi .len [(.v 1)])]))) [(.ret (.k .non))] [], .ret (.tup [(.ix (.v 2) (.k (.int 0))), (.bi .tuple [(.v 3)])])] from rfl, st_go s1 (st_go s2 (st_go s3 (st_go s4 (ret_go s5)))), fin_rt, leave_same]
end
end S
namespace S
open PySem T
abbrev E8u (a b c d e f g h : Option D) : T.Env := [a, b, c, d, e, f, g, h]
structure GQ (Γ : Tb) : Prop where
  written : Γ.at_ 1 "written" = true
  labels : Γ.at_ 1 "labels" = true
  moves : Γ.at_ 1 "moves" = true
def SSchemeIn (F : FnS) : Prop := ∀ (d : Sch) (μ : Sto), SchOk d → F [.str (SX.S (schT d))] μ = .ok (.tup [.tup (wsD d.ns), .lst (d.ts.map tuT)]) μ
section
variable {Γ : Tb} {d : Sch} {μ : Sto}
theorem pyo_tuT {t : List Nat × Im} (h : asc (SX.S t.1)) : Pyo 60 (tuT t) := Pyo.mono (Pyo.tup (n := 2) fun x hx => by
  rcases List.mem_cons.mp hx with rfl | hx
  · exact (pyo_str h).mono (by decide)
  · rw [List.mem_singleton] at hx
    subst hx
    exact Pyo.tup fun y hy => by
      obtain ⟨q, _, rfl⟩ := List.mem_map.mp hy
      exact pyo_im q) (by decide)
theorem SchOk.ascW (h : SchOk d) {t : List Nat × Im} (ht : t ∈ d.ts) : asc (SX.S t.1) := by
  have hpa := ((h.ascT ht).split ": ").1
  rw [h.splT ht] at hpa
  exact hpa _ (by simp)
theorem u_schemeIn (h2 : Γ.gl 2 = .int 6) (h3 : Γ.gl 3 = .int 4) (hn : SIsName (Γ.fn 104)) (ha : SAsc (Γ.fn 145)) (ht : STurnIn (Γ.fn 144)) : SSchemeIn (runD Γ Pg.f_scheme_in) := by
  intro d μ h
  have e : runD Γ Pg.f_scheme_in [.str (SX.S (schT d))] μ = finD false μ.length (exB Γ Pg.f_scheme_in.body (E8u (some (.str (SX.S (schT d)))) none none none none none none none) μ) := run_eq rfl
  have hsp := split_str (μ := μ) h.tx.asc se_len
  rw [h.line] at hsp
  have hps : ((SX.S (TL.joinL [32] d.ns) :: d.ts.map fun t => SX.S (turnT d.ns t)).map D.str) = .str (SX.S (TL.joinL [32] d.ns)) :: d.ts.map fun t => .str (SX.S (turnT d.ns t)) := by
    rw [List.map_cons, List.map_map]
    rfl
  rw [hps] at hsp
  have a0 : asc (SX.S (TL.joinL [32] d.ns)) := h.ascP _ (by rw [h.line]; simp)
  have hsp2 := split_str (μ := μ) a0 sp_len
  rw [split_sp h.ne fun p hp => (h.nw p hp).no (by omega), ← wsD_S] at hsp2
  generalize hP : (D.str (SX.S (TL.joinL [32] d.ns)) :: d.ts.map fun t => D.str (SX.S (turnT d.ns t))) = P at *
  have i0 : ixD (.lst P) (.int 0) μ = .ok (.str (SX.S (TL.joinL [32] d.ns))) μ := by
    rw [← hps]
    exact ix_strs (ws := SX.S (TL.joinL [32] d.ns) :: d.ts.map fun t => SX.S (turnT d.ns t)) (k := 0) (by simp)
  have st : slD (.lst P) (some 1) none μ = .ok (.lst (d.ts.map fun t => .str (SX.S (turnT d.ns t)))) μ := by
    rw [sl_tailG, ← hP]
    rfl
  have ty1 : biD (.isty "str") [.str (SX.S (schT d))] μ = .ok (.bl true) μ := rfl
  have s1 : exS Γ (.asg (.nm 1) (.ife (.bi (.isty "str") [(.v 0)]) (.me .split (.v 0) [(.k (.str "; "))]) (.lst [(.k (.str ""))]))) (E8u (some (.str (SX.S (schT d)))) none none none none none none none) μ = .nx (E8u (some (.str (SX.S (schT d)))) (some (.lst P)) none none none none none none) μ := by
    simp only [ty1, recv_split, hsp, evz]
  have s2 : exS Γ (.asg (.nm 2) (.me .split (.ix (.v 1) (.k (.int 0))) [(.k (.str " "))])) (E8u (some (.str (SX.S (schT d)))) (some (.lst P)) none none none none none none) μ = .nx (E8u (some (.str (SX.S (schT d)))) (some (.lst P)) (some (.lst (wsD d.ns))) none none none none none) μ := by
    simp only [i0, recv_split, hsp2, evz]
  have hll : biD .len [.lst (wsD d.ns)] μ = .ok (.int (d.ns.length : Int)) μ := by
    show R.ok (D.int ((wsD d.ns).length : Int)) μ = _
    unfold wsD
    rw [List.length_map]
  have d6 : decide (6 < (d.ns.length : Int)) = false := decide_eq_false (by have := h.n6; omega)
  have hc1 := ev_compM (Γ := Γ) (ρ := E8u (some (.str (SX.S (schT d)))) (some (.lst P)) (some (.lst (wsD d.ns))) none none none none none) (μ := μ) (melt := .call 104 [.v 5]) (mt := .nm 5) (ik := .plain) (mits := [.v 2]) (own := [5]) (xs := [.lst (wsD d.ns)]) d.ns (fun n => .str (SX.S n)) (fun n => .bl ((fun _ => true) n)) rfl rfl
    (fun n hm => by
      refine ⟨_, rfl, ?_⟩
      have h1 := hn (SX.S n) μ (h.ascN _ (List.mem_map.mpr ⟨n, hm, rfl⟩)).fits
      rw [(h.nw n hm).writ] at h1
      show evE Γ _ (E8u (some (.str (SX.S (schT d)))) (some (.lst P)) (some (.lst (wsD d.ns))) none none (some (.str (SX.S n))) none none) μ = _
      simp only [h1, evz])
  have hall := all_map (fun _ : List Nat => true) d.ns μ
  have hat : (d.ns.all fun _ => true) = true := by simp
  rw [hat] at hall
  have hasc := ha (d.ns.map SX.S) μ
  rw [← wsD_S, h.nr] at hasc
  have s3 : exS Γ (.ite (.or (.cmp .gt (.bi .len [(.v 2)]) (.g 2)) (.or (.not (.bi .all [(.comp false (.call 104 [(.v 5)]) (.nm 5) .plain [(.v 2)] [] [5])])) (.not (.call 145 [(.v 2)])))) [(.ret (.k .non))] []) (E8u (some (.str (SX.S (schT d)))) (some (.lst P)) (some (.lst (wsD d.ns))) none none none none none) μ = .nx (E8u (some (.str (SX.S (schT d)))) (some (.lst P)) (some (.lst (wsD d.ns))) none none none none none) μ := by
    simp only [hll, h2, gt_int, d6, hc1, hall, hasc, evz]
  have hc2 := ev_compM (Γ := Γ) (ρ := E8u (some (.str (SX.S (schT d)))) (some (.lst P)) (some (.lst (wsD d.ns))) none none none none none) (μ := μ) (melt := .call 144 [.v 4, .v 2]) (mt := .nm 4) (ik := .plain) (mits := [.sl (.v 1) (.k (.int 1)) .no]) (own := [4]) (xs := [.lst (d.ts.map fun t => .str (SX.S (turnT d.ns t)))]) d.ts (fun t => .str (SX.S (turnT d.ns t))) tuT (by simp only [ev_sl, oI_no, oI_k, st, evz]) rfl
    (fun t hm => by
      refine ⟨_, rfl, ?_⟩
      have h1 := ht d t μ h hm
      show evE Γ _ (E8u (some (.str (SX.S (schT d)))) (some (.lst P)) (some (.lst (wsD d.ns))) none (some (.str (SX.S (turnT d.ns t)))) none none none) μ = _
      simp only [h1, evz])
  have s4 : exS Γ (.asg (.nm 3) (.comp false (.call 144 [(.v 4), (.v 2)]) (.nm 4) .plain [(.sl (.v 1) (.k (.int 1)) .no)] [] [4])) (E8u (some (.str (SX.S (schT d)))) (some (.lst P)) (some (.lst (wsD d.ns))) none none none none none) μ = .nx (E8u (some (.str (SX.S (schT d)))) (some (.lst P)) (some (.lst (wsD d.ns))) (some (.lst (d.ts.map tuT))) none none none none) μ := by
    rw [ex_asg, hc2, R.thenF_ok, set_nm]
    rfl
  have hno := in_nonT (ds := d.ts.map tuT) (μ := μ) (fun x hx => by
    obtain ⟨t, ht, rfl⟩ := List.mem_map.mp hx
    exact pyo_tuT (h.ascW ht)) fun x hx => by
    obtain ⟨q, _, rfl⟩ := List.mem_map.mp hx
    exact ⟨_, rfl⟩
  have hl2 : biD .len [.lst (d.ts.map tuT)] μ = .ok (.int (d.ts.length : Int)) μ := by
    show R.ok (D.int ((d.ts.map tuT).length : Int)) μ = _
    rw [List.length_map]
  have d4 : decide (4 < (d.ts.length : Int)) = false := decide_eq_false (by have := h.t4; omega)
  have hc3 := ev_compM (Γ := Γ) (ρ := E8u (some (.str (SX.S (schT d)))) (some (.lst P)) (some (.lst (wsD d.ns))) (some (.lst (d.ts.map tuT))) none none none none) (μ := μ) (melt := .v 6) (mt := .tp [.nm 6, .nm 7]) (ik := .plain) (mits := [.v 3]) (own := [6, 7]) (xs := [.lst (d.ts.map tuT)]) d.ts tuT (fun t => .str (SX.S t.1)) rfl rfl fun t hm => ⟨_, rfl, rfl⟩
  have hasc2 := ha (d.ts.map fun t => SX.S t.1) μ
  rw [h.tr, List.map_map] at hasc2
  have hasc2 : Γ.fn 145 [.lst (d.ts.map fun t => .str (SX.S t.1))] μ = .ok (.bl true) μ := hasc2
  have s5 : exS Γ (.ite (.or (.cmp .isin (.k .non) (.v 3)) (.or (.cmp .gt (.bi .len [(.v 3)]) (.g 3)) (.not (.call 145 [(.comp false (.v 6) (.tp [(.nm 6), (.nm 7)]) .plain [(.v 3)] [] [6, 7])])))) [(.ret (.k .non))] []) (E8u (some (.str (SX.S (schT d)))) (some (.lst P)) (some (.lst (wsD d.ns))) (some (.lst (d.ts.map tuT))) none none none none) μ = .nx (E8u (some (.str (SX.S (schT d)))) (some (.lst P)) (some (.lst (wsD d.ns))) (some (.lst (d.ts.map tuT))) none none none none) μ := by
    simp only [hno, hl2, h3, gt_int, d4, hc3, hasc2, evz]
  have f2 : fits (0 + 1 + 1) = true := fits_small (by decide)
  have s6 : evE Γ (.tup [(.bi .tuple [(.v 2)]), (.v 3)]) (E8u (some (.str (SX.S (schT d)))) (some (.lst P)) (some (.lst (wsD d.ns))) (some (.lst (d.ts.map tuT))) none none none none) μ = .ok (.tup [.tup (wsD d.ns), .lst (d.ts.map tuT)]) μ := by
    have hb : biD .tuple [.lst (wsD d.ns)] μ = .ok (.tup (wsD d.ns)) μ := rfl
    simp only [hb, f2, evz]
  rw [e, show Pg.f_scheme_in.body = [.asg (.nm 1) (.ife (.bi (.isty "str") [(.v 0)]) (.me .split (.v 0) [(.k (.str "; "))]) (.lst [(.k (.str ""))])), .asg (.nm 2) (.me .split (.ix (.v 1) (.k (.int 0))) [(.k (.str " "))]), .ite (.or (.cmp .gt (.bi .len [(.v 2)]) (.g 2)) (.or (.not (.bi .all [(.comp false (.call 104 [(.v 5)]) (.nm 5) .plain [(.v 2)] [] [5])])) (.not (.call 145 [(.v 2)])))) [(.ret (.k .non))] [], .asg (.nm 3) (.comp false (.call 144 [(.v 4), (.v 2)]) (.nm 4) .plain [(.sl (.v 1) (.k (.int 1)) .no)] [] [4]), .ite (.or (.cmp .isin (.k .non) (.v 3)) (.or (.cmp .gt (.bi .len [(.v 3)]) (.g 3)) (.not (.call 145 [(.comp false (.v 6) (.tp [(.nm 6), (.nm 7)]) .plain [(.v 3)] [] [6, 7])])))) [(.ret (.k .non))] [], .ret (.tup [(.bi .tuple [(.v 2)]), (.v 3)])] from rfl, st_go s1 (st_go s2 (st_go s3 (st_go s4 (st_go s5 (ret_go s6))))), fin_rt, leave_same]
abbrev qF : List Str := ["written", "labels", "moves"]
abbrev scD (d : Sch) : D := .ins 1 qF [.str (SX.S (schT d)), .tup (wsD d.ns), .lst (d.ts.map tuT)]
def SIniQ (F : FnS) : Prop := ∀ (d : Sch) (μ : Sto), SchOk d → F [.cell μ.length, .str (SX.S (schT d))] (μ ++ [.ins 1 [] []]) = .ok .non (μ ++ [.ins 1 qF [.str (SX.S (schT d)), .tup (wsD d.ns), .lst (d.ts.map tuT)]])
theorem setQ {f : Str} (h : Γ.at_ 1 f = true) {fs : List Str} {ds : List D} {d : D} {μ : Sto} (hl : fs.length < 1000) : setFldD Γ.at_ (.cell μ.length) f d (μ ++ [.ins 1 fs ds]) = some (μ ++ [.ins 1 (putL f d fs ds).1 (putL f d fs ds).2]) := by
  have hc : (Γ.at_ 1 f && decide (fs.length < 1000)) = true := by rw [h, decide_eq_true hl]; rfl
  simp only [setFldD, cell_last, hc, if_true, List.set_append_right _ _ (Nat.le_refl _), Nat.sub_self, List.set_cons_zero]
theorem u_iniQ (g : GQ Γ) (hi : SSchemeIn (Γ.fn 146)) : SIniQ (runD Γ Pg.f_Scheme___init__) := by
  intro d μ h
  have e : runD Γ Pg.f_Scheme___init__ [.cell μ.length, .str (SX.S (schT d))] (μ ++ [.ins 1 [] []]) = finD false (μ ++ [Cell.ins 1 [] []]).length (exB Γ Pg.f_Scheme___init__.body (ETd (some (.cell μ.length)) (some (.str (SX.S (schT d)))) none) (μ ++ [.ins 1 [] []])) := run_eq rfl
  have h1 := hi d (μ ++ [.ins 1 [] []]) h
  generalize hR : D.tup [.tup (wsD d.ns), .lst (d.ts.map tuT)] = R1 at *
  have s1 : exS Γ (.asg (.nm 2) (.call 146 [(.v 1)])) (ETd (some (.cell μ.length)) (some (.str (SX.S (schT d)))) none) (μ ++ [.ins 1 [] []]) = .nx (ETd (some (.cell μ.length)) (some (.str (SX.S (schT d)))) (some R1)) (μ ++ [.ins 1 [] []]) := by
    simp only [h1, evz]
  have s2 : exS Γ (.ite (.cmp .is_ (.v 2) (.k .non)) [.bad] []) (ETd (some (.cell μ.length)) (some (.str (SX.S (schT d)))) (some R1)) (μ ++ [.ins 1 [] []]) = .nx (ETd (some (.cell μ.length)) (some (.str (SX.S (schT d)))) (some R1)) (μ ++ [.ins 1 [] []]) := by
    rw [← hR]
    rfl
  have q1 := setQ (μ := μ) g.written (fs := []) (ds := []) (d := .str (SX.S (schT d))) (by decide)
  have q2 := setQ (μ := μ) g.labels (fs := ["written"]) (ds := [.str (SX.S (schT d))]) (d := .tup (wsD d.ns)) (by show 1 < 1000; decide)
  have q3 := setQ (μ := μ) g.moves (fs := ["written", "labels"]) (ds := [.str (SX.S (schT d)), .tup (wsD d.ns)]) (d := .lst (d.ts.map tuT)) (by show 2 < 1000; decide)
  have q1 : setFldD Γ.at_ (.cell μ.length) "written" (.str (SX.S (schT d))) (μ ++ [.ins 1 [] []]) = some (μ ++ [.ins 1 ["written"] [.str (SX.S (schT d))]]) := q1
  have q2 : setFldD Γ.at_ (.cell μ.length) "labels" (.tup (wsD d.ns)) (μ ++ [.ins 1 ["written"] [.str (SX.S (schT d))]]) = some (μ ++ [.ins 1 ["written", "labels"] [.str (SX.S (schT d)), .tup (wsD d.ns)]]) := q2
  have q3 : setFldD Γ.at_ (.cell μ.length) "moves" (.lst (d.ts.map tuT)) (μ ++ [.ins 1 ["written", "labels"] [.str (SX.S (schT d)), .tup (wsD d.ns)]]) = some (μ ++ [.ins 1 qF [.str (SX.S (schT d)), .tup (wsD d.ns), .lst (d.ts.map tuT)]]) := q3
  have s3 : exS Γ (.fld (.v 0) "written" (.v 1)) (ETd (some (.cell μ.length)) (some (.str (SX.S (schT d)))) (some R1)) (μ ++ [.ins 1 [] []]) = .nx (ETd (some (.cell μ.length)) (some (.str (SX.S (schT d)))) (some R1)) (μ ++ [.ins 1 ["written"] [.str (SX.S (schT d))]]) := by
    simp only [ex_fld, q1, setFK, evz]
  have s4 : exS Γ (.asg (.tp [(.at (.v 0) "labels"), (.at (.v 0) "moves")]) (.v 2)) (ETd (some (.cell μ.length)) (some (.str (SX.S (schT d)))) (some R1)) (μ ++ [.ins 1 ["written"] [.str (SX.S (schT d))]]) = .nx (ETd (some (.cell μ.length)) (some (.str (SX.S (schT d)))) (some R1)) (μ ++ [.ins 1 qF [.str (SX.S (schT d)), .tup (wsD d.ns), .lst (d.ts.map tuT)]]) := by
    have at1 : ∀ (f : Str) (x : D) (ν ν' : Sto), setFldD Γ.at_ (.cell μ.length) f x ν = some ν' → setT Γ (.at (.v 0) f) x (ETd (some (.cell μ.length)) (some (.str (SX.S (schT d)))) (some R1)) ν = .nx (ETd (some (.cell μ.length)) (some (.str (SX.S (schT d)))) (some R1)) ν' := fun f x ν ν' hq => by
      show (match setFldD Γ.at_ (.cell μ.length) f x ν with
        | some μ2 => F.nx _ μ2
        | none => .bad) = _
      rw [hq]
    have hv : evE Γ (.v 2) (ETd (some (.cell μ.length)) (some (.str (SX.S (schT d)))) (some R1)) (μ ++ [.ins 1 ["written"] [.str (SX.S (schT d))]]) = .ok (.tup [.tup (wsD d.ns), .lst (d.ts.map tuT)]) (μ ++ [.ins 1 ["written"] [.str (SX.S (schT d))]]) := by
      rw [hR]
      rfl
    rw [ex_asg, hv, R.thenF_ok, set_tp, if_pos (show [D.tup (wsD d.ns), D.lst (d.ts.map tuT)].length = [Tgt.at (Ee.v 0) "labels", Tgt.at (Ee.v 0) "moves"].length from rfl), sets_cons, at1 _ _ _ _ q2, F.then_nx, sets_cons, at1 _ _ _ _ q3, F.then_nx, sets_nil]
  have e2 : exB Γ Pg.f_Scheme___init__.body (ETd (some (.cell μ.length)) (some (.str (SX.S (schT d)))) none) (μ ++ [.ins 1 [] []]) = .nx (ETd (some (.cell μ.length)) (some (.str (SX.S (schT d)))) (some R1)) (μ ++ [.ins 1 qF [.str (SX.S (schT d)), .tup (wsD d.ns), .lst (d.ts.map tuT)]]) := st_go s1 (st_go s2 (st_go s3 (st_go s4 exb_nil)))
  rw [e, e2, fin_nx]
  unfold leave
  rw [if_pos (by simp)]
theorem pl_tuT (t : List Nat × Im) : pl (tuT t) = true := by
  show (true && (pls (t.2.map imD) && true)) = true
  rw [pls_all (ds := t.2.map imD) fun x hx => by
    obtain ⟨q, _, rfl⟩ := List.mem_map.mp hx
    rfl]
  rfl
theorem pl_wsD (ns : List (List Nat)) : pls (wsD ns) = true := pls_all fun x hx => by
  obtain ⟨q, _, rfl⟩ := List.mem_map.mp hx
  rfl
theorem mk_scheme {Fi : FnS} (hi : SIniQ Fi) (h : SchOk d) (hμ : Wf μ) : mkD Fi 1 [.str (SX.S (schT d))] μ = .ok (scD d) μ := by
  unfold mkD
  rw [hi d μ h]
  simp only
  unfold leave
  rw [if_neg (by simp), List.take_left, if_pos (show μ.all (belowC μ.length) = true from hμ)]
  have hb : belows μ.length [.str (SX.S (schT d)), .tup (wsD d.ns), .lst (d.ts.map tuT)] = true := pls_below _ _ (by
    show (true && (pls (wsD d.ns) && (pls (d.ts.map tuT) && true))) = true
    rw [pl_wsD, pls_all (ds := d.ts.map tuT) fun x hx => by
      obtain ⟨q, _, rfl⟩ := List.mem_map.mp hx
      exact pl_tuT q]
    rfl)
  have : thaw μ.length (μ ++ [.ins 1 qF [.str (SX.S (schT d)), .tup (wsD d.ns), .lst (d.ts.map tuT)]]) (.cell μ.length) = some (scD d) := by
    simp only [thaw, Nat.lt_irrefl, if_false, cell_last, hb, if_true]
  simp only [this]
theorem fld_labels (g : GQ Γ) : fldD Γ.at_ (scD d) "labels" μ = .ok (.tup (wsD d.ns)) μ := by
  show (if Γ.at_ 1 "labels" = true then _ else _) = _
  rw [if_pos g.labels]
  rfl
def SChkS (F : FnS) : Prop := ∀ (d : Sch) (μ : Sto), F [scD d] μ = .ok .non μ
theorem u_chkS (hc : Γ.isc 1 1 = some true) : SChkS (runD Γ Pg.f_check_scheme) := by
  intro d μ
  have e : runD Γ Pg.f_check_scheme [scD d] μ = finD false μ.length (exB Γ Pg.f_check_scheme.body [some (scD d)] μ) := run_eq rfl
  have hi : isiOf Γ (scD d) 1 μ = some true := hc
  have s : exS Γ (.ite (.not (.isi (.v 0) 1)) [.bad] []) [some (scD d)] μ = .nx [some (scD d)] μ := by
    simp only [ev_isi, hi, evz]
  rw [e, show Pg.f_check_scheme.body = [.ite (.not (.isi (.v 0) 1)) [.bad] []] from rfl, st_go s exb_nil, fin_nx]
  exact leave_same
def SBetw (F : FnS) : Prop := ∀ (i a b : Int) (μ : Sto), F [.int i, .int a, .int b] μ = .ok (.bl (decide (a ≤ i) && decide (i ≤ b))) μ
def SIsInt (F : FnS) : Prop := ∀ (i : Int) (μ : Sto), F [.int i] μ = .ok (.bl true) μ
theorem u_isInt : SIsInt (runD Γ Pg.f_is_integer) := by
  intro i μ
  have e : runD Γ Pg.f_is_integer [.int i] μ = finD false μ.length (exB Γ Pg.f_is_integer.body [some (.int i)] μ) := run_eq rfl
  rw [e]
  simp only [Pg.f_is_integer, evz]
  try exact leave_same
theorem u_betw (h : SIsInt (Γ.fn 102)) : SBetw (runD Γ Pg.f_is_between) := by
  intro i a b μ
  have e : runD Γ Pg.f_is_between [.int i, .int a, .int b] μ = finD false μ.length (exB Γ Pg.f_is_between.body [some (.int i), some (.int a), some (.int b)] μ) := run_eq rfl
  have h1 := h i μ
  have s : evE Γ (.and (.call 102 [(.v 0)]) (.cmp2 .le .le (.v 1) (.v 0) (.v 2))) [some (.int i), some (.int a), some (.int b)] μ = .ok (.bl (decide (a ≤ i) && decide (i ≤ b))) μ := by
    simp only [h1, le_int, evz]
  rw [e, show Pg.f_is_between.body = [.ret (.and (.call 102 [(.v 0)]) (.cmp2 .le .le (.v 1) (.v 0) (.v 2)))] from rfl, ret_go s, fin_rt, leave_same]
def fmOk (n : Nat) (f : List Int) : Prop := f.length = n ∧ ∀ x ∈ f, -1000 ≤ x ∧ x ≤ 1000
def SIsForm (F : FnS) : Prop := ∀ (d : Sch) (f : List Int) (μ : Sto), fmOk d.ns.length f → F [scD d, tI f] μ = .ok (.bl true) μ
theorem u_isForm (g : GQ Γ) (h4 : Γ.gl 4 = .int 1000) (hb : SBetw (Γ.fn 103)) : SIsForm (runD Γ Pg.f_is_form) := by
  intro d f μ hf
  have e : runD Γ Pg.f_is_form [scD d, tI f] μ = finD false μ.length (exB Γ Pg.f_is_form.body (ETd (some (scD d)) (some (tI f)) none) μ) := run_eq rfl
  have l1 := fld_labels (d := d) (μ := μ) g
  have l2 := len_tI (xs := f) (μ := μ)
  have l3 : biD .len [.tup (wsD d.ns)] μ = .ok (.int (d.ns.length : Int)) μ := by
    show R.ok (D.int ((wsD d.ns).length : Int)) μ = _
    unfold wsD
    rw [List.length_map]
  have dl : decide ((f.length : Int) = (d.ns.length : Int)) = true := decide_eq_true (by rw [hf.1])
  have ty1 : biD (.isty "tuple") [tI f] μ = .ok (.bl true) μ := rfl
  have s1 : exS Γ (.ite (.or (.not (.bi (.isty "tuple") [(.v 1)])) (.cmp .ne (.bi .len [(.v 1)]) (.bi .len [(.fld (.v 0) "labels")]))) [(.ret (.k (.bl false)))] []) (ETd (some (scD d)) (some (tI f)) none) μ = .nx (ETd (some (scD d)) (some (tI f)) none) μ := by
    simp only [ty1, l1, l2, l3, ne_int, dl, evz]
  have hc := ev_compM (Γ := Γ) (ρ := ETd (some (scD d)) (some (tI f)) none) (μ := μ) (melt := .call 103 [(.v 2), (.neg (.g 4)), (.g 4)]) (mt := .nm 2) (ik := .plain) (mits := [.v 1]) (own := [2]) (xs := [tI f]) f D.int (fun x => .bl ((fun _ => true) x)) rfl rfl fun x hx => by
    refine ⟨_, rfl, ?_⟩
    have h1 := hb x (-1000) 1000 μ
    obtain ⟨a1, a2⟩ := hf.2 x hx
    rw [decide_eq_true a1, decide_eq_true a2] at h1
    show evE Γ _ (ETd (some (scD d)) (some (tI f)) (some (.int x))) μ = _
    simp only [h4, h1, evz]
    rfl
  have hall := all_map (fun _ : Int => true) f μ
  have hat : (f.all fun _ => true) = true := by simp
  rw [hat] at hall
  have s2 : evE Γ (.bi .all [(.comp false (.call 103 [(.v 2), (.neg (.g 4)), (.g 4)]) (.nm 2) .plain [(.v 1)] [] [2])]) (ETd (some (scD d)) (some (tI f)) none) μ = .ok (.bl true) μ := by
    rw [ev_bi, evs_cons, hc, R.bind_ok, evs_nil, R.bind_ok, R.bind_ok]
    exact hall
  rw [e, show Pg.f_is_form.body = [.ite (.or (.not (.bi (.isty "tuple") [(.v 1)])) (.cmp .ne (.bi .len [(.v 1)]) (.bi .len [(.fld (.v 0) "labels")]))) [(.ret (.k (.bl false)))] [], .ret (.bi .all [(.comp false (.call 103 [(.v 2), (.neg (.g 4)), (.g 4)]) (.nm 2) .plain [(.v 1)] [] [2])])] from rfl, st_go s1 (ret_go s2), fin_rt, leave_same]
def SChkF (F : FnS) : Prop := ∀ (d : Sch) (f : List Int) (μ : Sto), fmOk d.ns.length f → F [scD d, tI f] μ = .ok .non μ
theorem u_chkF (hf : SIsForm (Γ.fn 156)) : SChkF (runD Γ Pg.f_check_form) := by
  intro d f μ h
  have e : runD Γ Pg.f_check_form [scD d, tI f] μ = finD false μ.length (exB Γ Pg.f_check_form.body [some (scD d), some (tI f)] μ) := run_eq rfl
  have h1 := hf d f μ h
  have s : exS Γ (.ite (.not (.call 156 [(.v 0), (.v 1)])) [.bad] []) [some (scD d), some (tI f)] μ = .nx [some (scD d), some (tI f)] μ := by
    simp only [h1, evz]
  rw [e, show Pg.f_check_form.body = [.ite (.not (.call 156 [(.v 0), (.v 1)])) [.bad] []] from rfl, st_go s exb_nil, fin_nx]
  exact leave_same
end
end S
namespace S
open PySem T
section
variable {Γ : Tb} {d : Sch} {μ : Sto}
theorem SchOk.n1 (h : SchOk d) : 0 < d.ns.length := List.length_pos_iff.mpr h.ne
end
end S
namespace S
open PySem T
mutual
def shB : D → Bool
  | .non => true
  | .bl _ => true
  | .int i => decide (i.natAbs.log2 < 600)
  | .str x => x.cps.toList.all fun c => decide (c < 128)
  | .tup ds => shBs ds
  | .lst ds => shBs ds
  | _ => false
def shBs : List D → Bool
  | [] => true
  | d :: ds => shB d && shBs ds
end
mutual
def wl : D → Nat
  | .int _ => 601
  | .str x => 10 * x.length + 2
  | .tup ds => wls ds + 3
  | .lst ds => wls ds + 3
  | _ => 5
def wls : List D → Nat
  | [] => 0
  | d :: ds => wl d + 2 + wls ds
end
mutual
def dpt : D → Nat
  | .tup ds => dpts ds + 1
  | .lst ds => dpts ds + 1
  | _ => 0
def dpts : List D → Nat
  | [] => 0
  | d :: ds => max (dpt d) (dpts ds)
end
def uni (s : Str) : Prop := ∀ c ∈ s.cps.toList, c < 1114112
structure Shw (d : D) (q : PyData) : Prop where
  py : toPy d = some q
  sh : q.showable = true
  nd : q.hasDict = false
  un : uni q.shown
  ln : q.shown.length ≤ wl d
  dp : q.depth ≤ dpt d
structure Shws (ds : List D) (qs : List PyData) : Prop where
  py : toPys ds = some qs
  sh : PyData.showableAll qs = true
  nd : PyData.hasDictAll qs = false
  un : ∀ t ∈ PyData.shownAll qs, uni t
  ln : ((PyData.shownAll qs).map (·.length)).sum + 2 * (PyData.shownAll qs).length ≤ wls ds
  dp : PyData.depthAll qs ≤ dpts ds
theorem uni_app {a b : Str} (ha : uni a) (hb : uni b) : uni (a ++ b) := fun c hc => by
  rcases PyProof.Rows.mem_cps_append.mp hc with h | h
  · exact ha c h
  · exact hb c h
theorem uni_from : ∀ (ts : List Str) (k : Nat) (acc : Str), uni acc → (∀ t ∈ ts, uni t) → uni (textFrom k acc ts)
  | [], k, acc, h, _ => h
  | t :: ts, k, acc, h, ht => uni_from ts (k + 1) _ (uni_app (uni_app h (by
      split
      · exact fun c hc => by
          have k : ∀ c ∈ (", " : Str).cps.toList, c < 1114112 := by decide +kernel
          exact k c hc
      · exact fun c hc => by
          have k : ∀ c ∈ ("" : Str).cps.toList, c < 1114112 := by decide +kernel
          exact k c hc)) (ht t (by simp))) fun u hu => ht u (by simp [hu])
theorem uni_list {ts : List Str} (h : ∀ t ∈ ts, uni t) : uni (listText ts) := by
  have h1 : uni ("[" : Str) := by unfold uni; decide +kernel
  have h2 : uni ("]" : Str) := by unfold uni; decide +kernel
  exact uni_app (uni_from ts 0 _ h1 h) h2
theorem uni_tuple {ts : List Str} (h : ∀ t ∈ ts, uni t) : uni (tupleText ts) := by
  have h1 : uni ("(" : Str) := by unfold uni; decide +kernel
  have h2 : uni (")" : Str) := by unfold uni; decide +kernel
  have h3 : uni (",)" : Str) := by unfold uni; decide +kernel
  have h4 : uni (", " : Str) := by unfold uni; decide +kernel
  unfold tupleText
  refine uni_app (uni_app h1 fun c hc => ?_) (by split; exact h3; exact h2)
  rcases (PyProof.Rows.mem_join _ _ _).mp hc with ⟨t, ht, hc⟩ | ⟨_, hc⟩
  · exact h t ht c hc
  · exact h4 c hc
theorem chr_uni : ∀ c : Fin 128, (∀ z ∈ Builtin.Str.reprChar 39 c.1, z < 1114112) ∧ ∀ z ∈ Builtin.Str.reprChar 34 c.1, z < 1114112 := by decide +kernel
theorem quote_of (x : Str) : reprQuote x = 39 ∨ reprQuote x = 34 := by
  unfold reprQuote
  split
  · exact .inr rfl
  · exact .inl rfl
theorem uni_repr {x : Str} (h : ∀ c ∈ x.cps.toList, c < 128) : uni (reprText x) := by
  have key : ∀ (l : List Nat) (q : Nat) (acc : Array Nat), (q = 39 ∨ q = 34) → (∀ c ∈ l, c < 128) → (∀ c ∈ acc.toList, c < 1114112) → ∀ c ∈ (l.foldl (fun out c => out ++ (Builtin.Str.reprChar q c).toArray) acc).toList, c < 1114112 := by
    intro l
    induction l with
    | nil => exact fun q acc _ _ ha => ha
    | cons c l ih =>
      intro q acc hq hl ha
      rw [List.foldl_cons]
      refine ih q _ hq (fun d hd => hl d (by simp [hd])) fun z hz => ?_
      rw [Array.toList_append, List.mem_append] at hz
      rcases hz with hz | hz
      · exact ha z hz
      · have hz : z ∈ Builtin.Str.reprChar q c := by simpa using hz
        have hc := chr_uni ⟨c, hl c (by simp)⟩
        rcases hq with rfl | rfl
        · exact hc.1 z hz
        · exact hc.2 z hz
  intro c hc
  have hq := quote_of x
  have hc : c ∈ ((x.cps.foldl (fun out c => out ++ (Builtin.Str.reprChar (reprQuote x) c).toArray) #[reprQuote x]).push (reprQuote x)).toList := hc
  have hb : reprQuote x < 1114112 := by rcases hq with e | e <;> rw [e] <;> decide
  rw [Array.toList_push, List.mem_append] at hc
  rcases hc with hc | hc
  · rw [← Array.foldl_toList] at hc
    exact key x.cps.toList (reprQuote x) #[reprQuote x] hq h (fun z hz => by
      have hz : z = reprQuote x := by simpa using hz
      rw [hz]
      exact hb) c hc
  · have hc : c = reprQuote x := by simpa using hc
    rw [hc]
    exact hb
theorem uni_int (i : Int) : uni (PyData.shown (.int i)) := fun c hc => Classical.byContradiction fun hn => PyProof.Rows.shown_int_free' (k := c) ⟨by omega, .inr (by omega)⟩ i hc
mutual
theorem sh_ok : ∀ d : D, shB d = true → ∃ q, Shw d q
  | .non, _ => ⟨.none, rfl, rfl, rfl, by unfold uni; decide +kernel, by decide +kernel, Nat.le_refl _⟩
  | .bl b, _ => ⟨.bool b, rfl, rfl, rfl, by cases b <;> (unfold uni; decide +kernel), by cases b <;> decide +kernel, Nat.le_refl _⟩
  | .int i, h => by
    have hl : i.natAbs.log2 < 600 := of_decide_eq_true h
    refine ⟨.int i, rfl, decide_eq_true (by omega), rfl, uni_int i, ?_, Nat.le_refl _⟩
    have h1 := int_text_length_le (a := i) (k := 600) (by decide) hl
    show (Str.ofString (toString i)).length ≤ 601
    rw [ofString_length]
    exact h1
  | .str x, h => by
    have hx : ∀ c ∈ x.cps.toList, c < 128 := fun c hc => of_decide_eq_true (List.all_eq_true.mp h c hc)
    refine ⟨.str x, rfl, rfl, rfl, uni_repr hx, StrLaws.reprText_len x fun c hc => ?_, Nat.le_refl _⟩
    have := hx c hc
    have : (128 : Nat) < 16 ^ 8 := by decide
    omega
  | .tup ds, h => by
    obtain ⟨qs, g⟩ := shs_ok ds h
    refine ⟨.tuple qs, ?_, ?_, ?_, ?_, ?_, ?_⟩
    · show (toPys ds).map PyData.tuple = _
      rw [g.py]
      rfl
    · show PyData.showableAll qs = true
      exact g.sh
    · show PyData.hasDictAll qs = false
      exact g.nd
    · show uni (tupleText (PyData.shownAll qs))
      exact uni_tuple g.un
    · show (tupleText (PyData.shownAll qs)).length ≤ wls ds + 3
      have := tupleText_len_le (PyData.shownAll qs)
      have := g.ln
      omega
    · show PyData.depthAll qs + 1 ≤ dpts ds + 1
      have := g.dp
      omega
  | .lst ds, h => by
    obtain ⟨qs, g⟩ := shs_ok ds h
    refine ⟨.list qs, ?_, ?_, ?_, ?_, ?_, ?_⟩
    · show (toPys ds).map PyData.list = _
      rw [g.py]
      rfl
    · show PyData.showableAll qs = true
      exact g.sh
    · show PyData.hasDictAll qs = false
      exact g.nd
    · show uni (listText (PyData.shownAll qs))
      exact uni_list g.un
    · show (listText (PyData.shownAll qs)).length ≤ wls ds + 3
      have := listText_len_le (PyData.shownAll qs)
      have := g.ln
      omega
    · show PyData.depthAll qs + 1 ≤ dpts ds + 1
      have := g.dp
      omega
  | .fro _, h => by cases h
  | .dic _ _, h => by cases h
  | .wdic _ _, h => by cases h
  | .ins _ _ _, h => by cases h
  | .cell _, h => by cases h
  | .cls _, h => by cases h
theorem shs_ok : ∀ ds : List D, shBs ds = true → ∃ qs, Shws ds qs
  | [], _ => ⟨[], rfl, rfl, rfl, fun t ht => (by cases ht), Nat.le_refl _, Nat.le_refl _⟩
  | d :: ds, h => by
    have h : (shB d && shBs ds) = true := h
    rw [Bool.and_eq_true] at h
    obtain ⟨q, a⟩ := sh_ok d h.1
    obtain ⟨qs, b⟩ := shs_ok ds h.2
    refine ⟨q :: qs, ?_, ?_, ?_, ?_, ?_, ?_⟩
    · show (toPy d).bind (fun x => (toPys ds).map (x :: ·)) = _
      rw [a.py, b.py]
      rfl
    · show (q.showable && PyData.showableAll qs) = true
      rw [a.sh, b.sh]
      rfl
    · show (q.hasDict || PyData.hasDictAll qs) = false
      rw [a.nd, b.nd]
      rfl
    · intro t ht
      have ht : t ∈ q.shown :: PyData.shownAll qs := ht
      rcases List.mem_cons.mp ht with rfl | ht
      · exact a.un
      · exact b.un t ht
    · have h1 := a.ln
      have h2 := b.ln
      show ((q.shown :: PyData.shownAll qs).map (·.length)).sum + 2 * (q.shown :: PyData.shownAll qs).length ≤ wl d + 2 + wls ds
      simp only [List.map_cons, List.sum_cons, List.length_cons]
      omega
    · have h1 := a.dp
      have h2 := b.dp
      show max q.depth (PyData.depthAll qs) ≤ max (dpt d) (dpts ds)
      omega
end
end S
namespace S
open PySem T
def rdOk (n : Nat) (r : Rd) : Prop := fmOk n r.1 ∧ -mv ≤ r.2.1 ∧ r.2.1 ≤ r.2.2 ∧ r.2.2 ≤ mv
section
variable {Γ : Tb} {d : Sch} {μ : Sto} {rs : List Rd}
theorem enum_map {α : Type} (a : α) (f : α → D) (xs : List α) : itemsOf .enum [.tup (xs.map f)] μ = some ((List.range xs.length).map fun (i : Nat) => .tup [.int (i : Int), f (xs.getD i a)], []) := by
  show some ((List.range (xs.map f).length).zipWith (fun (i : Nat) d => D.tup [.int (i : Int), d]) (xs.map f), []) = _
  rw [List.length_map]
  congr 2
  conv => lhs; rw [← range_getD a xs]
  rw [List.map_map, List.zipWith_map_right, List.length_map, List.length_range]
  generalize List.range xs.length = l
  induction l with
  | nil => rfl
  | cons x l ih => rw [List.zipWith_cons_cons, List.map_cons, ih]; rfl
theorem getD_memG {α : Type} {xs : List α} {a : α} {i : Nat} (h : i < xs.length) : xs.getD i a ∈ xs := by
  rw [List.getD_eq_getElem?_getD, List.getElem?_eq_getElem h]
  exact List.getElem_mem h
end
end S
namespace S
open PySem T
def rd0 : Rd := ([], 0, 0)
structure AskB (rs : List Rd) (w : List Int) : Prop where
  m0 : 0 < w.length
  m6 : w.length ≤ 6
  n30 : rs.length ≤ 30
  rl : ∀ r ∈ rs, rdOk w.length r
  wl : ∀ x ∈ w, -1000 ≤ x ∧ x ≤ 1000
structure BoundBy (rs : List Rd) (w : List Int) (a y : Nat → Int) (s : Int) : Prop where
  sp : 0 < s
  sb : s.natAbs ≤ V.DB w.length
  ab : ∀ j, j < 2 * rs.length → (a j).natAbs ≤ V.DB w.length
  nn : ∀ j, 0 ≤ a j
  yb : ∀ i, i < w.length → (y i).natAbs ≤ (w.length + 1) * (V.DB w.length * 1000000000000)
  goal : ∀ i, i < w.length → (V.sumN rs.length fun j => (a j - a (j + rs.length)) * (rs.getD j rd0).1.getD i 0) = s * w.getD i 0
  lo : ∀ j, j < rs.length → s * (rs.getD j rd0).2.1 ≤ V.sumN w.length fun i => y i * (rs.getD j rd0).1.getD i 0
  hi : ∀ j, j < rs.length → (V.sumN w.length fun i => y i * (rs.getD j rd0).1.getD i 0) ≤ s * (rs.getD j rd0).2.2
  eq : (V.sumN w.length fun i => y i * w.getD i 0) = V.sumN rs.length fun j => a j * (rs.getD j rd0).2.2 - a (j + rs.length) * (rs.getD j rd0).2.1
structure EndBy (rs : List Rd) (m : Nat) (z : Nat → Int) : Prop where
  zb : ∀ j, j < 2 * rs.length → (z j).natAbs ≤ V.DB m
  nn : ∀ j, 0 ≤ z j
  goal : ∀ i, i < m → (V.sumN rs.length fun j => (z j - z (j + rs.length)) * (rs.getD j rd0).1.getD i 0) = 0
  cost : (V.sumN rs.length fun j => z j * (rs.getD j rd0).2.2 - z (j + rs.length) * (rs.getD j rd0).2.1) < 0
section
variable {Γ : Tb} {μ : Sto}
def meetsQ (rs : List Rd) (n : Nat) (x : Nat → Rat) : Prop := ∀ r ∈ rs, ((r.2.1 : Int) : Rat) ≤ ap n r.1 x ∧ ap n r.1 x ≤ ((r.2.2 : Int) : Rat)
theorem sm_sumI (n : Nat) (g : Nat → Int) : sm (List.range n) (fun j => (g j : Rat)) = ((V.sumN n g : Int) : Rat) := by
  have happ : ∀ (l : List Nat) (x : Nat) (h : Nat → Rat), sm (l ++ [x]) h = sm l h + h x := fun l x h => by
    induction l with
    | nil =>
      show h x + 0 = 0 + h x
      grind
    | cons a l ih2 =>
      show h a + sm (l ++ [x]) h = h a + sm l h + h x
      rw [ih2]
      grind
  induction n with
  | zero => rfl
  | succ n ih =>
    rw [List.range_succ, happ, ih]
    show _ = ((V.sumN n g + g n : Int) : Rat)
    push_cast
    rfl
theorem le_divQ {a b c : Rat} (h : 0 < c) : a ≤ b / c ↔ a * c ≤ b := by
  have hc : c ≠ 0 := fun z => by
    rw [z] at h
    exact absurd h (by decide)
  have e : b = b / c * c := by grind
  constructor
  · intro hab
    rw [e]
    exact Rat.mul_le_mul_of_nonneg_right hab (Rat.le_of_lt h)
  · intro hab
    refine Classical.byContradiction fun hn => ?_
    have hn : b / c < a := Rat.not_le.mp hn
    have := Rat.mul_lt_mul_of_pos_right hn h
    rw [← e] at this
    exact absurd hab (Rat.not_le.mpr this)
theorem div_leQ {a b c : Rat} (h : 0 < c) : b / c ≤ a ↔ b ≤ a * c := by
  have hc : c ≠ 0 := fun z => by
    rw [z] at h
    exact absurd h (by decide)
  have e : b = b / c * c := by grind
  constructor
  · intro hab
    rw [e]
    exact Rat.mul_le_mul_of_nonneg_right hab (Rat.le_of_lt h)
  · intro hab
    refine Classical.byContradiction fun hn => ?_
    have hn : a < b / c := Rat.not_le.mp hn
    have := Rat.mul_lt_mul_of_pos_right hn h
    rw [← e] at this
    exact absurd hab (Rat.not_le.mpr this)
def ptY (y : Nat → Int) (s : Int) (i : Nat) : Rat := (y i : Rat) / (s : Rat)
theorem ap_ptY {n : Nat} {f : List Int} {y : Nat → Int} {s : Int} (hs : s ≠ 0) : ap n f (ptY y s) = ((V.sumN n fun i => y i * f.getD i 0 : Int) : Rat) / (s : Rat) := by
  have h0 : (s : Rat) ≠ 0 := by exact_mod_cast hs
  have e : ap n f (ptY y s) = sm (List.range n) fun i => (1 / (s : Rat)) * ((y i * f.getD i 0 : Int) : Rat) := sm_congr fun i _ => by
    unfold ptY
    push_cast
    grind
  rw [e, sm_mul, sm_sumI]
  grind
theorem BoundBy.meets {rs : List Rd} {w : List Int} {a y : Nat → Int} {s : Int} (h : BoundBy rs w a y s) : meetsQ rs w.length (ptY y s) := fun r hr => by
  obtain ⟨j, hj, e⟩ := List.getElem_of_mem hr
  have er : rs.getD j rd0 = r := by
    rw [List.getD_eq_getElem?_getD, List.getElem?_eq_getElem hj, e]
    rfl
  have hs : s ≠ 0 := by
    have := h.sp
    omega
  have h0 : (0 : Rat) < (s : Rat) := by exact_mod_cast h.sp
  have hl := h.lo j hj
  have hh := h.hi j hj
  rw [er] at hl hh
  rw [ap_ptY hs]
  have hl : ((s * r.2.1 : Int) : Rat) ≤ ((V.sumN w.length fun i => y i * r.1.getD i 0 : Int) : Rat) := by exact_mod_cast hl
  have hh : ((V.sumN w.length fun i => y i * r.1.getD i 0 : Int) : Rat) ≤ ((s * r.2.2 : Int) : Rat) := by exact_mod_cast hh
  push_cast at hl hh
  constructor
  · rw [le_divQ h0, Rat.mul_comm]
    exact hl
  · rw [div_leQ h0, Rat.mul_comm]
    exact hh
theorem two_sided {rs : List Rd} {m : Nat} {a : Nat → Int} (hn : ∀ j, 0 ≤ a j) {x : Nat → Rat} (hx : meetsQ rs m x) {T : Nat → Int} (hT : ∀ i, i < m → (V.sumN rs.length fun j => (a j - a (j + rs.length)) * (rs.getD j rd0).1.getD i 0) = T i) :
    sm (List.range m) (fun i => (T i : Rat) * x i) ≤ ((V.sumN rs.length fun j => a j * (rs.getD j rd0).2.2 - a (j + rs.length) * (rs.getD j rd0).2.1 : Int) : Rat) := by
  have e1 : sm (List.range m) (fun i => (T i : Rat) * x i) = sm (List.range rs.length) fun j => ((a j - a (j + rs.length) : Int) : Rat) * ap m (rs.getD j rd0).1 x := by
    have e2 : sm (List.range m) (fun i => (T i : Rat) * x i) = sm (List.range m) fun i => sm (List.range rs.length) fun j => (((a j - a (j + rs.length)) * (rs.getD j rd0).1.getD i 0 : Int) : Rat) * x i := sm_congr fun i hi => by
      rw [← hT i (List.mem_range.mp hi), ← sm_sumI, Rat.mul_comm, ← sm_mul]
      exact sm_congr fun j _ => Rat.mul_comm _ _
    rw [e2, sm_comm]
    exact sm_congr fun j _ => by
      unfold ap
      rw [← sm_mul]
      exact sm_congr fun i _ => by
        push_cast
        grind
  rw [e1, ← sm_sumI]
  refine sm_le fun j hj => ?_
  have hj := List.mem_range.mp hj
  obtain ⟨h1, h2⟩ := hx _ (getD_memG (a := rd0) hj)
  have n1 : (0 : Rat) ≤ (a j : Rat) := by exact_mod_cast hn j
  have n2 : (0 : Rat) ≤ (a (j + rs.length) : Rat) := by exact_mod_cast hn (j + rs.length)
  have m1 := rat_mul_le n1 h2
  have m2 := rat_mul_le n2 h1
  push_cast
  grind
theorem EndBy.none {rs : List Rd} {m : Nat} {z : Nat → Int} (h : EndBy rs m z) {x : Nat → Rat} (hx : meetsQ rs m x) : False := by
  have := two_sided h.nn hx (T := fun _ => 0) fun i hi => h.goal i hi
  have e : sm (List.range m) (fun i => (((0 : Int)) : Rat) * x i) = 0 := by
    rw [← sm_zero (List.range m)]
    exact sm_congr fun i _ => by
      push_cast
      grind
  rw [e] at this
  have hc := h.cost
  have hc : ((V.sumN rs.length fun j => z j * (rs.getD j rd0).2.2 - z (j + rs.length) * (rs.getD j rd0).2.1 : Int) : Rat) < 0 := by exact_mod_cast hc
  grind
theorem BoundBy.most {rs : List Rd} {w : List Int} {a y : Nat → Int} {s : Int} (h : BoundBy rs w a y s) {x : Nat → Rat} (hx : meetsQ rs w.length x) : ap w.length w x ≤ ap w.length w (ptY y s) := by
  have hs : s ≠ 0 := by
    have := h.sp
    omega
  have h0 : (0 : Rat) < (s : Rat) := by exact_mod_cast h.sp
  have t := two_sided h.nn hx (T := fun i => s * w.getD i 0) h.goal
  rw [← h.eq] at t
  rw [ap_ptY hs, le_divQ h0]
  have e : ap w.length w x * (s : Rat) = sm (List.range w.length) fun i => ((s * w.getD i 0 : Int) : Rat) * x i := by
    unfold ap
    rw [Rat.mul_comm, ← sm_mul]
    exact sm_congr fun i _ => by
      push_cast
      grind
  rw [e]
  exact t
end
end S
namespace S
open PySem T
def topOf (w : List Int) (y : Nat → Int) : Int := V.sumN w.length fun i => y i * w.getD i 0
section
variable {Γ : Tb} {μ : Sto}
theorem negI_len (w : List Int) : (negI w).length = w.length := List.length_map _
theorem AskB.neg {rs : List Rd} {w : List Int} (a : AskB rs w) : AskB rs (negI w) := ⟨by rw [negI_len]; exact a.m0, by rw [negI_len]; exact a.m6, a.n30, by rw [negI_len]; exact a.rl, neg_bd a.wl⟩
theorem Told.neg {fs : List (List Int)} {w : List Int} (h : Told fs w) : Told fs (negI w) := by
  obtain ⟨z, s, h⟩ := h
  refine ⟨fun j => -z j, s, h.sp, by rw [negI_len]; exact h.sb, fun j hj => by rw [negI_len, Int.natAbs_neg]; exact h.zb j hj, fun i hi => ?_⟩
  rw [negI_len] at hi
  rw [negI_getD, Int.mul_neg, ← h.eq i hi, ← Int.neg_one_mul, ← V.sumN_mul]
  exact V.sumN_congr fun j _ => by rw [Int.neg_mul, Int.neg_one_mul]
end
end S
namespace S
open PySem T
end S
namespace S
open PySem T
section
variable {rs : List Rd} {w : List Int} {a y : Nat → Int} {s : Int}
structure LowQ (rs : List Rd) (w : List Int) (p : Int × Int) : Prop where
  pos : 0 < p.2
  co : Int.gcd p.1 p.2 = 1
  ex : ∃ x, meetsQ rs w.length x ∧ ap w.length w x = vq p
  le : ∀ x, meetsQ rs w.length x → vq p ≤ ap w.length w x
theorem ap_neg (n : Nat) (w : List Int) (x : Nat → Rat) : ap n (negI w) x = -ap n w x := by
  have e : ap n (negI w) x = sm (List.range n) fun k => (-1 : Rat) * (((w.getD k 0 : Int) : Rat) * x k) := sm_congr fun k _ => by
    rw [negI_getD]
    push_cast
    grind
  rw [e, sm_mul]
  show (-1 : Rat) * ap n w x = _
  grind
theorem ap_top (hs : s ≠ 0) : ap w.length w (ptY y s) = vq (redF (topOf w y) s) := by
  rw [ap_ptY hs, (red_ok hs).2.2]
  rfl
theorem meets_n {n m : Nat} {x : Nat → Rat} (h : n = m) (hx : meetsQ rs n x) : meetsQ rs m x := h ▸ hx
theorem BoundBy.low (h : BoundBy rs (negI w) a y s) : LowQ rs w (redF (topOf w y) s) := by
  have hs : s ≠ 0 := by
    have := h.sp
    omega
  refine ⟨(red_ok hs).1, (red_ok hs).2.1, ⟨ptY y s, meets_n (negI_len w) h.meets, ap_top hs⟩, fun x hx => ?_⟩
  have := h.most (meets_n (negI_len w).symm hx)
  rw [negI_len, ap_neg, ap_neg] at this
  rw [← ap_top hs]
  grind
end
end S
namespace S
open PySem T
mutual
theorem eqv_self : ∀ d : D, shB d = true → ∀ q, toPy d = some q → PyData.eqv q q = true ∧ PyData.canLay0 q = true
  | .non, _, q, h => by cases h; exact ⟨rfl, rfl⟩
  | .bl b, _, q, h => by cases h; exact ⟨by cases b <;> rfl, rfl⟩
  | .int i, _, q, h => by
    cases h
    exact ⟨by
      show (i == i) = true
      exact beq_self_eq_true i, rfl⟩
  | .str x, hs, q, h => by
    cases h
    refine ⟨by
      show (x == x) = true
      exact beq_self_eq_true x, ?_⟩
    show PyData.strOk x = true
    unfold PyData.strOk
    rw [← Array.all_toList, List.all_eq_true]
    intro c hc
    have := of_decide_eq_true (List.all_eq_true.mp hs c hc)
    exact decide_eq_true (by omega)
  | .tup ds, hs, q, h => by
    have h : (toPys ds).map PyData.tuple = some q := h
    cases h1 : toPys ds with
    | none =>
      rw [h1] at h
      cases h
    | some qs =>
      rw [h1] at h
      cases h
      exact eqvs_self ds hs qs h1
  | .lst ds, hs, q, h => by
    have h : (toPys ds).map PyData.list = some q := h
    cases h1 : toPys ds with
    | none =>
      rw [h1] at h
      cases h
    | some qs =>
      rw [h1] at h
      cases h
      exact eqvs_self ds hs qs h1
  | .fro _, h, _, _ => by cases h
  | .dic _ _, h, _, _ => by cases h
  | .wdic _ _, h, _, _ => by cases h
  | .ins _ _ _, h, _, _ => by cases h
  | .cell _, h, _, _ => by cases h
  | .cls _, h, _, _ => by cases h
theorem eqvs_self : ∀ ds : List D, shBs ds = true → ∀ qs, toPys ds = some qs → PyData.eqvAll qs qs = true ∧ PyData.canLayAll0 qs = true
  | [], _, qs, h => by cases h; exact ⟨rfl, rfl⟩
  | d :: ds, hs, qs, h => by
    have hs : (shB d && shBs ds) = true := hs
    rw [Bool.and_eq_true] at hs
    have h : (toPy d).bind (fun x => (toPys ds).map (x :: ·)) = some qs := h
    cases h1 : toPy d with
    | none =>
      rw [h1] at h
      cases h
    | some q =>
      rw [h1, Option.bind_some] at h
      cases h2 : toPys ds with
      | none =>
        rw [h2] at h
        cases h
      | some rs =>
        rw [h2] at h
        cases h
        obtain ⟨a1, a2⟩ := eqv_self d hs.1 q h1
        obtain ⟨b1, b2⟩ := eqvs_self ds hs.2 rs h2
        constructor
        · show (PyData.eqv q q && PyData.eqvAll rs rs) = true
          rw [a1, b1]
          rfl
        · show (PyData.canLay0 q && PyData.canLayAll0 rs) = true
          rw [a2, b2]
          rfl
end
theorem eqB_same {d : D} (h : shB d = true) (hd : dpt d ≤ 60) {μ : Sto} : eqB μ d d = some true := by
  obtain ⟨q, g⟩ := sh_ok d h
  obtain ⟨e1, e2⟩ := eqv_self d h q g.py
  have h1 : toPyC μ d = some q := by
    cases d with
    | cell i => cases h
    | _ => exact g.py
  have h2 : SeqAt.shaped q = true := shaped_of e2 (by have := g.dp; omega)
  show (match toPyC μ d, toPyC μ d with
    | some a, some b => if (SeqAt.shaped a && SeqAt.shaped b) = true then some (PyData.eqv a b) else none
    | _, _ => none) = _
  rw [h1]
  simp only [h2, Bool.and_true, if_true, e1]
theorem ne_same {d : D} (h : shB d = true) (hd : dpt d ≤ 60) {μ : Sto} : cmpD .ne d d μ = .ok (.bl false) μ := by
  show (match eqB μ d d with
    | some b => R.ok (D.bl (!b)) μ
    | none => .bad) = _
  rw [eqB_same h hd]
  rfl
end S
namespace S
open PySem T
end S
namespace S
open PySem T
end S
namespace S
open PySem T
end S
namespace S
open PySem T
end S
namespace S
open PySem T
end S
namespace S
open PySem T
theorem dot_I : ∀ r v : List Int, dot r v = dotI r v
  | [], v => by
    rw [dot_nil]
    rfl
  | a :: r, [] => by
    rw [dot_nil2]
    rfl
  | a :: r, b :: v => by
    have ih := dot_I r v
    rw [dot_cons, ← ih]
    unfold dot
    rw [List.zip_cons_cons, List.map_cons, List.sum_cons]
end S
namespace S
open PySem T
theorem SchOk.az {d : Sch} (h : SchOk d) : ∀ c ∈ schT d, c ≤ 122 := fun c hc => by
  unfold schT at hc
  rcases mem_joinL hc with hm | ⟨p, hp, hm⟩
  · simp at hm
    omega
  · rcases List.mem_cons.mp hp with rfl | hp
    · rcases mem_joinL hm with hm | ⟨n, h1, h2⟩
      · simp at hm
        omega
      · exact ((h.nw n h1).az c h2).2
    · obtain ⟨t, ht, rfl⟩ := List.mem_map.mp hp
      unfold turnT at hm
      rw [List.mem_append, List.mem_append] at hm
      rcases hm with hm | hm | hm
      · exact ((h.tw t ht).az c hm).2
      · simp at hm
        omega
      · rcases mem_joinL hm with hm | ⟨n, h1, h2⟩
        · simp at hm
          omega
        · obtain ⟨q, _, rfl⟩ := List.mem_map.mp h1
          exact imT_asc h.nw q c h2
theorem shBs_all {ds : List D} (h : ∀ d ∈ ds, shB d = true) : shBs ds = true := by
  induction ds with
  | nil => rfl
  | cons d ds ih =>
    show (shB d && shBs ds) = true
    rw [h d (by simp), ih fun e he => h e (by simp [he])]
    rfl
theorem wls_le {ds : List D} {b : Nat} (h : ∀ d ∈ ds, wl d ≤ b) : wls ds ≤ ds.length * (b + 2) := by
  induction ds with
  | nil => exact Nat.zero_le _
  | cons d ds ih =>
    have h1 := h d (by simp)
    have h2 := ih fun e he => h e (by simp [he])
    show wl d + 2 + wls ds ≤ (ds.length + 1) * (b + 2)
    rw [Nat.succ_mul]
    omega
theorem dpts_le {ds : List D} {b : Nat} (h : ∀ d ∈ ds, dpt d ≤ b) : dpts ds ≤ b := by
  induction ds with
  | nil => exact Nat.zero_le _
  | cons d ds ih =>
    have h1 := h d (by simp)
    have h2 := ih fun e he => h e (by simp [he])
    show max (dpt d) (dpts ds) ≤ b
    omega
structure Sho (b p : Nat) (d : D) : Prop where
  sh : shB d = true
  wl : S.wl d ≤ b
  dp : dpt d ≤ p
theorem sho_int {i : Int} (h : B 500 i) : Sho 601 0 (.int i) := ⟨decide_eq_true (by have := log_B h; omega), Nat.le_refl _, Nat.le_refl _⟩
theorem Sho.mono {b p b' p' : Nat} {d : D} (h : Sho b p d) (h1 : b ≤ b') (h2 : p ≤ p') : Sho b' p' d := ⟨h.sh, Nat.le_trans h.wl h1, Nat.le_trans h.dp h2⟩
theorem sho_tup {b p n : Nat} {ds : List D} (h : ∀ d ∈ ds, Sho b p d) (hn : ds.length ≤ n) : Sho (n * (b + 2) + 3) (p + 1) (.tup ds) := by
  refine ⟨shBs_all fun d hd => (h d hd).sh, ?_, ?_⟩
  · have := wls_le (b := b) fun d hd => (h d hd).wl
    have := Nat.mul_le_mul_right (b + 2) hn
    show wls ds + 3 ≤ _
    omega
  · have := dpts_le (b := p) fun d hd => (h d hd).dp
    show dpts ds + 1 ≤ _
    omega
theorem sho_tI {xs : List Int} {n : Nat} (h : ∀ x ∈ xs, B 500 x) (hn : xs.length ≤ n) : Sho (n * 603 + 3) 1 (tI xs) := sho_tup (fun d hd => by
  obtain ⟨x, hx, rfl⟩ := List.mem_map.mp hd
  exact sho_int (h x hx)) (by rw [List.length_map]; exact hn)
end S
namespace S
open PySem T
abbrev purG (a b : Int) : Cell := .lst [.int a, .int b]
def PurG (μ : Sto) (k : Nat) : Prop := ∃ a b, μ[k]? = some (purG a b) ∧ small b
def PBG (μ : Sto) (k : Nat) (m : Nat) : Prop := PurG μ k ∧ m = m
theorem PBG.mono {μ : Sto} {k m m' : Nat} (h : PBG μ k m) (hm : m' ≤ m) : PBG μ k m' := ⟨h.1, rfl⟩
section
variable {Γ : Tb} {ρ : T.Env} {μ : Sto} {N : T.Env → Sto → Prop} {Rt : D → Sto → Prop} {Q : D → Sto → Prop}
structure BaseG (L k m : Nat) (μ : Sto) : Prop where
  len : μ.length = L
  wf : Wf μ
  pb : PBG μ k m
def StG (L k m : Nat) (cs : List Cell) (μ : Sto) : Prop := ∃ μ0, μ = μ0 ++ cs ∧ BaseG L k m μ0
theorem BaseG.mono {L k m m' : Nat} {μ : Sto} (h : BaseG L k m μ) (hm : m' ≤ m) : BaseG L k m' μ := ⟨h.len, h.wf, h.pb.mono hm⟩
theorem StG.mono {L k m m' : Nat} {cs : List Cell} {μ : Sto} (h : StG L k m cs μ) (hm : m' ≤ m) : StG L k m' cs μ := by
  obtain ⟨μ0, h1, h2⟩ := h
  exact ⟨μ0, h1, h2.mono hm⟩
theorem StG.wf {L k m : Nat} {cs : List Cell} {μ : Sto} (h : StG L k m cs μ) (hc : cs.all (belowC L) = true) : Wf μ := by
  obtain ⟨μ0, rfl, hb⟩ := h
  have h0 := hb.wf
  unfold Wf at h0 ⊢
  rw [hb.len] at h0
  have hle : L ≤ (μ0 ++ cs).length := by rw [List.length_append, hb.len]; omega
  rw [List.all_append, Bool.and_eq_true]
  exact ⟨List.all_eq_true.mpr fun x hx => belowC_mono hle x (List.all_eq_true.mp h0 x hx), List.all_eq_true.mpr fun x hx => belowC_mono hle x (List.all_eq_true.mp hc x hx)⟩
theorem StG.get {L k m : Nat} {cs : List Cell} {μ : Sto} (h : StG L k m cs μ) (i : Nat) : μ[L + i]? = cs[i]? := by
  obtain ⟨μ0, rfl, hb⟩ := h
  rw [List.getElem?_append_right (by rw [hb.len]; omega), hb.len]
  congr 1
  omega
theorem StG.len {L k m : Nat} {cs : List Cell} {μ : Sto} (h : StG L k m cs μ) : μ.length = L + cs.length := by
  obtain ⟨μ0, rfl, hb⟩ := h
  rw [List.length_append, hb.len]
theorem StG.new {L k m : Nat} {cs : List Cell} {μ : Sto} (h : StG L k m cs μ) (c : Cell) : StG L k m (cs ++ [c]) (μ ++ [c]) := by
  obtain ⟨μ0, rfl, hb⟩ := h
  exact ⟨μ0, by rw [List.append_assoc], hb⟩
theorem wp_leaveG {L k m : Nat} {cs : List Cell} {μ : Sto} {d : D} {Q : D → Sto → Prop} (h : StG L k m cs μ) (hd : below L d = true) (hn : ∀ i, d ≠ .cell i) (hq : ∀ μ', StG L k m [] μ' → Q d μ') : wpR (leave false L d μ) Q := by
  obtain ⟨μ0, rfl, hb⟩ := h
  have hst : StG L k m [] μ0 := ⟨μ0, by rw [List.append_nil], hb⟩
  cases cs with
  | nil =>
    rw [List.append_nil]
    refine wpR_of (a := d) (μ := μ0) (if_pos hb.len) (hq μ0 hst)
  | cons c cs =>
    refine wpR_of (a := d) (μ := μ0) ?_ (hq μ0 hst)
    unfold leave
    have h1 : ¬ (μ0 ++ c :: cs).length = L := by rw [List.length_append, hb.len, List.length_cons]; omega
    have h2 : (μ0 ++ c :: cs).take L = μ0 := by rw [← hb.len, List.take_left]
    have hwf := hb.wf
    unfold Wf at hwf
    rw [hb.len] at hwf
    rw [if_neg h1, h2, if_pos hwf]
    have ht : thaw L (μ0 ++ c :: cs) d = some d := by
      cases d with
      | cell i => exact absurd rfl (hn i)
      | tup ds => exact if_pos hd
      | _ => exact if_pos (e := none) hd
    simp only [ht]
theorem StG.wfl {L k m : Nat} {cs cs' : List Cell} {μ : Sto} (h : StG L k m (cs ++ cs') μ) : ∃ μ0, μ = (μ0 ++ cs) ++ cs' ∧ BaseG L k m μ0 := by
  obtain ⟨μ0, rfl, hb⟩ := h
  exact ⟨μ0, by rw [List.append_assoc], hb⟩
theorem base_allG {L k m : Nat} {μ0 : Sto} (hb : BaseG L k m μ0) {cs : List Cell} (hc : cs.all (belowC L) = true) {n : Nat} (hn : L ≤ n) : (μ0 ++ cs).all (belowC n) = true := by
  have h0 := hb.wf
  unfold Wf at h0
  rw [hb.len] at h0
  rw [List.all_append, Bool.and_eq_true]
  exact ⟨List.all_eq_true.mpr fun x hx => belowC_mono hn x (List.all_eq_true.mp h0 x hx), List.all_eq_true.mpr fun x hx => belowC_mono hn x (List.all_eq_true.mp hc x hx)⟩
theorem wp_lvG {L k m n : Nat} {cs cs' : List Cell} {μ : Sto} {d : D} {Q : D → Sto → Prop} (h : StG L k m (cs ++ cs') μ) (hn : n = L + cs.length) (hc : cs.all (belowC L) = true) (hd : below L d = true) (hnc : ∀ i, d ≠ .cell i) (hq : ∀ μ', StG L k m cs μ' → Q d μ') : wpR (leave false n d μ) Q := by
  subst hn
  obtain ⟨μ0, rfl, hb⟩ := h.wfl
  have hst : StG L k m cs (μ0 ++ cs) := ⟨μ0, rfl, hb⟩
  have hlen : (μ0 ++ cs).length = L + cs.length := by rw [List.length_append, hb.len]
  refine wpR_of (a := d) (μ := μ0 ++ cs) ?_ (hq _ hst)
  cases cs' with
  | nil =>
    rw [List.append_nil]
    exact if_pos hlen
  | cons c cs' =>
    unfold leave
    have h1 : ¬ ((μ0 ++ cs) ++ c :: cs').length = L + cs.length := by
      intro z
      rw [List.length_append, hlen, List.length_cons] at z
      omega
    have h2 : ((μ0 ++ cs) ++ c :: cs').take (L + cs.length) = μ0 ++ cs := by rw [← hlen, List.take_left]
    rw [if_neg h1, h2, if_pos (base_allG hb hc (by omega))]
    have ht : thaw (L + cs.length) ((μ0 ++ cs) ++ c :: cs') d = some d := by
      have hd2 : below (L + cs.length) d = true := below_mono (by omega) d hd
      cases d with
      | cell i => exact absurd rfl (hnc i)
      | tup ds => exact if_pos hd2
      | _ => exact if_pos (e := none) hd2
    simp only [ht]
theorem wp_appendG {E : Ee} {L k m m' i j : Nat} {cs : List Cell} {Bs : List D} (hs : StG L k m cs μ) (hv : ρ[j]? = some (some (.cell (L + i)))) (hc : cs[i]? = some (.lst Bs)) (hl : Bs.length < 1000)
    (h : wpR (evE Γ E ρ μ) fun d μ' => StG L k m' cs μ' ∧ ∀ μ'', StG L k m' (cs.set i (.lst (Bs ++ [d]))) μ'' → N ρ μ'') : wpF (exS Γ (.ex (.me .append (.v j) [E])) ρ μ) N Rt := by
  obtain ⟨d, μ', e, hs', hN⟩ := wpR_ex h
  have h1 : evE Γ (.v j) ρ μ = .ok (.cell (L + i)) μ := by rw [ev_v, hv]
  have g1 : μ[L + i]? = some (.lst Bs) := by rw [hs.get, hc]
  have g2 : μ'[L + i]? = some (.lst Bs) := by rw [hs'.get, hc]
  have hr : recv .append (.cell (L + i)) μ = true := by
    show (lstOf μ (.cell (L + i))).isSome = true
    simp only [lstOf, g1]
    rfl
  have ha : meD .append (.cell (L + i)) [d] μ' = .ok .non (μ'.set (L + i) (.lst (Bs ++ [d]))) := by
    show wr μ' (.cell (L + i)) (fun ds => if decide (ds.length < sizeLine) then some (.non, ds ++ [d]) else none) = _
    have : decide (Bs.length < sizeLine) = true := decide_eq_true (L2.small1000 (Nat.le_of_lt hl))
    simp only [wr, g2, this, if_true]
  have hst : StG L k m' (cs.set i (.lst (Bs ++ [d]))) (μ'.set (L + i) (.lst (Bs ++ [d]))) := by
    obtain ⟨μ0, rfl, hb⟩ := hs'
    refine ⟨μ0, ?_, hb⟩
    rw [List.set_append_right _ _ (by rw [hb.len]; omega), hb.len]
    congr 2
    omega
  rw [ex_ex, ev_me, h1, R.bind_ok, hr, if_pos rfl, evs_cons, e]
  simp only [evs_nil, R.bind_ok, ha, R.thenF_ok]
  exact wpF_nx.mpr (hN _ hst)
theorem StG.lst {L k m i : Nat} {cs : List Cell} {μ : Sto} {Bs : List D} (h : StG L k m cs μ) (hc : cs[i]? = some (.lst Bs)) : lstOf μ (.cell (L + i)) = some Bs ∧ seqOf μ (.cell (L + i)) = some Bs := by
  have g := h.get i
  rw [hc] at g
  exact ⟨by simp only [lstOf, g], by simp only [seqOf, g]⟩
theorem wp_appendXG {E : Ee} {L k m i j : Nat} {cs : List Cell} {Bs0 : List D} (hs : StG L k m cs μ) (hv : ρ[j]? = some (some (.cell (L + i)))) (hc : cs[i]? = some (.lst Bs0))
    (h : wpR (evE Γ E ρ μ) fun d μ' => ∃ m' cs' Bs, StG L k m' cs' μ' ∧ cs'[i]? = some (.lst Bs) ∧ Bs.length < 1000 ∧ ∀ μ'', StG L k m' (cs'.set i (.lst (Bs ++ [d]))) μ'' → N ρ μ'') : wpF (exS Γ (.ex (.me .append (.v j) [E])) ρ μ) N Rt := by
  obtain ⟨d, μ', e, m', cs', Bs, hs', hc', hl, hN⟩ := wpR_ex h
  have h1 : evE Γ (.v j) ρ μ = .ok (.cell (L + i)) μ := by rw [ev_v, hv]
  have g1 : μ[L + i]? = some (.lst Bs0) := by rw [hs.get, hc]
  have g2 : μ'[L + i]? = some (.lst Bs) := by rw [hs'.get, hc']
  have hr : recv .append (.cell (L + i)) μ = true := by
    show (lstOf μ (.cell (L + i))).isSome = true
    simp only [lstOf, g1]
    rfl
  have ha : meD .append (.cell (L + i)) [d] μ' = .ok .non (μ'.set (L + i) (.lst (Bs ++ [d]))) := by
    show wr μ' (.cell (L + i)) (fun ds => if decide (ds.length < sizeLine) then some (.non, ds ++ [d]) else none) = _
    have : decide (Bs.length < sizeLine) = true := decide_eq_true (L2.small1000 (Nat.le_of_lt hl))
    simp only [wr, g2, this, if_true]
  have hst : StG L k m' (cs'.set i (.lst (Bs ++ [d]))) (μ'.set (L + i) (.lst (Bs ++ [d]))) := by
    obtain ⟨μ0, rfl, hb⟩ := hs'
    refine ⟨μ0, ?_, hb⟩
    rw [List.set_append_right _ _ (by rw [hb.len]; omega), hb.len]
    congr 2
    omega
  rw [ex_ex, ev_me, h1, R.bind_ok, hr, if_pos rfl, evs_cons, e]
  simp only [evs_nil, R.bind_ok, ha, R.thenF_ok]
  exact wpF_nx.mpr (hN _ hst)
theorem wp_popG {E : Ee} {L k m m' ci j : Nat} {cs : List Cell} {Bs : List D} (hs : StG L k m cs μ) (hv : ρ[j]? = some (some (.cell (L + ci)))) (hc : cs[ci]? = some (.lst Bs))
    (h : wpR (evE Γ E ρ μ) fun d μ' => ∃ n x, d = .int ((n : Nat) : Int) ∧ StG L k m' cs μ' ∧ Bs[n]? = some x ∧ ∀ μ'', StG L k m' (cs.set ci (.lst (Bs.eraseIdx n))) μ'' → Q x μ'') : wpR (evE Γ (.me .pop (.v j) [E]) ρ μ) Q := by
  obtain ⟨d, μ', e, n, x, rfl, hs', hx, hQ⟩ := wpR_ex h
  have h1 : evE Γ (.v j) ρ μ = .ok (.cell (L + ci)) μ := by rw [ev_v, hv]
  have g1 : μ[L + ci]? = some (.lst Bs) := by rw [hs.get, hc]
  have g2 : μ'[L + ci]? = some (.lst Bs) := by rw [hs'.get, hc]
  have hr : recv .pop (.cell (L + ci)) μ = true := by
    show (lstOf μ (.cell (L + ci))).isSome = true
    simp only [lstOf, g1]
    rfl
  have ha : meD .pop (.cell (L + ci)) [.int (n : Int)] μ' = .ok x (μ'.set (L + ci) (.lst (Bs.eraseIdx n))) := by
    show wr μ' (.cell (L + ci)) (fun ds => if decide (0 ≤ (n : Int)) then (ds[(n : Int).toNat]?).map fun d => (d, ds.eraseIdx (n : Int).toNat) else none) = _
    have : decide (0 ≤ (n : Int)) = true := decide_eq_true (by omega)
    simp only [wr, g2, this, if_true, Int.toNat_natCast, hx, Option.map_some]
  have hst : StG L k m' (cs.set ci (.lst (Bs.eraseIdx n))) (μ'.set (L + ci) (.lst (Bs.eraseIdx n))) := by
    obtain ⟨μ0, rfl, hb⟩ := hs'
    refine ⟨μ0, ?_, hb⟩
    rw [List.set_append_right _ _ (by rw [hb.len]; omega), hb.len]
    congr 2
    omega
  rw [ev_me, h1, R.bind_ok, hr, if_pos rfl, evs_cons, e]
  simp only [evs_nil, R.bind_ok, ha]
  exact wpR_of rfl (hQ _ hst)
theorem StG.src {L k m i : Nat} {cs : List Cell} {μ : Sto} {Bs : List D} (h : StG L k m cs μ) (hc : cs[i]? = some (.lst Bs)) : srcOf μ (.cell (L + i)) = some (Bs, [(L + i, Bs)]) ∧ still [(L + i, Bs)] μ ∧ biD .tuple [.cell (L + i)] μ = .ok (.tup Bs) μ := by
  have g := h.get i
  rw [hc] at g
  refine ⟨?_, ?_, ?_⟩
  · show (match μ[L + i]? with
      | some (.lst ds) => some (ds, [(L + i, ds)])
      | _ => none) = _
    rw [g]
  · intro p hp
    rw [List.mem_singleton] at hp
    subst hp
    exact g
  · show optR (seqOf μ (.cell (L + i))) μ D.tup = _
    rw [(h.lst hc).2]
    rfl
theorem StG.ix {L k m ci j : Nat} {cs : List Cell} {μ : Sto} {Bs : List D} {d : D} (h : StG L k m cs μ) (hc : cs[ci]? = some (.lst Bs)) (hj : Bs[j]? = some d) : ixD (.cell (L + ci)) (.int (j : Int)) μ = .ok d μ := by
  have hl := (List.getElem?_eq_some_iff.mp hj).1
  have h2 : L2.atI Bs (j : Int) = some d := by
    unfold L2.atI L2.ixN
    rw [if_pos (by omega), if_pos (by omega)]
    simp only [Int.toNat_natCast, Option.bind_some, hj]
  show (match seqOf μ (.cell (L + ci)) with
    | some ds => (match L2.atI ds (j : Int) with
      | some d => R.ok d μ
      | none => .bad)
    | none => .bad) = _
  rw [(h.lst hc).2]
  simp only [h2]
end
end S
namespace S
open PySem T
def drawDf : Df := ⟨2, 3, false, [(.ite (.cmp .gt (.ix (.v 0) (.k (.int 0))) (.k (.int 0))) [(.asg (.tp [(.sub (.v 0) (.k (.int 0))), (.nm 2)]) (.bi .divmod [(.ix (.v 0) (.k (.int 0))), (.v 1)])), (.ret (.v 2))] []), (.asg (.sub (.v 0) (.k (.int 1))) (.bin .mod (.bi .int [(.bin .add (.bin .mul (.ix (.v 0) (.k (.int 1))) (.k (.int 46337))) (.k (.int 40503)))]) (.k (.int 2147483647)))), (.ret (.bin .mod (.bi .int [(.bin .fdiv (.ix (.v 0) (.k (.int 1))) (.k (.int 1024)))]) (.v 1)))]⟩
section
variable {μ : Sto} {k : Nat} {a b : Int}
theorem pixG (h : μ[k]? = some (purG a b)) : ixD (.cell k) (.int 0) μ = .ok (.int a) μ ∧ ixD (.cell k) (.int 1) μ = .ok (.int b) μ := by
  have h1 : seqOf μ (.cell k) = some [.int a, .int b] := by simp only [seqOf, h]
  have key : ∀ (j : Int) (d : D), L2.atI [D.int a, D.int b] j = some d → ixD (.cell k) (.int j) μ = .ok d μ := fun j d hj => by
    show (match seqOf μ (.cell k) with
      | some ds => (match L2.atI ds j with
        | some d => R.ok d μ
        | none => .bad)
      | none => .bad) = _
    rw [h1]
    simp only [hj]
  exact ⟨key 0 _ rfl, key 1 _ rfl⟩
theorem psetG (h : μ[k]? = some (purG a b)) (x : Int) : setItemD (.cell k) (.int 0) (.int x) μ = some (μ.set k (purG x b)) ∧ setItemD (.cell k) (.int 1) (.int x) μ = some (μ.set k (purG a x)) := by
  simp only [setItemD, h]
  exact ⟨rfl, rfl⟩
end
theorem StG.purse {L k m : Nat} {cs : List Cell} {μ : Sto} (h : StG L k m cs μ) : ∃ a b, μ[k]? = some (purG a b) ∧ small b ∧ ∀ a' b', small b' → StG L k m cs (μ.set k (purG a' b')) := by
  obtain ⟨μ0, rfl, hb⟩ := h
  obtain ⟨⟨a, b, h1, h2⟩, _⟩ := hb.pb
  have hk := (List.getElem?_eq_some_iff.mp h1).1
  refine ⟨a, b, by rw [List.getElem?_append_left hk]; exact h1, h2, fun a' b' hs => ⟨μ0.set k (purG a' b'), List.set_append_left _ _ hk, ⟨by rw [List.length_set]; exact hb.len, ?_, ⟨a', b', by rw [List.getElem?_set_self hk], hs⟩, rfl⟩⟩⟩
  have hw := hb.wf
  unfold Wf at hw ⊢
  rw [List.length_set, List.all_eq_true]
  intro y hy
  rcases List.mem_or_eq_of_mem_set hy with hy | rfl
  · exact List.all_eq_true.mp hw y hy
  · rfl
def SDraw (F : FnS) : Prop := ∀ (L k m : Nat) (cs : List Cell) (μ : Sto) (many : Int) (Q : D → Sto → Prop), StG L k m cs μ → 0 < many → many < 1073741824 → (∀ i μ', 0 ≤ i → i < many → StG L k m cs μ' → Q (.int i) μ') → wpR (F [.cell k, .int many] μ) Q
theorem s_draw (Γ : Tb) : SDraw (runD Γ drawDf) := by
  intro L k m cs μ many Q hs h0 h1 hq
  obtain ⟨a, b, hk, hb, hset⟩ := hs.purse
  have e : runD Γ drawDf [.cell k, .int many] μ = finD false μ.length (exB Γ drawDf.body [some (.cell k), some (.int many), none] μ) := run_eq rfl
  obtain ⟨i0, i1⟩ := pixG hk
  have i0 : ixD (.cell k) (.int 0) μ = .ok (.int a) μ := i0
  by_cases ha : 0 < a
  · have s0 := (psetG hk (a / many)).1
    refine wpR_of (a := .int (a % many)) (μ := μ.set k (purG (a / many) b)) ?_ (hq _ _ (Int.emod_nonneg _ (by omega)) (Int.emod_lt_of_pos _ h0) (hset _ _ hb))
    rw [e]
    simp only [drawDf, i0, gt_int, decide_eq_true ha, divmod_int h0 h1, set_subK, s0, setK, evz]
    exact leave_len List.length_set
  · have q0 := Int.emod_nonneg (b * 46337 + 40503) (show (2147483647 : Int) ≠ 0 by decide)
    have q1 := Int.emod_lt_of_pos (b * 46337 + 40503) (show (0 : Int) < 2147483647 by decide)
    generalize hz : (b * 46337 + 40503) % 2147483647 = z at q0 q1
    have s1 := (psetG hk z).2
    have g1 : (μ.set k (purG a z))[k]? = some (purG a z) := by rw [List.getElem?_set_self (List.getElem?_eq_some_iff.mp hk).1]
    obtain ⟨_, j1⟩ := pixG g1
    refine wpR_of (a := .int (z / 1024 % many)) (μ := μ.set k (purG a z)) ?_ (hq _ _ (Int.emod_nonneg _ (by omega)) (Int.emod_lt_of_pos _ h0) (hset _ _ (small_of (by omega) (by omega))))
    rw [e]
    have m1 : ∀ μ' : Sto, binD .mul (.int b) (.int 46337) μ' = .ok (.int (b * 46337)) μ' := fun μ' => mul_r (small_of (by decide) (by decide)) μ'
    simp only [drawDf, i0, i1, gt_int, decide_eq_false ha, m1, add_int, int_int, mod_int (show (0 : Int) < 2147483647 by decide), hz, set_subK, s1, setK, j1, fdiv_int (show (0 : Int) < 1024 by decide) (show (1024 : Int) < 2 ^ 64 by decide), mod_int h0, evz]
    exact leave_len List.length_set
section
variable {Γ : Tb} {ρ : T.Env} {μ : Sto} {Q : D → Sto → Prop}
theorem wp_drE {t : Nat} (ht : SDraw (Γ.fn t)) {L k m pi : Nat} {cs : List Cell} {many : Int} {e : Ee} (hv : ρ[pi]? = some (some (.cell k))) (he : evE Γ e ρ μ = .ok (.int many) μ) (hs : StG L k m cs μ) (h0 : 0 < many) (h1 : many < 1073741824) (hq : ∀ i μ', 0 ≤ i → i < many → StG L k m cs μ' → Q (.int i) μ') : wpR (evE Γ (.call t [.v pi, e]) ρ μ) Q := by
  refine wp_call2 (wp_v hv (wpR_of he ?_))
  exact ht L k m cs μ many Q hs h0 h1 hq
def SPickG (F : FnS) : Prop := ∀ (L k m : Nat) (cs : List Cell) (μ : Sto) (T_ : D) (ds : List D) (Q : D → Sto → Prop), StG L k m cs μ → ds ≠ [] → ds.length ≤ 1000 → (∀ μ', StG L k m cs μ' → biD .len [T_] μ' = .ok (.int (ds.length : Int)) μ' ∧ ∀ (i : Int) (d : D), L2.atI ds i = some d → ixD T_ (.int i) μ' = .ok d μ') →
  (∀ d ∈ ds, ∀ μ', StG L k m cs μ' → Q d μ') → wpR (F [.cell k, T_] μ) Q
def pickDf (t : Nat) : Df := ⟨2, 2, false, [(.ret (.ix (.v 1) (.call t [(.v 0), (.bi .len [(.v 1)])])))]⟩
theorem s_pickG {t : Nat} (ht : SDraw (Γ.fn t)) : SPickG (runD Γ (pickDf t)) := by
  intro L k m cs μ T_ ds Q hs hne hl hT hQ
  refine wp_run rfl ?_
  have hlen := hs.len
  show wpF (exB Γ [.ret _] [some (.cell k), some T_] μ) _ _
  refine wp_cons (wp_ret (wp_ix (wp_v rfl ?_)))
  have hl0 : 0 < ds.length := List.length_pos_iff.mpr hne
  refine wp_drE ht (L := L) (m := m) (cs := cs) (many := (ds.length : Int)) rfl (by
    have := (hT μ hs).1
    simp only [this, evz]) hs (by omega) (by omega) fun i μ' i0 i1 hs' => ?_
  obtain ⟨d, hm, ha⟩ := at_mem i0 i1
  refine wpR_of ((hT μ' hs').2 i d ha) ?_
  have hlen' := hs'.len
  exact wpR_of (leave_len (by rw [hlen', hlen])) (hQ d hm μ' hs')
theorem pick_seq {T_ : D} {ds : List D} (h : T_ = .lst ds ∨ T_ = .tup ds) : ∀ μ' : Sto, biD .len [T_] μ' = .ok (.int (ds.length : Int)) μ' ∧ ∀ (i : Int) (d : D), L2.atI ds i = some d → ixD T_ (.int i) μ' = .ok d μ' := fun μ' => by
  rcases h with rfl | rfl
  · refine ⟨rfl, fun i d hd => ?_⟩
    show (match L2.atI ds i with
      | some d => R.ok d μ'
      | none => .bad) = _
    rw [hd]
  · refine ⟨rfl, fun i d hd => ?_⟩
    show (match L2.atI ds i with
      | some d => R.ok d μ'
      | none => .bad) = _
    rw [hd]
def sumDf (t : Nat) : Df := ⟨3, 5, false, [(.asg (.nm 3) (.clst [])), (.loop (.nm 4) .range [(.v 1)] [(.ex (.me .append (.v 3) [(.ife (.cmp .eq (.call t [(.v 0), (.k (.int 3))]) (.k (.int 0))) (.k (.int 0)) (.bin .sub (.call t [(.v 0), (.bin .add (.bin .mul (.k (.int 2)) (.v 2)) (.k (.int 1)))]) (.v 2)))]))]), (.ret (.bi .tuple [(.v 3)]))]⟩
def SSumG (F : FnS) : Prop := ∀ (L k m n : Nat) (most : Int) (cs : List Cell) (μ : Sto) (Q : D → Sto → Prop), StG L k m cs μ → cs.all (belowC L) = true → n ≤ 20 → 0 ≤ most → most ≤ 1000 →
  (∀ xs μ', xs.length = n → (∀ x ∈ xs, -most ≤ x ∧ x ≤ most) → StG L k m cs μ' → Q (tI xs) μ') → wpR (F [.cell k, .int n, .int most] μ) Q
theorem s_sumG {t : Nat} (ht : SDraw (Γ.fn t)) : SSumG (runD Γ (sumDf t)) := by
  intro L k m n most cs μ Q hs hcs hn h0 h1 hQ
  have hlen : μ.length = L + cs.length := hs.len
  refine wp_run rfl ?_
  show wpF (exB Γ [_, .loop _ _ _ _, .ret _] [some (.cell k), some (.int n), some (.int most), none, none] μ) _ _
  refine wp_cons (wp_asg (wp_pure clst0 ?_))
  have hs1 : StG L k m (cs ++ [.lst []]) (μ ++ [.lst []]) := hs.new (.lst [])
  rw [hlen]
  refine wp_cons (wp_loop (xs := [.int (n : Int)]) (μ1 := μ ++ [.lst []]) rfl (range_items (by omega) _) ?_)
  refine wp_for (fun j ρ μ => ∃ (xs : List Int) (y : Option D), ρ = [some (.cell k), some (.int n), some (.int most), some (.cell (L + cs.length)), y] ∧ StG L k m (cs ++ [.lst (xs.map .int)]) μ ∧ xs.length = j ∧ ∀ x ∈ xs, -most ≤ x ∧ x ≤ most) (List.range n) (fun (i : Nat) => .int (i : Int)) [] (fun _ _ _ _ p hp => by cases hp)
    ⟨[], none, rfl, hs1, rfl, fun x hx => by cases hx⟩ ?_ ?_
  · rintro j q hq ρ μ1 ⟨xs, y, rfl, hs2, hxl, hxm⟩
    have hj := (List.getElem?_eq_some_iff.mp hq).1
    rw [List.length_range] at hj
    refine ⟨[some (.cell k), some (.int n), some (.int most), some (.cell (L + cs.length)), some (.int (q : Int))], rfl, ?_⟩
    refine wp_cons (wp_appendG (L := L) (k := k) (m := m) (m' := m) (i := cs.length) (cs := cs ++ [.lst (xs.map .int)]) (Bs := xs.map .int) hs2 rfl get_last (by rw [List.length_map]; omega) ?_)
    obtain ⟨d1, μ2, e1, x, rfl, x0, x1, hs3⟩ := wpR_ex (ht L k m (cs ++ [.lst (xs.map .int)]) μ1 3 (fun d μ' => ∃ x : Int, d = .int x ∧ 0 ≤ x ∧ x < 3 ∧ StG L k m (cs ++ [.lst (xs.map .int)]) μ') hs2 (by decide) (by decide) fun i μ' a b c => ⟨i, rfl, a, b, c⟩)
    have hc : evE Γ (.cmp .eq (.call t [(.v 0), (.k (.int 3))]) (.k (.int 0))) [some (.cell k), some (.int n), some (.int most), some (.cell (L + cs.length)), some (.int (q : Int))] μ1 = .ok (.bl (decide (x = 0))) μ2 := by
      simp only [e1, eq_int, evz]
    have fin : ∀ (z : Int) (μ3 : Sto), -most ≤ z → z ≤ most → StG L k m (cs ++ [.lst (xs.map .int)]) μ3 → (fun d μ' => StG L k m (cs ++ [.lst (xs.map .int)]) μ' ∧ ∀ μ'', StG L k m ((cs ++ [Cell.lst (xs.map .int)]).set cs.length (Cell.lst (xs.map .int ++ [d]))) μ'' → wpF (exB Γ [] [some (.cell k), some (.int n), some (.int most), some (.cell (L + cs.length)), some (.int (q : Int))] μ'') (fun ρ μ => ∃ (xs : List Int) (y : Option D), ρ = [some (.cell k), some (.int n), some (.int most), some (.cell (L + cs.length)), y] ∧ StG L k m (cs ++ [.lst (xs.map .int)]) μ ∧ xs.length = j + 1 ∧ ∀ x ∈ xs, -most ≤ x ∧ x ≤ most) (fun d μ1 => wpR (leave false (L + cs.length) d μ1) Q)) (.int z) μ3 := fun z μ3 z0 z1 hs4 => ⟨hs4, fun μ4 hs5 => wp_nil ⟨xs ++ [z], _, rfl, by
        rw [set_last] at hs5
        rw [List.map_append]
        exact hs5, by rw [List.length_append, hxl]; rfl, fun w hw => by
        rcases List.mem_append.mp hw with h | h
        · exact hxm w h
        · rw [List.mem_singleton] at h
          rw [h]
          exact ⟨z0, z1⟩⟩⟩
    rw [ev_ife, hc, R.bind_ok, tru_bl]
    by_cases hx : x = 0
    · rw [decide_eq_true hx, if_pos rfl]
      exact wp_k (fin 0 μ2 (by omega) h0 hs3)
    · rw [decide_eq_false hx, if_neg Bool.false_ne_true]
      have hm2 : binD .mul (.int 2) (.int most) μ2 = .ok (.int (2 * most)) μ2 := mul_l (small_of (by decide) (by decide)) μ2
      refine wp_bin (wp_drE ht (L := L) (m := m) (cs := cs ++ [.lst (xs.map .int)]) (many := 2 * most + 1) rfl (by simp only [hm2, add_int, evz]) hs3 (by omega) (by omega) fun i μ3 i0 i1 hs4 => wp_v rfl (wpR_of (sub_int μ3) ?_))
      exact fin (i - most) μ3 (by omega) (by omega) hs4
  · rintro ρ μ1 ⟨xs, y, rfl, hs2, hxl, hxm⟩
    rw [List.length_range] at hxl
    obtain ⟨_, _, g3⟩ := hs2.src (i := cs.length) get_last
    have hev : evE Γ (.bi .tuple [(.v 3)]) [some (.cell k), some (.int n), some (.int most), some (.cell (L + cs.length)), y] μ1 = .ok (tI xs) μ1 := by
      simp only [g3, evz]
    refine wp_cons (wp_ret (wp_pure hev ?_))
    exact wp_lvG (k := k) (m := m) (cs := cs) (cs' := [.lst (xs.map .int)]) (L := L) hs2 rfl hcs (bel_tI L xs) (fun i => by simp) fun μ' hs' => hQ xs μ' hxl hxm hs'
end
end S
namespace S
open PySem T
theorem wp_compA {α : Type} {Γ : Tb} {ρ : T.Env} {μ : Sto} {melt : Ee} {mt : Tg} {ik : IK} {mits : List Ee} {own : List Nat} {Q : D → Sto → Prop} {μ1 : Sto} (I : List D → Sto → Prop) (ps : List α) (g : α → D) {xs : List D} (h1 : evEs Γ mits ρ μ = .ok xs μ1) (h2 : itemsOf ik xs μ1 = some (ps.map g, [])) (hI : I [] μ1)
    (h : ∀ (acc : List D) (p : α), ps[acc.length]? = some p → ∀ μ, I acc μ → ∃ ρ1, setTg μ mt (g p) (wipeE ρ own) = some ρ1 ∧ wpR (evE Γ melt ρ1 μ) fun d μ' => I (acc ++ [d]) μ')
    (hq : ∀ ds μ', ds.length = ps.length → I ds μ' → Q (.lst ds) μ') : wpR (evE Γ (.comp false melt mt ik mits [] own) ρ μ) Q := by
  have key : ∀ (qs : List α) (acc : List D) (μ : Sto), (∀ i, qs[i]? = ps[acc.length + i]?) → acc.length + qs.length = ps.length → I acc μ →
      ∃ ds μ', compL [] (wipeE ρ own) mt (evIfs Γ []) (evE Γ melt) (qs.map g) acc μ = .ok ds μ' ∧ ds.length = ps.length ∧ I ds μ' := by
    intro qs
    induction qs with
    | nil =>
      intro acc μ _ hl hI
      refine ⟨acc, μ, ?_, by simpa using hl, hI⟩
      unfold compL
      rw [List.map_nil]
      simp only
      rw [ifStill_nil]
    | cons q qs ih =>
      intro acc μ hg hl hI
      have hpj : ps[acc.length]? = some q := by
        have := hg 0
        simpa using this.symm
      obtain ⟨ρ1, k1, k2⟩ := h acc q hpj μ hI
      obtain ⟨d, μ1, k3, k4⟩ := wpR_ex k2
      obtain ⟨ds, μ', k6, k7, k8⟩ := ih (acc ++ [d]) μ1 (fun i => by
        have := hg (i + 1)
        rw [List.getElem?_cons_succ] at this
        rw [this, List.length_append]
        congr 1
        show acc.length + (i + 1) = acc.length + 1 + i
        omega) (by rw [List.length_append]; rw [List.length_cons] at hl; show acc.length + 1 + qs.length = _; omega) k4
      refine ⟨ds, μ', ?_, k7, k8⟩
      rw [List.map_cons]
      unfold compL
      rw [ifStill_nil]
      simp only [k1]
      show (R.ok true μ).bind (fun b μ1 => if b = true then (evE Γ melt ρ1 μ1).bind fun y μ2 => compL [] (wipeE ρ own) mt (evIfs Γ []) (evE Γ melt) (qs.map g) (acc ++ [y]) μ2 else compL [] (wipeE ρ own) mt (evIfs Γ []) (evE Γ melt) (qs.map g) acc μ1) = _
      rw [R.bind_ok, if_pos rfl, k3, R.bind_ok, k6]
  obtain ⟨ds, μ', k6, k7, k8⟩ := key ps [] μ1 (fun i => by rw [List.length_nil, Nat.zero_add]) (by simp) hI
  have he : evE Γ (.comp false melt mt ik mits [] own) ρ μ = .ok (.lst ds) μ' := by
    show (evEs Γ mits ρ μ).bind _ = _
    rw [h1, R.bind_ok]
    simp only [h2]
    rw [k6]
    rfl
  exact wpR_of he (hq ds μ' k7 k8)
def nmL : List (List Nat) := [[97], [98], [101, 100, 103, 101], [102, 97, 99, 101], [108, 101, 118, 101, 108], [115, 108, 111, 112, 101], [116], [119, 105, 100, 116, 104], [122, 122, 122, 122, 122, 122, 122, 122]]
def nm9 (i : Nat) : List Nat := nmL.getD i []
def lab (i : Nat) : D := .str (SX.S (nm9 i))
def pyLab (i : Nat) : PyData := .str (SX.S (nm9 i))
theorem lab_le : ∀ i, i < 9 → ∀ j, j < 9 → PySem.W.dataLe false (fun z : D × PyData => z.2) (lab i, pyLab i) (lab j, pyLab j) = decide (i ≤ j) := by decide +kernel
theorem lab_lt : ∀ i, i < 9 → ∀ j, j < 9 → i < j → ltS (SX.S (nm9 i)) (SX.S (nm9 j)) = true := by decide +kernel
theorem nm9_wrd : ∀ i, i < 9 → (1 ≤ (nm9 i).length ∧ (nm9 i).length ≤ 8) ∧ ∀ c ∈ nm9 i, 97 ≤ c ∧ c ≤ 122 := by decide +kernel
theorem toPys_labs : ∀ is : List Nat, toPys (is.map lab) = some (is.map pyLab)
  | [] => rfl
  | i :: is => by
    show (toPy (lab i)).bind (fun a => (toPys (is.map lab)).map (a :: ·)) = _
    rw [toPys_labs is]
    rfl
theorem sorted_labs (is : List Nat) (h9 : ∀ i ∈ is, i < 9) (hn : is.Nodup) {μ : Sto} : ∃ js : List Nat, biD .sorted [.lst (is.map lab)] μ = .ok (.lst (js.map lab)) μ ∧ js.Perm is ∧ js.Pairwise (· < ·) := by
  have hq := toPys_labs is
  have h1 : alikes (is.map pyLab) = true := by
    unfold alikes
    rw [List.all_eq_true]
    intro a ha
    rw [List.all_eq_true]
    intro b hb
    obtain ⟨x, _, rfl⟩ := List.mem_map.mp ha
    obtain ⟨y, _, rfl⟩ := List.mem_map.mp hb
    rfl
  have h2 : sortableB (is.map pyLab) = true := by
    unfold sortableB
    rw [Bool.or_eq_true]
    right
    rw [List.all_eq_true]
    intro a ha
    obtain ⟨x, _, rfl⟩ := List.mem_map.mp ha
    rfl
  have h3 : (is.map pyLab).all (fun q => decide (q.depth ≤ 60)) = true := by
    rw [List.all_eq_true]
    intro a ha
    obtain ⟨x, _, rfl⟩ := List.mem_map.mp ha
    refine decide_eq_true ?_
    show (0 : Nat) ≤ 60
    decide
  have hs : biD .sorted [.lst (is.map lab)] μ = .ok (.lst (sortD (is.map lab) (is.map pyLab))) μ := by
    show (match lstOf μ (.lst (is.map lab)) with
      | some ds => (match toPys ds with
        | some qs => if alikes qs && sortableB qs && qs.all (fun q => decide (q.depth ≤ 60)) then R.ok (D.lst (sortD ds qs)) μ else R.bad
        | none => R.bad)
      | none => R.bad) = _
    simp only [lstOf, hq, h1, h2, h3, Bool.and_true, if_true]
  have hz : (is.map lab).zip (is.map pyLab) = is.map fun m => (lab m, pyLab m) := List.zip_map'
  have hm := List.map_mergeSort (r := fun a b => decide (a ≤ b)) (s := PySem.W.dataLe false fun z : D × PyData => z.2) (f := fun m => (lab m, pyLab m)) (l := is) fun a ha b hb => (lab_le a (h9 a ha) b (h9 b hb)).symm
  have hpm := List.mergeSort_perm is fun a b => decide (a ≤ b)
  have hpw := List.pairwise_mergeSort (le := fun a b => decide (a ≤ b)) (fun a b c h1 h2 => decide_eq_true (Nat.le_trans (of_decide_eq_true h1) (of_decide_eq_true h2))) (fun a b => by
    rw [Bool.or_eq_true, decide_eq_true_iff, decide_eq_true_iff]
    exact Nat.le_total a b) is
  have e : sortD (is.map lab) (is.map pyLab) = (is.mergeSort fun a b => decide (a ≤ b)).map lab := by
    unfold sortD
    rw [hz, ← hm, List.map_map]
    rfl
  rw [e] at hs
  refine ⟨_, hs, hpm, ?_⟩
  have hnd : (is.mergeSort fun a b => decide (a ≤ b)).Nodup := hpm.nodup_iff.mpr hn
  exact (hpw.and hnd).imp fun {a b} h => Nat.lt_of_le_of_ne (of_decide_eq_true h.1) h.2
def sch9 (js : List Nat) : Sch := ⟨js.map nm9, []⟩
theorem wsD_9 (js : List Nat) : wsD (sch9 js).ns = js.map lab := by
  show wsD (js.map nm9) = _
  unfold wsD
  rw [List.map_map]
  rfl
theorem sch9_ok {js : List Nat} (h0 : js ≠ []) (h6 : js.length ≤ 6) (h9 : ∀ j ∈ js, j < 9) (hp : js.Pairwise (· < ·)) : SchOk (sch9 js) := by
  refine ⟨fun e => h0 (List.map_eq_nil_iff.mp e), by show (js.map nm9).length ≤ 6; rw [List.length_map]; exact h6, fun n hn => ?_, ?_, Nat.zero_le _, fun t ht => (by cases ht), rfl, fun t ht => (by cases ht), fun t ht => (by cases ht), fun t ht => (by cases ht), fun t ht => (by cases ht)⟩
  · obtain ⟨j, hj, rfl⟩ := List.mem_map.mp hn
    obtain ⟨⟨a, b⟩, c⟩ := nm9_wrd j (h9 j hj)
    exact ⟨a, b, c⟩
  · unfold risB
    rw [List.all_eq_true]
    intro i hi
    have hi := List.mem_range.mp hi
    have hl : ((sch9 js).ns.map SX.S).length = js.length := by
      show ((js.map nm9).map SX.S).length = _
      rw [List.length_map, List.length_map]
    rw [hl] at hi
    have hat : ∀ i (h : i < js.length), ((sch9 js).ns.map SX.S).getD i "" = SX.S (nm9 js[i]) := fun i h => by
      show ((js.map nm9).map SX.S).getD i "" = _
      rw [List.getD_eq_getElem?_getD, List.getElem?_map, List.getElem?_map, List.getElem?_eq_getElem h]
      rfl
    rw [hat i (by omega), hat (i + 1) (by omega)]
    exact lab_lt _ (h9 _ (List.getElem_mem _)) _ (h9 _ (List.getElem_mem _)) (List.pairwise_iff_getElem.mp hp i (i + 1) (by omega) (by omega) (by omega))
def labelsDf (t : Nat) : Df := ⟨2, 4, false, [(.asg (.nm 2) (.clst [(.k (.str "a")), (.k (.str "b")), (.k (.str "edge")), (.k (.str "face")), (.k (.str "level")), (.k (.str "slope")), (.k (.str "t")), (.k (.str "width")), (.k (.str "zzzzzzzz"))])), (.ret (.bi .sorted [(.comp false (.me .pop (.v 2) [(.call t [(.v 0), (.bi .len [(.v 2)])])]) (.nm 3) .range [(.v 1)] [] [3])]))]⟩
def SLabelsG (F : FnS) : Prop := ∀ (L k m n : Nat) (cs : List Cell) (μ : Sto) (Q : D → Sto → Prop), StG L k m cs μ → cs.all (belowC L) = true → 1 ≤ n → n ≤ 6 →
  (∀ js μ', SchOk (sch9 js) → js.length = n → StG L k m cs μ' → Q (.lst (wsD (sch9 js).ns)) μ') → wpR (F [.cell k, .int n] μ) Q
theorem lab9 : [D.str "a", .str "b", .str "edge", .str "face", .str "level", .str "slope", .str "t", .str "width", .str "zzzzzzzz"] = (List.range 9).map lab := by
  have h : (["a", "b", "edge", "face", "level", "slope", "t", "width", "zzzzzzzz"] : List Str) = (List.range 9).map fun i => SX.S (nm9 i) := by decide +kernel
  show (["a", "b", "edge", "face", "level", "slope", "t", "width", "zzzzzzzz"] : List Str).map D.str = _
  rw [h, List.map_map]
  rfl
theorem map_eraseG {α β : Type} (f : α → β) : ∀ (l : List α) (i : Nat), (l.map f).eraseIdx i = (l.eraseIdx i).map f
  | [], _ => rfl
  | _ :: _, 0 => rfl
  | a :: l, i + 1 => by rw [List.map_cons, List.eraseIdx_cons_succ, List.eraseIdx_cons_succ, map_eraseG f l i, List.map_cons]
theorem s_labelsG {Γ : Tb} {t : Nat} (ht : SDraw (Γ.fn t)) : SLabelsG (runD Γ (labelsDf t)) := by
  intro L k m n cs μ Q hs hcs h1 h6 hQ
  have hlen : μ.length = L + cs.length := hs.len
  refine wp_run rfl ?_
  show wpF (exB Γ [_, .ret _] [some (.cell k), some (.int n), none, none] μ) _ _
  have hcl : evE Γ (.clst [(.k (.str "a")), (.k (.str "b")), (.k (.str "edge")), (.k (.str "face")), (.k (.str "level")), (.k (.str "slope")), (.k (.str "t")), (.k (.str "width")), (.k (.str "zzzzzzzz"))]) [some (.cell k), some (.int n), none, none] μ = .ok (.cell μ.length) (μ ++ [.lst ((List.range 9).map lab)]) := by
    rw [← lab9]
    rfl
  have hI0 : ∃ js0 : List Nat, js0.map lab = (List.range 9).map lab ∧ ([] ++ js0).Perm (List.range 9) := ⟨_, rfl, List.Perm.refl _⟩
  generalize (List.range 9).map lab = B9 at *
  obtain ⟨js0, hjs0, hpm0⟩ := hI0
  refine wp_cons (wp_asg (wp_pure hcl ?_))
  have hs1 : StG L k m (cs ++ [.lst B9]) (μ ++ [.lst B9]) := hs.new _
  rw [hlen]
  have key : wpR (evE Γ (.comp false (.me .pop (.v 2) [(.call t [(.v 0), (.bi .len [(.v 2)])])]) (.nm 3) .range [(.v 1)] [] [3]) [some (.cell k), some (.int n), some (.cell (L + cs.length)), none] (μ ++ [.lst B9])) fun d μ' => ∃ is js : List Nat, d = .lst (is.map lab) ∧ is.length = n ∧ StG L k m (cs ++ [.lst (js.map lab)]) μ' ∧ (is ++ js).Perm (List.range 9) := by
    refine wp_compA (fun acc μ => ∃ is js : List Nat, acc = is.map lab ∧ StG L k m (cs ++ [.lst (js.map lab)]) μ ∧ (is ++ js).Perm (List.range 9)) (List.range n) (fun (i : Nat) => .int (i : Int)) (xs := [.int (n : Int)]) (μ1 := μ ++ [.lst B9]) rfl (range_items (by omega) _) ⟨[], js0, rfl, by rw [hjs0]; exact hs1, hpm0⟩ ?_ ?_
    · rintro acc p hp μ1 ⟨is, js, rfl, hs2, hpm⟩
      have hj := (List.getElem?_eq_some_iff.mp hp).1
      rw [List.length_range, List.length_map] at hj
      have hl9 := hpm.length_eq
      rw [List.length_append, List.length_range] at hl9
      refine ⟨[some (.cell k), some (.int n), some (.cell (L + cs.length)), some (.int (p : Int))], rfl, ?_⟩
      refine wp_popG (L := L) (k := k) (m := m) (m' := m) (ci := cs.length) (cs := cs ++ [.lst (js.map lab)]) (Bs := js.map lab) hs2 rfl get_last ?_
      have hlc : biD .len [.cell (L + cs.length)] μ1 = .ok (.int (js.length : Int)) μ1 := by
        have := (hs2.lst (i := cs.length) get_last).2
        show optR (seqOf μ1 (.cell (L + cs.length))) μ1 _ = _
        rw [this]
        show R.ok (D.int ((js.map lab).length : Int)) μ1 = _
        rw [List.length_map]
      refine wp_drE ht (L := L) (m := m) (cs := cs ++ [.lst (js.map lab)]) (many := (js.length : Int)) rfl (by simp only [hlc, evz]) hs2 (by omega) (by omega) fun i μ2 i0 i1 hs3 => ?_
      obtain ⟨z, rfl⟩ := Int.eq_ofNat_of_zero_le i0
      have hz : z < js.length := by omega
      refine ⟨z, lab js[z], rfl, hs3, by rw [List.getElem?_map, List.getElem?_eq_getElem hz]; rfl, fun μ3 hs4 => ⟨is ++ [js[z]], js.eraseIdx z, ?_, ?_, ?_⟩⟩
      · rw [List.map_append]
        rfl
      · rw [set_last, map_eraseG] at hs4
        exact hs4
      · have h2 := perm_erase (l := js) (i := z) (List.getElem?_eq_getElem hz)
        rw [List.append_assoc]
        exact (h2.append_left is).trans hpm
    · rintro ds μ1 hdl ⟨is, js, rfl, hs2, hpm⟩
      rw [List.length_map, List.length_range] at hdl
      exact ⟨is, js, rfl, hdl, hs2, hpm⟩
  obtain ⟨d, μ1, e1, is, js, rfl, hil, hs2, hpm⟩ := wpR_ex key
  have hnd : (is ++ js).Nodup := hpm.nodup_iff.mpr List.nodup_range
  have h9 : ∀ i ∈ is, i < 9 := fun i hi => List.mem_range.mp (hpm.mem_iff.mp (List.mem_append_left _ hi))
  obtain ⟨ks, hso, hkp, hkw⟩ := sorted_labs is h9 (List.nodup_append.mp hnd).1 (μ := μ1)
  have hkl : ks.length = n := by rw [hkp.length_eq, hil]
  have hok : SchOk (sch9 ks) := sch9_ok (fun e => by rw [e] at hkl; simp at hkl; omega) (by omega) (fun j hj => h9 j (hkp.mem_iff.mp hj)) hkw
  have hev : evE Γ (.bi .sorted [(.comp false (.me .pop (.v 2) [(.call t [(.v 0), (.bi .len [(.v 2)])])]) (.nm 3) .range [(.v 1)] [] [3])]) [some (.cell k), some (.int n), some (.cell (L + cs.length)), none] (μ ++ [.lst B9]) = .ok (.lst (ks.map lab)) μ1 := by
    rw [ev_bi, evs_cons, e1, R.bind_ok, evs_nil, R.bind_ok, R.bind_ok]
    exact hso
  refine wp_cons (wp_ret (wp_pure hev ?_))
  rw [← wsD_9]
  exact wp_lvG (k := k) (m := m) (cs := cs) (cs' := [.lst (js.map lab)]) (L := L) hs2 rfl hcs (bel_ws L (sch9 ks).ns) (fun i => by simp) fun μ' hs' => hQ ks μ' hok hkl hs'
def spelledDf : Df := ⟨2, 7, false, [(.asg (.nm 2) (.clst [(.me .join (.k (.str " ")) [(.v 0)])])), (.loop (.tp [(.nm 3), (.nm 4)]) .plain [(.v 1)] [(.ex (.me .append (.v 2) [(.bin .add (.bin .add (.v 3) (.k (.str ": "))) (.me .join (.k (.str " ")) [(.comp false (.bin .add (.bin .mul (.k (.str "-")) (.bi .int [(.cmp .lt (.v 5) (.k (.int 0)))])) (.ix (.v 0) (.v 6))) (.tp [(.nm 5), (.nm 6)]) .plain [(.v 4)] [] [5, 6])]))]))]), (.ret (.me .join (.k (.str "; ")) [(.v 2)]))]⟩
end S
namespace S
open PySem T
def purseDfG : Df := ⟨2, 5, true, [(.asg (.nm 2) (.ife (.cmp .lt (.v 1) (.bi .len [(.v 0)])) (.ix (.v 0) (.v 1)) (.bin .mul (.k (.int 5099)) (.bin .add (.v 1) (.k (.int 5)))))), (.asg (.nm 3) (.bin .add (.k (.int 877)) (.v 1))), (.loop (.nm 4) .plain [(.bin .add (.sl (.v 0) .no (.k (.int 5))) (.lst [(.v 2)]))] [(.asg (.nm 3) (.bin .mod (.bi .int [(.bin .add (.bin .add (.bin .mul (.v 3) (.k (.int 44617))) (.bin .mod (.bi .int [(.v 4)]) (.k (.int 2147483647)))) (.k (.int 101)))]) (.k (.int 2147483647))))]), (.ret (.clst [(.ife (.cmp .ge (.bi .abs [(.v 2)]) (.bin .pow (.k (.int 10)) (.k (.int 18)))) (.bi .abs [(.v 2)]) (.k (.int 0))), (.v 3)]))]⟩
abbrev puBG : List Ss := [(.asg (.nm 3) (.bin .mod (.bi .int [(.bin .add (.bin .add (.bin .mul (.v 3) (.k (.int 44617))) (.bin .mod (.bi .int [(.v 4)]) (.k (.int 2147483647)))) (.k (.int 101)))]) (.k (.int 2147483647))))]
def SPurseG (F : FnS) : Prop := ∀ (ns : List Int) (k : Nat) (μ : Sto), Wf μ → k ≤ 1000 → ∃ a b, small b ∧ F [.fro (ns.map .int), .int k] μ = .ok (.cell μ.length) (μ ++ [purG a b])
theorem puG_loop {Γ : Tb} {μ : Sto} (A K X : Option D) : ∀ (ms : List Int) (x : Int) (y : Option D), small x → ∃ x' y', small x' ∧ forL [] (.nm 4) (exB Γ puBG) (ms.map .int) [A, K, X, some (.int x), y] μ = .nx [A, K, X, some (.int x'), y'] μ
  | [], x, y, h => ⟨x, y, h, forL_nil⟩
  | m :: ms, x, y, h => by
    have r0 := Int.emod_nonneg (x * 44617 + m % 2147483647 + 101) (show (2147483647 : Int) ≠ 0 by decide)
    have r1 := Int.emod_lt_of_pos (x * 44617 + m % 2147483647 + 101) (show (0 : Int) < 2147483647 by decide)
    obtain ⟨x', y', hx, ih⟩ := puG_loop (Γ := Γ) (μ := μ) A K X ms ((x * 44617 + m % 2147483647 + 101) % 2147483647) (some (.int m)) (small_of (by omega) (by omega))
    refine ⟨x', y', hx, ?_⟩
    rw [List.map_cons, forL_cons (ρ1 := [A, K, X, some (.int x), some (.int m)]) (ρ2 := [A, K, X, some (.int ((x * 44617 + m % 2147483647 + 101) % 2147483647)), some (.int m)]) (μ2 := μ) rfl ?_]
    · exact ih
    · have s1 : small (44617 : Int) := small_of (by omega) (by omega)
      simp only [puBG, mul_r s1, add_int, int_int, mod_int (show (0 : Int) < 2147483647 by decide), evz]
theorem cutG_5 (ns : List Int) : ∃ ms : List Int, cutG (ns.map D.int) none (some 5) = ms.map .int ∧ ms.length ≤ 5 := by
  unfold cutG
  rw [← List.map_drop, ← List.map_take]
  refine ⟨_, rfl, ?_⟩
  rw [List.length_take]
  have h5 : HT.sIx (ns.map D.int).length (ns.map D.int).length (some 5) = min 5 (ns.map D.int).length := HT.sIx_nat _ _ 5
  rw [h5]
  omega
theorem s_purseG (Γ : Tb) : SPurseG (runD Γ purseDfG) := by
  intro ns k μ hμ hk
  have e : runD Γ purseDfG [.fro (ns.map .int), .int k] μ = finD true μ.length (exB Γ purseDfG.body [some (.fro (ns.map .int)), some (.int k), none, none, none] μ) := run_eq rfl
  have hll : (ns.map D.int).length = ns.length := List.length_map _
  obtain ⟨x, hx⟩ : ∃ x : Int, exS Γ (.asg (.nm 2) (.ife (.cmp .lt (.v 1) (.bi .len [(.v 0)])) (.ix (.v 0) (.v 1)) (.bin .mul (.k (.int 5099)) (.bin .add (.v 1) (.k (.int 5)))))) [some (.fro (ns.map .int)), some (.int k), none, none, none] μ = .nx [some (.fro (ns.map .int)), some (.int k), some (.int x), none, none] μ := by
    by_cases hlt : k < ns.length
    · have d1 : decide ((k : Int) < (ns.length : Int)) = true := decide_eq_true (by omega)
      obtain ⟨x, hx⟩ := ix_fro hlt (μ := μ)
      exact ⟨x, by simp only [lt_int, len_fro, hll, d1, hx, evz]⟩
    · have d1 : decide ((k : Int) < (ns.length : Int)) = false := decide_eq_false (by omega)
      have s1 : small (5099 : Int) := small_of (by omega) (by omega)
      exact ⟨5099 * ((k : Int) + 5), by simp only [lt_int, len_fro, hll, d1, mul_l s1, add_int, evz]⟩
  have h3 : exS Γ (.asg (.nm 3) (.bin .add (.k (.int 877)) (.v 1))) [some (.fro (ns.map .int)), some (.int k), some (.int x), none, none] μ = .nx [some (.fro (ns.map .int)), some (.int k), some (.int x), some (.int (877 + (k : Int))), none] μ := by
    simp only [add_int, evz]
  obtain ⟨ms, hms, hml⟩ := cutG_5 ns
  obtain ⟨b, y', hb, hl⟩ := puG_loop (Γ := Γ) (μ := μ) (some (.fro (ns.map .int))) (some (.int k)) (some (.int x)) (ms ++ [x]) (877 + (k : Int)) none (small_of (by omega) (by omega))
  have hsl : slD (.fro (ns.map .int)) none (some 5) μ = .ok (.lst (ms.map .int)) μ := by
    show R.ok (D.lst (cutG (ns.map D.int) none (some 5))) μ = _
    rw [hms]
  have hadd : binD .add (.lst (ms.map .int)) (.lst [.int x]) μ = .ok (.lst ((ms ++ [x]).map .int)) μ := by
    show (if fits ((ms.map D.int).length + [D.int x].length) = true then R.ok (D.lst (ms.map .int ++ [.int x])) μ else .bad) = _
    rw [if_pos (fits_small (by rw [List.length_map]; show ms.length + 1 ≤ 1000; omega)), List.map_append]
    rfl
  have h4 : exS Γ (.loop (.nm 4) .plain [(.bin .add (.sl (.v 0) .no (.k (.int 5))) (.lst [(.v 2)]))] puBG) [some (.fro (ns.map .int)), some (.int k), some (.int x), some (.int (877 + (k : Int))), none] μ = .nx [some (.fro (ns.map .int)), some (.int k), some (.int x), some (.int b), y'] μ := by
    have f1 : fits (0 + 1) = true := fits_small (by decide)
    have hits : evEs Γ [(.bin .add (.sl (.v 0) .no (.k (.int 5))) (.lst [(.v 2)]))] [some (.fro (ns.map .int)), some (.int k), some (.int x), some (.int (877 + (k : Int))), none] μ = .ok [.lst ((ms ++ [x]).map .int)] μ := by
      simp only [ev_sl, oI_no, oI_k, hsl, f1, hadd, evz]
    have hit : itemsOf .plain [.lst ((ms ++ [x]).map .int)] μ = some ((ms ++ [x]).map .int, []) := rfl
    rw [ex_loop, hits, R.thenF_ok, hit]
    exact hl
  obtain ⟨a, ha⟩ : ∃ a : Int, evE Γ (.ife (.cmp .ge (.bi .abs [(.v 2)]) (.bin .pow (.k (.int 10)) (.k (.int 18)))) (.bi .abs [(.v 2)]) (.k (.int 0))) [some (.fro (ns.map .int)), some (.int k), some (.int x), some (.int b), y'] μ = .ok (.int a) μ := by
    cases h2 : decide ((1000000000000000000 : Int) ≤ (x.natAbs : Int)) with
    | true => exact ⟨(x.natAbs : Int), by simp only [abs_int, pow_18, ge_int, h2, evz]⟩
    | false => exact ⟨0, by simp only [abs_int, pow_18, ge_int, h2, evz]⟩
  refine ⟨a, b, hb, ?_⟩
  have h5 : exS Γ (.ret (.clst [(.ife (.cmp .ge (.bi .abs [(.v 2)]) (.bin .pow (.k (.int 10)) (.k (.int 18)))) (.bi .abs [(.v 2)]) (.k (.int 0))), (.v 3)])) [some (.fro (ns.map .int)), some (.int k), some (.int x), some (.int b), y'] μ = .rt (.cell μ.length) (μ ++ [purG a b]) := by
    rw [ex_ret, ev_clst, evs_cons, ha, R.bind_ok]
    simp only [evs_cons, evs_nil, ev_v, R.bind_ok, List.getElem?_cons_zero, List.getElem?_cons_succ]
    rw [if_pos (fits_small (by simp)), R.thenF_ok]
  rw [e, show purseDfG.body = [_, _, .loop _ _ _ puBG, .ret _] from rfl, st_go hx (st_go h3 (st_go h4 (show exB Γ [.ret _] _ μ = .rt (.cell μ.length) (μ ++ [purG a b]) by rw [exb_cons, h5, F.then_rt]))), fin_rt]
  unfold leave
  rw [if_neg (by simp), List.take_left, if_pos (show μ.all (belowC μ.length) = true from hμ)]
  have hb3 : belowC μ.length (purG a b) = true := rfl
  simp only [Nat.lt_irrefl, if_false, cell_last, hb3, if_true]
def SRightG (F : FnS) : Prop := ∀ (k : Nat) (μ : Sto), Wf μ → PurG μ k → ∃ μ', F [.cell k] μ = .ok (.bl true) μ' ∧ Wf μ'
theorem right_ofG {F : FnS} (h : ∀ L k μ, StG L k 0 [] μ → wpR (F [.cell k] μ) fun d μ' => d = .bl true ∧ StG L k 0 [] μ') : SRightG F := by
  intro k μ hμ hp
  obtain ⟨d, μ', e, rfl, hs⟩ := wpR_ex (h μ.length k μ ⟨μ, by rw [List.append_nil], rfl, hμ, hp, rfl⟩)
  exact ⟨μ', e, hs.wf rfl⟩
theorem s_lawG {Γ : Tb} {r p : Nat} {m : Int} (hm : m ≤ 900) (hr : SRightG (Γ.fn r)) (hp : SPurseG (Γ.fn p)) (ns : List Int) : ∃ μ, runD Γ (lawDf r p m) [.fro (ns.map .int)] [] = .ok (.bl true) μ := by
  have e : runD Γ (lawDf r p m) [.fro (ns.map .int)] [] = finD false ([] : Sto).length (exB Γ (lawDf r p m).body [some (.fro (ns.map .int)), none] []) := run_eq rfl
  have hll : (ns.map D.int).length = ns.length := List.length_map _
  obtain ⟨t, ht, hv⟩ : ∃ t : Nat, t ≤ 1000 ∧ (if (if m < (ns.length : Int) then m else (ns.length : Int)) > 2 then (if m < (ns.length : Int) then m else (ns.length : Int)) else 2) = (t : Int) := by
    refine ⟨(if (if m < (ns.length : Int) then m else (ns.length : Int)) > 2 then (if m < (ns.length : Int) then m else (ns.length : Int)) else 2).toNat, ?_, ?_⟩ <;> split <;> (try split) <;> omega
  have hits : evEs Γ [.bi .max2 [.k (.int 2), .bi .min2 [.bi .len [.v 0], .k (.int m)]]] [some (.fro (ns.map .int)), none] [] = .ok [.int t] [] := by
    simp only [evs_cons, evs_nil, ev_bi, ev_v, ev_k, R.bind_ok, List.getElem?_cons_zero, len_fro, hll, min_int, max_int, hv]
  obtain ⟨μ', hw, hc⟩ := ev_compI (Γ := Γ) (ρ := [some (.fro (ns.map .int)), none]) (μ := []) (melt := .call r [.call p [.v 0, .v 1]]) (mt := .nm 1) (ik := .range) (mits := [.bi .max2 [.k (.int 2), .bi .min2 [.bi .len [.v 0], .k (.int m)]]]) (own := [1]) (xs := [.int t]) Wf (List.range t) (fun (i : Nat) => .int (i : Int)) (fun _ => .bl true) hits (range_items ht []) rfl
    (fun i hi μ hμ => by
      obtain ⟨a, b, ha, h1⟩ := hp ns i μ hμ (by have := List.mem_range.mp hi; omega)
      have hw2 : Wf (μ ++ [purG a b]) := hμ.push rfl
      obtain ⟨μ', h2, h3⟩ := hr μ.length (μ ++ [purG a b]) hw2 ⟨a, b, cell_last, ha⟩
      refine ⟨[some (.fro (ns.map .int)), some (.int i)], μ', rfl, ?_, h3⟩
      simp only [ev_call, evs_cons, evs_nil, ev_v, R.bind_ok, List.getElem?_cons_zero, List.getElem?_cons_succ, h1, h2])
  have hall : biD .all [.lst ((List.range t).map fun _ => D.bl true)] μ' = .ok (.bl true) μ' := by
    rw [all_map (fun _ : Nat => true)]
    have : ((List.range t).all fun _ => true) = true := List.all_eq_true.mpr fun _ _ => rfl
    rw [this]
  have hb : exB Γ (lawDf r p m).body [some (.fro (ns.map .int)), none] [] = .rt (.bl true) μ' := by
    show exB Γ [.ret (.bi .all [.comp false (.call r [.call p [.v 0, .v 1]]) (.nm 1) .range [.bi .max2 [.k (.int 2), .bi .min2 [.bi .len [.v 0], .k (.int m)]]] [] [1]])] _ _ = _
    rw [exb_cons, ex_ret, ev_bi, evs_cons, hc]
    simp only [evs_nil, R.bind_ok, hall, R.thenF_ok, F.then_rt]
  rw [e, hb, fin_rt]
  unfold leave
  by_cases h0 : μ'.length = ([] : Sto).length
  · rw [if_pos h0]
    exact ⟨_, rfl⟩
  · have ht0 : (μ'.take ([] : Sto).length).all (belowC ([] : Sto).length) = true := rfl
    rw [if_neg h0, if_pos ht0]
    exact ⟨_, rfl⟩
end S
namespace V
theorem sumN_skip (f : Nat → Int) : ∀ (n p : Nat), p < n + 1 → sumN (n + 1) f = f p + sumN n fun j => f (if j < p then j else j + 1)
  | n, p, h => by
    by_cases e : p = n
    · subst e
      have : sumN p (fun j => f (if j < p then j else j + 1)) = sumN p f := sumN_congr fun j hj => by rw [if_pos hj]
      rw [this]
      show sumN p f + f p = _
      omega
    · cases n with
      | zero => omega
      | succ n =>
        have ih := sumN_skip f n p (by omega)
        show sumN (n + 1) f + f (n + 1) = f p + (sumN n (fun j => f (if j < p then j else j + 1)) + f (if n < p then n else n + 1))
        rw [ih, if_neg (by omega)]
        omega
theorem hom : ∀ (m n : Nat) (A : Nat → Nat → Int), m < n → ∃ x : Nat → Int, (∃ j, j < n ∧ x j ≠ 0) ∧ ∀ i, i < m → sumN n (fun j => A i j * x j) = 0
  | 0, n, A, h => ⟨fun _ => 1, ⟨0, h, by decide⟩, fun i hi => by omega⟩
  | m + 1, n, A, h => by
    by_cases hz : ∀ j, j < n → A m j = 0
    · obtain ⟨x, h1, h2⟩ := hom m n A (by omega)
      refine ⟨x, h1, fun i hi => ?_⟩
      by_cases e : i = m
      · subst e
        exact sumN_zero fun j hj => by rw [hz j hj, Int.zero_mul]
      · exact h2 i (by omega)
    · obtain ⟨p, hp, hne⟩ : ∃ p, p < n ∧ A m p ≠ 0 := by
        apply Classical.byContradiction
        intro hc
        exact hz fun j hj => Classical.byContradiction fun h0 => hc ⟨j, hj, h0⟩
      cases n with
      | zero => omega
      | succ n =>
        obtain ⟨x, ⟨j0, hj0, hx0⟩, h2⟩ := hom m n (fun i j => A m p * A i (if j < p then j else j + 1) - A i p * A m (if j < p then j else j + 1)) (by omega)
        have hsk : ∀ j, (if (if j < p then j else j + 1) < p then (if j < p then j else j + 1) else (if j < p then j else j + 1) - 1) = j ∧ (if j < p then j else j + 1) ≠ p := fun j => by
          by_cases hj : j < p
          · rw [if_pos hj, if_pos hj]
            exact ⟨rfl, by omega⟩
          · rw [if_neg hj, if_neg (by omega)]
            exact ⟨by omega, by omega⟩
        refine ⟨fun j => if j = p then -sumN n (fun j => A m (if j < p then j else j + 1) * x j) else A m p * x (if j < p then j else j - 1), ⟨if j0 < p then j0 else j0 + 1, by split <;> omega, ?_⟩, fun i hi => ?_⟩
        · show (if (if j0 < p then j0 else j0 + 1) = p then _ else _) ≠ 0
          rw [if_neg (hsk j0).2, (hsk j0).1]
          exact Int.mul_ne_zero hne hx0
        · rw [sumN_skip _ n p hp]
          show A i p * (if p = p then -sumN n (fun j => A m (if j < p then j else j + 1) * x j) else A m p * x (if p < p then p else p - 1)) + sumN n (fun j => A i (if j < p then j else j + 1) * (if (if j < p then j else j + 1) = p then -sumN n (fun j => A m (if j < p then j else j + 1) * x j) else A m p * x (if (if j < p then j else j + 1) < p then (if j < p then j else j + 1) else (if j < p then j else j + 1) - 1))) = 0
          rw [if_pos rfl]
          have e1 : sumN n (fun j => A i (if j < p then j else j + 1) * (if (if j < p then j else j + 1) = p then -sumN n (fun j => A m (if j < p then j else j + 1) * x j) else A m p * x (if (if j < p then j else j + 1) < p then (if j < p then j else j + 1) else (if j < p then j else j + 1) - 1))) = sumN n fun j => A m p * (A i (if j < p then j else j + 1) * x j) := sumN_congr fun j _ => by
            rw [if_neg (hsk j).2, (hsk j).1]
            exact Int.mul_left_comm _ _ _
          rw [e1, sumN_mul]
          by_cases e : i = m
          · subst e
            rw [Int.mul_neg]
            omega
          · have h3 := h2 i (by omega)
            have e2 : sumN n (fun j => (A m p * A i (if j < p then j else j + 1) - A i p * A m (if j < p then j else j + 1)) * x j) = A m p * sumN n (fun j => A i (if j < p then j else j + 1) * x j) + -(A i p) * sumN n (fun j => A m (if j < p then j else j + 1) * x j) := by
              rw [← sumN_mul, ← sumN_mul, ← sumN_add]
              exact sumN_congr fun j _ => by grind
            have h3 : sumN n (fun j => (A m p * A i (if j < p then j else j + 1) - A i p * A m (if j < p then j else j + 1)) * x j) = 0 := h3
            rw [e2] at h3
            rw [Int.mul_neg]
            rw [Int.neg_mul] at h3
            omega
def Spn (w n : Nat) (M : Nat → Nat → Int) (v : Nat → Int) : Prop := ∃ s : Int, s ≠ 0 ∧ ∃ c : Nat → Int, ∀ i, i < w → s * v i = sumN n fun j => c j * M j i
def Ind (w n : Nat) (M : Nat → Nat → Int) : Prop := ∀ c : Nat → Int, (∀ i, i < w → sumN n (fun j => c j * M j i) = 0) → ∀ j, j < n → c j = 0
section
variable {w n : Nat} {M : Nat → Nat → Int}
theorem Spn.at {j : Nat} (h : j < n) : Spn w n M (M j) := ⟨1, by decide, fun k => if k = j then 1 else 0, fun i _ => by
  have e : sumN n (fun k => (fun k => if k = j then 1 else 0) k * M k i) = _ := sumN_one (c := j) h fun k _ hk => by
    show (if k = j then (1 : Int) else 0) * M k i = 0
    rw [if_neg hk, Int.zero_mul]
  rw [e]
  show 1 * M j i = (if j = j then (1 : Int) else 0) * M j i
  rw [if_pos rfl]⟩
theorem Spn.zero {v : Nat → Int} (h : ∀ i, i < w → v i = 0) : Spn w n M v := ⟨1, by decide, fun _ => 0, fun i hi => by
  rw [h i hi, sumN_zero fun j _ => Int.zero_mul _]
  rfl⟩
theorem Spn.lin {u v x : Nat → Int} {a b s : Int} (hu : Spn w n M u) (hv : Spn w n M v) (hs : s ≠ 0) (h : ∀ i, i < w → s * x i = a * u i + b * v i) : Spn w n M x := by
  obtain ⟨s1, z1, c1, e1⟩ := hu
  obtain ⟨s2, z2, c2, e2⟩ := hv
  refine ⟨s1 * s2 * s, Int.mul_ne_zero (Int.mul_ne_zero z1 z2) hs, fun j => a * s2 * c1 j + b * s1 * c2 j, fun i hi => ?_⟩
  have e : sumN n (fun j => (a * s2 * c1 j + b * s1 * c2 j) * M j i) = a * s2 * sumN n (fun j => c1 j * M j i) + b * s1 * sumN n fun j => c2 j * M j i := by
    rw [← sumN_mul, ← sumN_mul, ← sumN_add]
    exact sumN_congr fun j _ => by grind
  rw [e, ← e1 i hi, ← e2 i hi, Int.mul_assoc (s1 * s2), h i hi]
  grind
theorem Spn.comb {b : Nat} {N : Nat → Nat → Int} : ∀ (n : Nat) (c : Nat → Int), (∀ j, j < n → Spn w b N (M j)) → Spn w b N fun i => sumN n fun j => c j * M j i
  | 0, _, _ => Spn.zero fun _ _ => rfl
  | n + 1, c, h => Spn.lin (a := 1) (b := c n) (s := 1) (Spn.comb n c fun j hj => h j (by omega)) (h n (by omega)) (by decide) fun i _ => by
    show 1 * (sumN n (fun j => c j * M j i) + c n * M n i) = _
    omega
theorem Spn.trans {b : Nat} {N : Nat → Nat → Int} {v : Nat → Int} (h : Spn w n M v) (hM : ∀ j, j < n → Spn w b N (M j)) : Spn w b N v := by
  obtain ⟨s, hs, c, e⟩ := h
  exact Spn.lin (a := 1) (b := 0) (s := s) (Spn.comb n c hM) (Spn.zero (v := fun _ => 0) fun _ _ => rfl) hs fun i hi => by
    rw [e i hi]
    omega
theorem Ind.le {b : Nat} {N : Nat → Nat → Int} (h : Ind w n M) (hs : ∀ j, j < n → Spn w b N (M j)) : n ≤ b := by
  apply Classical.byContradiction
  intro hn
  have hs : ∀ j, ∃ s : Int, ∃ c : Nat → Int, j < n → s ≠ 0 ∧ ∀ i, i < w → s * M j i = sumN b fun k => c k * N k i := fun j => by
    by_cases hj : j < n
    · obtain ⟨s, h1, c, h2⟩ := hs j hj
      exact ⟨s, c, fun _ => ⟨h1, h2⟩⟩
    · exact ⟨0, fun _ => 0, fun h => absurd h hj⟩
  obtain ⟨s, hs⟩ := Classical.axiomOfChoice hs
  obtain ⟨c, hs⟩ := Classical.axiomOfChoice hs
  obtain ⟨x, ⟨j0, hj0, hx0⟩, hx⟩ := hom b n (fun k j => c j k) (by omega)
  have := h (fun j => x j * s j) (fun i hi => ?_) j0 hj0
  · rcases Int.mul_eq_zero.mp this with z | z
    · exact hx0 z
    · exact (hs j0 hj0).1 z
  · have e1 : sumN n (fun j => x j * s j * M j i) = sumN n fun j => sumN b fun k => x j * (c j k * N k i) := sumN_congr fun j hj => by
      rw [sumN_mul, ← (hs j hj).2 i hi, Int.mul_assoc]
    rw [e1, sumN_comm]
    refine sumN_zero fun k hk => ?_
    have e2 : sumN n (fun j => x j * (c j k * N k i)) = N k i * sumN n fun j => c j k * x j := by
      rw [← sumN_mul]
      exact sumN_congr fun j _ => by grind
    rw [e2, hx k hk, Int.mul_zero]
end
def RankIs (w R : Nat) (M : Nat → Nat → Int) (r : Nat) : Prop := ∃ H : Nat → Nat → Int, Ind w r H ∧ (∀ j, j < r → Spn w R M (H j)) ∧ ∀ k, k < R → Spn w r H (M k)
section
variable {w R r : Nat} {M : Nat → Nat → Int}
theorem RankIs.le {r' R' : Nat} {M' : Nat → Nat → Int} (h : RankIs w R M r) (h' : RankIs w R' M' r') (hs : ∀ k, k < R → Spn w R' M' (M k)) : r ≤ r' := by
  obtain ⟨H, h1, h2, h3⟩ := h
  obtain ⟨H', g1, g2, g3⟩ := h'
  exact h1.le fun j hj => (h2 j hj).trans fun k hk => (hs k hk).trans g3
theorem RankIs.same {r' R' : Nat} {M' : Nat → Nat → Int} (h : RankIs w R M r) (h' : RankIs w R' M' r') (h1 : ∀ k, k < R → Spn w R' M' (M k)) (h2 : ∀ k, k < R' → Spn w R M (M' k)) : r = r' := Nat.le_antisymm (h.le h' h1) (h'.le h h2)
theorem RankIs.of {R' : Nat} {M' : Nat → Nat → Int} (h : RankIs w R M r) (h1 : ∀ k, k < R → Spn w R' M' (M k)) (h2 : ∀ k, k < R' → Spn w R M (M' k)) : RankIs w R' M' r := by
  obtain ⟨H, a, b, c⟩ := h
  exact ⟨H, a, fun j hj => (b j hj).trans h1, fun k hk => (h2 k hk).trans c⟩
theorem RankIs.apart {g y : Nat → Int} (h : RankIs w R M r) (hy : ∀ k, k < R → sumN w (fun i => M k i * y i) = 0) (hg : sumN w (fun i => g i * y i) ≠ 0) {M' : Nat → Nat → Int} (hM : ∀ k, k < R → ∀ i, M' k i = M k i) (hM' : ∀ i, M' R i = g i) : RankIs w (R + 1) M' (r + 1) := by
  obtain ⟨H, a, b, c⟩ := h
  have hy2 : ∀ j, j < r → sumN w (fun i => H j i * y i) = 0 := fun j hj => by
    obtain ⟨s, hs, d, e⟩ := b j hj
    have e1 : s * sumN w (fun i => H j i * y i) = sumN w fun i => sumN R fun k => d k * (M k i * y i) := by
      rw [← sumN_mul]
      exact sumN_congr fun i hi => by
        rw [← Int.mul_assoc, e i hi, Int.mul_comm, ← sumN_mul]
        exact sumN_congr fun k _ => by grind
    rw [sumN_comm] at e1
    have e0 : (sumN R fun k => sumN w fun i => d k * (M k i * y i)) = 0 := sumN_zero fun k hk => by rw [sumN_mul, hy k hk, Int.mul_zero]
    rw [e0] at e1
    rcases Int.mul_eq_zero.mp e1 with z | z
    · exact absurd z hs
    · exact z
  have hup : ∀ k, k < R → Spn w (R + 1) M' (M k) := fun k hk => by
    have := Spn.at (w := w) (n := R + 1) (M := M') (j := k) (by omega)
    rw [show M' k = M k from funext (hM k hk)] at this
    exact this
  refine ⟨fun j => if j < r then H j else g, fun d hd => ?_, fun j hj => ?_, fun k hk => ?_⟩
  · have hsum : ∀ i, sumN (r + 1) (fun j => d j * (if j < r then H j else g) i) = sumN r (fun j => d j * H j i) + d r * g i := fun i => by
      show sumN r (fun j => d j * (if j < r then H j else g) i) + d r * (if r < r then H r else g) i = _
      rw [if_neg (by omega)]
      congr 1
      exact sumN_congr fun j hj => by rw [if_pos hj]
    have h0 : d r * sumN w (fun i => g i * y i) = 0 := by
      have e : sumN w (fun i => sumN (r + 1) (fun j => d j * (if j < r then H j else g) i) * y i) = 0 := sumN_zero fun i hi => by rw [hd i hi, Int.zero_mul]
      have e2 : sumN w (fun i => sumN (r + 1) (fun j => d j * (if j < r then H j else g) i) * y i) = sumN w (fun i => sumN r fun j => d j * (H j i * y i)) + d r * sumN w fun i => g i * y i := by
        rw [← sumN_mul, ← sumN_add]
        exact sumN_congr fun i _ => by
          rw [hsum, Int.add_mul, Int.mul_comm (sumN r _) (y i), ← sumN_mul]
          congr 1
          · exact sumN_congr fun j _ => by grind
          · exact Int.mul_assoc _ _ _
      rw [e2, sumN_comm, sumN_zero fun j hj => by rw [sumN_mul, hy2 j hj, Int.mul_zero], Int.zero_add] at e
      exact e
    have hr : d r = 0 := by
      rcases Int.mul_eq_zero.mp h0 with z | z
      · exact z
      · exact absurd z hg
    intro j hj
    by_cases e : j = r
    · rw [e]
      exact hr
    · refine a d (fun i hi => ?_) j (by omega)
      have := hd i hi
      rw [hsum, hr, Int.zero_mul, Int.add_zero] at this
      exact this
  · show Spn w (R + 1) M' (if j < r then H j else g)
    by_cases e : j < r
    · rw [if_pos e]
      exact (b j e).trans hup
    · rw [if_neg e]
      have := Spn.at (w := w) (n := R + 1) (M := M') (j := R) (by omega)
      rw [show M' R = g from funext hM'] at this
      exact this
  · have hh : ∀ j, j < r → Spn w (r + 1) (fun j => if j < r then H j else g) (H j) := fun j hj => by
      have := Spn.at (w := w) (n := r + 1) (M := fun j => if j < r then H j else g) (j := j) (by omega)
      have e : (if j < r then H j else g) = H j := if_pos hj
      have this : Spn w (r + 1) (fun j => if j < r then H j else g) (if j < r then H j else g) := this
      rw [e] at this
      exact this
    by_cases e : k = R
    · subst e
      have := Spn.at (w := w) (n := r + 1) (M := fun j => if j < r then H j else g) (j := r) (by omega)
      have e : (if r < r then H r else g) = M' k := (if_neg (by omega)).trans (funext fun i => (hM' i).symm)
      have this : Spn w (r + 1) (fun j => if j < r then H j else g) (if r < r then H r else g) := this
      rw [e] at this
      exact this
    · rw [show M' k = M k from funext (hM k (by omega))]
      exact (c k (by omega)).trans hh
end
structure Strk (w R : Nat) (M N : Nat → Nat → Int) (c m : Nat) : Prop where
  mle : m ≤ R
  to_ : ∀ k, k < R → Spn w R M (N k)
  back : ∀ k, k < R → Spn w R N (M k)
  piv : ∃ col : Nat → Nat, ∀ i, i < m → col i < w ∧ N i (col i) ≠ 0 ∧ ∀ k, i < k → k < R → N k (col i) = 0
  zer : ∀ k, m ≤ k → k < R → ∀ i, i < c → N k i = 0
section
variable {w R c m : Nat} {M N : Nat → Nat → Int}
theorem Strk.start : Strk w R M M 0 0 := ⟨Nat.zero_le _, fun k hk => Spn.at hk, fun k hk => Spn.at hk, ⟨fun _ => 0, fun i hi => by omega⟩, fun k _ _ i hi => by omega⟩
theorem Strk.none (h : Strk w R M N c m) (h0 : ∀ k, m ≤ k → k < R → N k c = 0) : Strk w R M N (c + 1) m := ⟨h.mle, h.to_, h.back, h.piv, fun k h1 h2 i hi => by
  by_cases e : i = c
  · rw [e]
    exact h0 k h1 h2
  · exact h.zer k h1 h2 i (by omega)⟩
theorem Strk.eqv {N' : Nat → Nat → Int} (h : Strk w R M N c m) (e : ∀ k, k < R → N' k = N k) : Strk w R M N' c m := by
  refine ⟨h.mle, fun k hk => by rw [e k hk]; exact h.to_ k hk, fun k hk => (h.back k hk).trans fun j hj => ?_, ?_, fun k h1 h2 i hi => by rw [e k h2]; exact h.zer k h1 h2 i hi⟩
  · have := Spn.at (w := w) (n := R) (M := N') (j := j) hj
    rw [e j hj] at this
    exact this
  · obtain ⟨col, hcol⟩ := h.piv
    have hm := h.mle
    refine ⟨col, fun i hi => ?_⟩
    obtain ⟨c1, c2, c3⟩ := hcol i hi
    exact ⟨c1, by rw [e i (by omega)]; exact c2, fun k h1 h2 => by rw [e k h2]; exact c3 k h1 h2⟩
end
end V
namespace S
open PySem T
end S
namespace S
open PySem T
end S
namespace S
open PySem T
end S
namespace S
open PySem T
end S
namespace S
open PySem T
end S
namespace S
open PySem T
theorem dataLt_selfX (d : PyData) : PySem.W.dataLt d d = false := PyProof.Rows.lex_irrefl _
def wdL5 : List (List Nat) := [[102, 108, 105, 112], [104, 97, 108, 102], [110, 101, 120, 116], [116, 117, 114, 110], [120]]
def wd5 (i : Nat) : List Nat := wdL5.getD i []
def mvT (z : Nat × Im) : List Nat × Im := (wd5 z.1, z.2)
def mvD (z : Nat × Im) : D := tuT (mvT z)
def pyIm (im : Im) : PyData := .tuple (im.map fun q => .tuple [.int q.1, .int q.2])
def pyMv (z : Nat × Im) : PyData := .tuple [.str (SX.S (wd5 z.1)), pyIm z.2]
theorem toPys_im : ∀ im : Im, toPys (im.map imD) = some (im.map fun q => .tuple [.int q.1, .int q.2])
  | [] => rfl
  | q :: im => by
    show (toPy (imD q)).bind (fun a => (toPys (im.map imD)).map (a :: ·)) = _
    rw [toPys_im im]
    rfl
theorem toPy_mv (z : Nat × Im) : toPy (mvD z) = some (pyMv z) := by
  have h2 : toPy (imTu z.2) = some (pyIm z.2) := by
    show ((toPys (z.2.map imD)).map PyData.tuple) = _
    rw [toPys_im]
    rfl
  show ((toPy (.str (SX.S (wd5 z.1)))).bind fun a => ((toPy (imTu z.2)).bind fun b => (some ([] : List PyData)).map (b :: ·)).map (a :: ·)).map PyData.tuple = _
  rw [h2]
  rfl
theorem toPys_mvs : ∀ zs : List (Nat × Im), toPys (zs.map mvD) = some (zs.map pyMv)
  | [] => rfl
  | z :: zs => by
    show (toPy (mvD z)).bind (fun a => (toPys (zs.map mvD)).map (a :: ·)) = _
    rw [toPys_mvs zs, toPy_mv]
    rfl
theorem alike_ims : ∀ a b : Im, PySem.W.alikeAll (a.map fun q => .tuple [.int q.1, .int q.2]) (b.map fun q => .tuple [.int q.1, .int q.2]) = true
  | [], b => by simp [PySem.W.alikeAll]
  | _ :: _, [] => by simp [PySem.W.alikeAll]
  | p :: a, q :: b => by
    have h := alike_ims a b
    simp only [List.map_cons, PySem.W.alikeAll, PySem.W.alike, h, Bool.and_true, Bool.true_and]
    try simp [PySem.W.alikeAll]
theorem alike_mv (a b : Nat × Im) : PySem.W.alike (pyMv a) (pyMv b) = true := by
  have h := alike_ims a.2 b.2
  simp only [pyMv, pyIm, PySem.W.alike, PySem.W.alikeAll, h, Bool.and_true, Bool.true_and]
  try simp
theorem dep_ims : ∀ a : Im, PyData.depthAll (a.map fun q => .tuple [.int q.1, .int q.2]) ≤ 1
  | [] => by decide
  | q :: a => by
    have h := dep_ims a
    show max (PyData.depthAll [.int q.1, .int (q.2 : Int)] + 1) (PyData.depthAll (a.map fun q => .tuple [.int q.1, .int q.2])) ≤ 1
    exact Nat.max_le.mpr ⟨by show max 0 (max 0 0) + 1 ≤ 1; decide, h⟩
theorem dep_mv (z : Nat × Im) : (pyMv z).depth ≤ 60 := by
  have h := dep_ims z.2
  show max 0 (max (PyData.depthAll (z.2.map fun q => .tuple [.int q.1, .int q.2]) + 1) 0) + 1 ≤ 60
  omega
theorem wd5_lt : ∀ i, i < 5 → ∀ j, j < 5 → PySem.W.dataLt (.str (SX.S (wd5 i))) (.str (SX.S (wd5 j))) = decide (i < j) := by decide +kernel
theorem wd5_ne : ∀ i, i < 5 → ∀ j, j < 5 → i ≠ j → PyData.eqv (.str (SX.S (wd5 i))) (.str (SX.S (wd5 j))) = false := by decide +kernel
theorem wd5_ltS : ∀ i, i < 5 → ∀ j, j < 5 → i < j → ltS (SX.S (wd5 i)) (SX.S (wd5 j)) = true := by decide +kernel
theorem wd5_wrd : ∀ i, i < 5 → (1 ≤ (wd5 i).length ∧ (wd5 i).length ≤ 8) ∧ ∀ c ∈ wd5 i, 97 ≤ c ∧ c ≤ 122 := by decide +kernel
theorem wd5_nm9 : ∀ i, i < 5 → ∀ j, j < 9 → wd5 i ≠ nm9 j := by decide +kernel
theorem mv_le {a b : Nat × Im} (ha : a.1 < 5) (hb : b.1 < 5) (h : a.1 = b.1 → a = b) : PySem.W.dataLe false (fun z : D × PyData => z.2) (mvD a, pyMv a) (mvD b, pyMv b) = decide (a.1 ≤ b.1) := by
  show (!PySem.W.dataLt (pyMv b) (pyMv a)) = _
  by_cases e : a.1 = b.1
  · rw [h e, dataLt_selfX, decide_eq_true (Nat.le_refl _)]
    rfl
  · have h1 : PySem.W.dataLt (pyMv b) (pyMv a) = PySem.W.dataLt (.str (SX.S (wd5 b.1))) (.str (SX.S (wd5 a.1))) := by
      unfold pyMv
      rw [PySem.W.dataLt_tuple]
      exact PySem.W.dataLt_all_no (by simp [PySem.W.alike]) (wd5_ne _ hb _ ha fun z => e z.symm)
    rw [h1, wd5_lt _ hb _ ha, ← decide_not, decide_eq_decide]
    omega
theorem sorted_mvs (zs : List (Nat × Im)) (h5 : ∀ z ∈ zs, z.1 < 5) (hn : (zs.map (·.1)).Nodup) {μ : Sto} {X : D} (hX : lstOf μ X = some (zs.map mvD)) : ∃ ys : List (Nat × Im), biD .sorted [X] μ = .ok (.lst (ys.map mvD)) μ ∧ ys.Perm zs ∧ ys.Pairwise fun a b => a.1 < b.1 := by
  have hq := toPys_mvs zs
  have h1 : alikes (zs.map pyMv) = true := by
    unfold alikes
    rw [List.all_eq_true]
    intro a ha
    rw [List.all_eq_true]
    intro b hb
    obtain ⟨x, _, rfl⟩ := List.mem_map.mp ha
    obtain ⟨y, _, rfl⟩ := List.mem_map.mp hb
    exact alike_mv x y
  have h2 : sortableB (zs.map pyMv) = true := by
    unfold sortableB
    rw [Bool.or_eq_true]
    left
    rw [List.all_eq_true]
    intro a ha
    obtain ⟨x, _, rfl⟩ := List.mem_map.mp ha
    rfl
  have h3 : (zs.map pyMv).all (fun q => decide (q.depth ≤ 60)) = true := by
    rw [List.all_eq_true]
    intro a ha
    obtain ⟨x, _, rfl⟩ := List.mem_map.mp ha
    exact decide_eq_true (dep_mv x)
  have hs : biD .sorted [X] μ = .ok (.lst (sortD (zs.map mvD) (zs.map pyMv))) μ := by
    show (match lstOf μ X with
      | some ds => (match toPys ds with
        | some qs => if alikes qs && sortableB qs && qs.all (fun q => decide (q.depth ≤ 60)) then R.ok (D.lst (sortD ds qs)) μ else R.bad
        | none => R.bad)
      | none => R.bad) = _
    simp only [hX, hq, h1, h2, h3, Bool.and_true, if_true]
  have hz : (zs.map mvD).zip (zs.map pyMv) = zs.map fun m => (mvD m, pyMv m) := List.zip_map'
  have hinj : ∀ a ∈ zs, ∀ b ∈ zs, a.1 = b.1 → a = b := fun a ha b hb e => by
    obtain ⟨i, hi, rfl⟩ := List.getElem_of_mem ha
    obtain ⟨j, hj, rfl⟩ := List.getElem_of_mem hb
    have hp := List.pairwise_iff_getElem.mp hn
    rcases Nat.lt_trichotomy i j with h | h | h
    · exact absurd (by rw [List.getElem_map, List.getElem_map]; exact e) (hp i j (by rw [List.length_map]; exact hi) (by rw [List.length_map]; exact hj) h)
    · subst h
      rfl
    · exact absurd (by rw [List.getElem_map, List.getElem_map]; exact e.symm) (hp j i (by rw [List.length_map]; exact hj) (by rw [List.length_map]; exact hi) h)
  have hm := List.map_mergeSort (r := fun a b : Nat × Im => decide (a.1 ≤ b.1)) (s := PySem.W.dataLe false fun z : D × PyData => z.2) (f := fun m => (mvD m, pyMv m)) (l := zs) fun a ha b hb => (mv_le (h5 a ha) (h5 b hb) (hinj a ha b hb)).symm
  have hpm := List.mergeSort_perm zs fun a b : Nat × Im => decide (a.1 ≤ b.1)
  have hpw := List.pairwise_mergeSort (le := fun a b : Nat × Im => decide (a.1 ≤ b.1)) (fun a b c h1 h2 => decide_eq_true (Nat.le_trans (of_decide_eq_true h1) (of_decide_eq_true h2))) (fun a b => by
    rw [Bool.or_eq_true, decide_eq_true_iff, decide_eq_true_iff]
    exact Nat.le_total a.1 b.1) zs
  have e : sortD (zs.map mvD) (zs.map pyMv) = (zs.mergeSort fun a b => decide (a.1 ≤ b.1)).map mvD := by
    unfold sortD
    rw [hz, ← hm, List.map_map]
    rfl
  rw [e] at hs
  refine ⟨_, hs, hpm, ?_⟩
  have hnd : ((zs.mergeSort fun a b => decide (a.1 ≤ b.1)).map (·.1)).Nodup := (hpm.map _).nodup_iff.mpr hn
  exact (hpw.and (List.pairwise_map.mp hnd)).imp fun {a b} h => Nat.lt_of_le_of_ne (of_decide_eq_true h.1) h.2
def schM (js : List Nat) (zs : List (Nat × Im)) : Sch := ⟨js.map nm9, zs.map mvT⟩
theorem schM_ok {js : List Nat} {zs : List (Nat × Im)} (h : SchOk (sch9 js)) (h9 : ∀ j ∈ js, j < 9) (h4 : zs.length ≤ 4) (h5 : ∀ z ∈ zs, z.1 < 5) (hp : zs.Pairwise fun a b => a.1 < b.1) (him : ∀ z ∈ zs, TurnOk js.length z.2) : SchOk (schM js zs) := by
  have hl : (schM js zs).ns.length = js.length := List.length_map _
  refine ⟨h.ne, h.n6, h.nw, h.nr, by show (zs.map mvT).length ≤ 4; rw [List.length_map]; exact h4, fun t ht => ?_, ?_, fun t ht => ?_, fun t ht => ?_, fun t ht => ?_, fun t ht => ?_⟩
  · obtain ⟨z, hz, rfl⟩ := List.mem_map.mp ht
    obtain ⟨⟨a, b⟩, c⟩ := wd5_wrd z.1 (h5 z hz)
    exact ⟨a, b, c⟩
  · unfold risB
    rw [List.all_eq_true]
    intro i hi
    have hi := List.mem_range.mp hi
    have hl : ((schM js zs).ts.map fun t => SX.S t.1).length = zs.length := by
      show ((zs.map mvT).map fun t => SX.S t.1).length = _
      rw [List.length_map, List.length_map]
    rw [hl] at hi
    have hat : ∀ i (h : i < zs.length), ((schM js zs).ts.map fun t => SX.S t.1).getD i "" = SX.S (wd5 zs[i].1) := fun i h => by
      show ((zs.map mvT).map fun t => SX.S t.1).getD i "" = _
      rw [List.getD_eq_getElem?_getD, List.getElem?_map, List.getElem?_map, List.getElem?_eq_getElem h]
      rfl
    rw [hat i (by omega), hat (i + 1) (by omega)]
    exact wd5_ltS _ (h5 _ (List.getElem_mem _)) _ (h5 _ (List.getElem_mem _)) (List.pairwise_iff_getElem.mp hp i (i + 1) (by omega) (by omega) (by omega))
  · obtain ⟨z, hz, rfl⟩ := List.mem_map.mp ht
    intro hm
    obtain ⟨j, hj, e⟩ := List.mem_map.mp hm
    exact wd5_nm9 z.1 (h5 z hz) j (h9 j hj) e.symm
  · obtain ⟨z, hz, rfl⟩ := List.mem_map.mp ht
    rw [hl]
    exact (him z hz).len
  · obtain ⟨z, hz, rfl⟩ := List.mem_map.mp ht
    rw [hl]
    exact (him z hz).sg
  · obtain ⟨z, hz, rfl⟩ := List.mem_map.mp ht
    exact (him z hz).nd
end S
namespace S
open PySem T
abbrev Z11 (a b c d e f g h i j k : Option D) : T.Env := [a, b, c, d, e, f, g, h, i, j, k]
section
variable {A B C : Cell} {cs ex : List Cell}
theorem gA : (cs ++ A :: B :: ex)[cs.length]? = some A := by
  rw [List.getElem?_append_right (Nat.le_refl _), Nat.sub_self]
  rfl
theorem gB2 : (cs ++ A :: B :: ex)[cs.length + 1]? = some B := by
  rw [List.getElem?_append_right (by omega), show cs.length + 1 - cs.length = 1 by omega]
  rfl
theorem sA : (cs ++ A :: B :: ex).set cs.length C = cs ++ C :: B :: ex := by
  rw [List.set_append_right _ _ (Nat.le_refl _), Nat.sub_self]
  rfl
theorem sB2 : (cs ++ A :: B :: ex).set (cs.length + 1) C = cs ++ A :: C :: ex := by
  rw [List.set_append_right _ _ (by omega), show cs.length + 1 - cs.length = 1 by omega]
  rfl
end
def wdD (i : Nat) : D := .str (SX.S (wd5 i))
theorem wds5 : [D.str "flip", .str "half", .str "next", .str "turn", .str "x"] = (List.range 5).map wdD := by
  have h : (["flip", "half", "next", "turn", "x"] : List Str) = (List.range 5).map fun i => SX.S (wd5 i) := by decide +kernel
  show (["flip", "half", "next", "turn", "x"] : List Str).map D.str = _
  rw [h, List.map_map]
  rfl
abbrev mvIn (t : Nat) : List Ss := [(.asg (.nm 10) (.ife (.v 6) (.k (.int 0)) (.call t [(.v 0), (.bi .len [(.v 8)])]))), (.ex (.me .append (.v 9) [(.tup [(.ife (.cmp .eq (.call t [(.v 0), (.k (.int 2))]) (.k (.int 0))) (.k (.int 1)) (.neg (.k (.int 1)))), (.me .pop (.v 8) [(.v 10)])])]))]
abbrev mvOut (t : Nat) : List Ss := [(.asg (.tp [(.nm 8), (.nm 9)]) (.tup [(.bi .crange1 [(.v 1)]), (.clst [])])), (.asg (.nm 6) (.cmp .eq (.call t [(.v 0), (.k (.int 3))]) (.k (.int 0)))), (.loop (.nm 7) .range [(.v 1)] (mvIn t)), (.ex (.me .append (.v 5) [(.tup [(.me .pop (.v 4) [(.call t [(.v 0), (.bi .len [(.v 4)])])]), (.bi .tuple [(.v 9)])])]))]
def movesDf (t : Nat) : Df := ⟨3, 11, false, [(.asg (.tp [(.nm 4), (.nm 5)]) (.tup [(.clst [(.k (.str "flip")), (.k (.str "half")), (.k (.str "next")), (.k (.str "turn")), (.k (.str "x"))]), (.clst [])])), (.loop (.nm 3) .range [(.call t [(.v 0), (.bin .add (.v 2) (.k (.int 1)))])] (mvOut t)), (.ret (.bi .sorted [(.v 5)]))]⟩
section
variable {Γ : Tb} {t : Nat} {μ : Sto} {L k m n : Nat}
theorem len_nats {left : List Nat} {cs : List Cell} {i : Nat} (hs : StG L k m cs μ) (hc : cs[i]? = some (.lst (natsD left))) : biD .len [.cell (L + i)] μ = .ok (.int (left.length : Int)) μ := by
  have := (hs.lst hc).2
  show optR (seqOf μ (.cell (L + i))) μ _ = _
  rw [this]
  show R.ok (D.int ((natsD left).length : Int)) μ = _
  unfold natsD
  rw [List.length_map]
theorem mv_inner (ht : SDraw (Γ.fn t)) {N : T.Env → Sto → Prop} {Rt : D → Sto → Prop} {bs : List Cell} {v2 v3 v4 v5 y7 y10 : Option D} {pl : Bool} (hn : n ≤ 6) (hs : StG L k m (bs ++ [.lst (natsD (List.range n)), .lst []]) μ)
    (hN : ∀ (im : Im) (left : List Nat) (y7 y10 : Option D) (μ' : Sto), TurnOk n im → StG L k m (bs ++ [.lst (natsD left), .lst (im.map imD)]) μ' → N (Z11 (some (.cell k)) (some (.int (n : Int))) v2 v3 v4 v5 (some (.bl pl)) y7 (some (.cell (L + bs.length))) (some (.cell (L + (bs.length + 1)))) y10) μ') :
    wpF (exS Γ (.loop (.nm 7) .range [(.v 1)] (mvIn t)) (Z11 (some (.cell k)) (some (.int (n : Int))) v2 v3 v4 v5 (some (.bl pl)) y7 (some (.cell (L + bs.length))) (some (.cell (L + (bs.length + 1)))) y10) μ) N Rt := by
  refine wp_loop (xs := [.int (n : Int)]) (μ1 := μ) rfl (range_items (n := n) (by omega) _) ?_
  refine wp_for (fun j ρ μ => ∃ (left : List Nat) (im : Im) (y7 y10 : Option D), ρ = Z11 (some (.cell k)) (some (.int (n : Int))) v2 v3 v4 v5 (some (.bl pl)) y7 (some (.cell (L + bs.length))) (some (.cell (L + (bs.length + 1)))) y10 ∧ StG L k m (bs ++ [.lst (natsD left), .lst (im.map imD)]) μ ∧ left.length = n - j ∧ im.length = j ∧ (∀ q ∈ im, q.1 = 1 ∨ q.1 = -1) ∧ (left ++ im.map (·.2)).Perm (List.range n)) (List.range n) (fun (i : Nat) => .int (i : Int)) [] (fun _ _ _ _ p hp => by cases hp)
    ⟨List.range n, [], y7, y10, rfl, hs, by simp, rfl, (fun q hq => by cases hq), (by rw [List.map_nil, List.append_nil])⟩ ?_ ?_
  · rintro j q hq ρ μ0 ⟨left, im, y7, y10, rfl, hs0, hll, hil, hsg, hpm⟩
    have hj : j < n := by
      have := (List.getElem?_eq_some_iff.mp hq).1
      simpa using this
    refine ⟨Z11 (some (.cell k)) (some (.int (n : Int))) v2 v3 v4 v5 (some (.bl pl)) (some (.int (q : Int))) (some (.cell (L + bs.length))) (some (.cell (L + (bs.length + 1)))) y10, rfl, ?_⟩
    have spot : ∀ Q : D → Sto → Prop, (∀ (x : Nat) (μ' : Sto), x < left.length → StG L k m (bs ++ [.lst (natsD left), .lst (im.map imD)]) μ' → Q (.int (x : Int)) μ') → wpR (evE Γ (.ife (.v 6) (.k (.int 0)) (.call t [(.v 0), (.bi .len [(.v 8)])])) (Z11 (some (.cell k)) (some (.int (n : Int))) v2 v3 v4 v5 (some (.bl pl)) (some (.int (q : Int))) (some (.cell (L + bs.length))) (some (.cell (L + (bs.length + 1)))) y10) μ0) Q := fun Q hQ => by
      rw [ev_ife]
      show wpR ((R.ok (D.bl pl) μ0).bind _) Q
      rw [R.bind_ok, tru_bl]
      cases pl with
      | true =>
        rw [if_pos rfl]
        exact wp_k (show Q (.int ((0 : Nat) : Int)) μ0 from hQ 0 μ0 (by omega) hs0)
      | false =>
        rw [if_neg Bool.false_ne_true]
        have hlc := len_nats hs0 (i := bs.length) gA
        refine wp_drE ht (L := L) (m := m) (cs := bs ++ [.lst (natsD left), .lst (im.map imD)]) (many := (left.length : Int)) rfl (by simp only [hlc, evz]) hs0 (by omega) (by omega) fun x μ1 x0 x1 hs1 => ?_
        obtain ⟨x, rfl⟩ := Int.eq_ofNat_of_zero_le x0
        exact hQ x μ1 (by omega) hs1
    refine wp_cons (wp_asg (spot _ fun x μ1 hx hs1 => ?_))
    show wpF (exB Γ _ (Z11 (some (.cell k)) (some (.int (n : Int))) v2 v3 v4 v5 (some (.bl pl)) (some (.int (q : Int))) (some (.cell (L + bs.length))) (some (.cell (L + (bs.length + 1)))) (some (.int (x : Int)))) μ1) _ _
    refine wp_cons (wp_appendXG (L := L) (k := k) (i := bs.length + 1) hs1 rfl gB2 (wp_t2 ?_))
    obtain ⟨d2, μ2, e2, c, rfl, c0, c1, hs2⟩ := wpR_ex (ht L k m _ μ1 2 (fun d μ' => ∃ c : Int, d = .int c ∧ 0 ≤ c ∧ c < 2 ∧ StG L k m (bs ++ [.lst (natsD left), .lst (im.map imD)]) μ') hs1 (by decide) (by decide) fun i μ' a b c => ⟨i, rfl, a, b, c⟩)
    have hsign : ∃ s : Int, (s = 1 ∨ s = -1) ∧ evE Γ (.ife (.cmp .eq (.call t [(.v 0), (.k (.int 2))]) (.k (.int 0))) (.k (.int 1)) (.neg (.k (.int 1)))) (Z11 (some (.cell k)) (some (.int (n : Int))) v2 v3 v4 v5 (some (.bl pl)) (some (.int (q : Int))) (some (.cell (L + bs.length))) (some (.cell (L + (bs.length + 1)))) (some (.int (x : Int)))) μ1 = .ok (.int s) μ2 := by
      have hc : evE Γ (.cmp .eq (.call t [(.v 0), (.k (.int 2))]) (.k (.int 0))) (Z11 (some (.cell k)) (some (.int (n : Int))) v2 v3 v4 v5 (some (.bl pl)) (some (.int (q : Int))) (some (.cell (L + bs.length))) (some (.cell (L + (bs.length + 1)))) (some (.int (x : Int)))) μ1 = .ok (.bl (decide (c = 0))) μ2 := by
        simp only [e2, eq_int, evz]
      by_cases h : c = 0
      · refine ⟨1, .inl rfl, ?_⟩
        rw [ev_ife, hc, R.bind_ok, tru_bl, decide_eq_true h, if_pos rfl]
        rfl
      · refine ⟨-1, .inr rfl, ?_⟩
        rw [ev_ife, hc, R.bind_ok, tru_bl, decide_eq_false h, if_neg Bool.false_ne_true]
        rfl
    obtain ⟨s, hs', es⟩ := hsign
    refine wpR_of es ?_
    have hlx : left[x]? = some left[x] := List.getElem?_eq_getElem hx
    generalize left[x] = p at hlx
    refine wp_popG (L := L) (k := k) (m := m) (m' := m) (ci := bs.length) (cs := bs ++ [.lst (natsD left), .lst (im.map imD)]) (Bs := natsD left) hs2 rfl gA (wp_v rfl ⟨x, .int (p : Int), rfl, hs2, by unfold natsD; rw [List.getElem?_map, hlx]; rfl, fun μ3 hs3 => ?_⟩)
    rw [sA] at hs3
    refine ⟨m, _, im.map imD, hs3, gB2, by rw [List.length_map]; omega, fun μ4 hs4 => ?_⟩
    rw [sB2] at hs4
    refine wp_nil ⟨left.eraseIdx x, im ++ [(s, p)], _, _, rfl, ?_, by rw [List.length_eraseIdx_of_lt hx]; omega, by rw [List.length_append, hil]; rfl, fun q hq => ?_, ?_⟩
    · have e1 : natsD (left.eraseIdx x) = (natsD left).eraseIdx x := by
        unfold natsD
        exact (map_erase left x).symm
      have e2 : (im ++ [(s, p)]).map imD = im.map imD ++ [.tup [.int s, .int (p : Int)]] := by rw [List.map_append]; rfl
      rw [e1, e2]
      exact hs4
    · rcases List.mem_append.mp hq with hq | hq
      · exact hsg q hq
      · rw [List.mem_singleton] at hq
        subst hq
        exact hs'
    · rw [List.map_append]
      exact perm_pop hlx hpm
  · rintro ρ μ0 ⟨left, im, y7, y10, rfl, hs0, hll, hil, hsg, hpm⟩
    rw [List.length_range] at hll hil
    have hl0 : left = [] := List.length_eq_zero_iff.mp (by omega)
    subst hl0
    have hpm : (im.map (·.2)).Perm (List.range n) := hpm
    refine hN im [] y7 y10 μ0 ⟨hil, fun q hq => ⟨hsg q hq, ?_⟩, hpm.nodup_iff.mpr List.nodup_range⟩ hs0
    exact List.mem_range.mp (hpm.mem_iff.mp (List.mem_map.mpr ⟨q, hq, rfl⟩))
def SMovesD (F : FnS) : Prop := ∀ (L k m n : Nat) (cs : List Cell) (μ : Sto) (Q : D → Sto → Prop), StG L k m cs μ → cs.all (belowC L) = true → n ≤ 6 →
  (∀ (zs : List (Nat × Im)) (μ' : Sto), zs.length ≤ 4 → (∀ z ∈ zs, z.1 < 5) → (zs.Pairwise fun a b => a.1 < b.1) → (∀ z ∈ zs, TurnOk n z.2) → StG L k m cs μ' → Q (.lst (zs.map mvD)) μ') → wpR (F [.cell k, .int (n : Int), .int 4] μ) Q
theorem s_moves (ht : SDraw (Γ.fn t)) : SMovesD (runD Γ (movesDf t)) := by
  intro L k m n cs μ Q hs hcs hn hQ
  have hlen : μ.length = L + cs.length := hs.len
  refine wp_run rfl ?_
  show wpF (exB Γ [_, .loop _ _ _ _, .ret _] (Z11 (some (.cell k)) (some (.int (n : Int))) (some (.int 4)) none none none none none none none none) μ) _ _
  have hcl : evE Γ (.clst [(.k (.str "flip")), (.k (.str "half")), (.k (.str "next")), (.k (.str "turn")), (.k (.str "x"))]) (Z11 (some (.cell k)) (some (.int (n : Int))) (some (.int 4)) none none none none none none none none) μ = .ok (.cell μ.length) (μ ++ [.lst ((List.range 5).map wdD)]) := by
    rw [← wds5]
    rfl
  have hI0 : ∃ js0 : List Nat, js0.map wdD = (List.range 5).map wdD ∧ js0.Perm (List.range 5) := ⟨_, rfl, List.Perm.refl _⟩
  generalize (List.range 5).map wdD = W5 at *
  obtain ⟨js0, hjs0, hpm0⟩ := hI0
  refine wp_cons (wp_asg2 (wp_pure hcl (wp_pure clst0 ?_)))
  have hst : StG L k m (cs ++ [.lst W5, .lst []]) ((μ ++ [.lst W5]) ++ [.lst []]) := by
    have := (hs.new (.lst W5)).new (.lst [])
    rwa [List.append_assoc] at this
  have hl2 : (μ ++ [Cell.lst W5]).length = L + (cs.length + 1) := by rw [List.length_append, hlen]; rfl
  rw [hl2, hlen]
  generalize (μ ++ [Cell.lst W5]) ++ [Cell.lst []] = μ1 at *
  show wpF (exB Γ _ (Z11 (some (.cell k)) (some (.int (n : Int))) (some (.int 4)) none (some (.cell (L + cs.length))) (some (.cell (L + (cs.length + 1)))) none none none none none) μ1) _ _
  obtain ⟨d2, μ2, e2, c, rfl, c0, c1, hs2⟩ := wpR_ex (ht L k m _ μ1 5 (fun d μ' => ∃ c : Int, d = .int c ∧ 0 ≤ c ∧ c < 5 ∧ StG L k m (cs ++ [.lst W5, .lst []]) μ') hst (by decide) (by decide) fun i μ' a b c => ⟨i, rfl, a, b, c⟩)
  obtain ⟨tt, rfl⟩ := Int.eq_ofNat_of_zero_le c0
  have hits : evEs Γ [(.call t [(.v 0), (.bin .add (.v 2) (.k (.int 1)))])] (Z11 (some (.cell k)) (some (.int (n : Int))) (some (.int 4)) none (some (.cell (L + cs.length))) (some (.cell (L + (cs.length + 1)))) none none none none none) μ1 = .ok [.int (tt : Int)] μ2 := by
    have a4 : binD .add (.int 4) (.int 1) μ1 = .ok (.int 5) μ1 := rfl
    simp only [a4, e2, evz]
  refine wp_cons (wp_loop hits (range_items (by omega) μ2) ?_)
  refine wp_for (fun j ρ μ => ∃ (left : List Nat) (zs : List (Nat × Im)) (ex : List Cell) (y3 y6 y7 y8 y9 y10 : Option D), ρ = Z11 (some (.cell k)) (some (.int (n : Int))) (some (.int 4)) y3 (some (.cell (L + cs.length))) (some (.cell (L + (cs.length + 1)))) y6 y7 y8 y9 y10 ∧ StG L k m (cs ++ .lst (left.map wdD) :: .lst (zs.map mvD) :: ex) μ ∧ zs.length = j ∧ left.length = 5 - j ∧ (left ++ zs.map (·.1)).Perm (List.range 5) ∧ ∀ z ∈ zs, TurnOk n z.2) (List.range tt) (fun (i : Nat) => .int (i : Int)) [] (fun _ _ _ _ p hp => by cases hp)
    ⟨js0, [], [], none, none, none, none, none, none, rfl, by rw [hjs0]; exact hs2, rfl, by rw [hpm0.length_eq]; rfl, by rw [List.map_nil, List.append_nil]; exact hpm0, fun z hz => by cases hz⟩ ?_ ?_
  · rintro j q hq ρ μ3 ⟨left, zs, ex, y3, y6, y7, y8, y9, y10, rfl, hs3, hzl, hll, hpm, him⟩
    have hj : j < tt := by
      have := (List.getElem?_eq_some_iff.mp hq).1
      simpa using this
    refine ⟨Z11 (some (.cell k)) (some (.int (n : Int))) (some (.int 4)) (some (.int (q : Int))) (some (.cell (L + cs.length))) (some (.cell (L + (cs.length + 1)))) y6 y7 y8 y9 y10, rfl, ?_⟩
    generalize hbs : cs ++ Cell.lst (left.map wdD) :: Cell.lst (zs.map mvD) :: ex = bs at *
    have hlen3 : μ3.length = L + bs.length := hs3.len
    have hcr : evE Γ (.bi .crange1 [.v 1]) (Z11 (some (.cell k)) (some (.int (n : Int))) (some (.int 4)) (some (.int (q : Int))) (some (.cell (L + cs.length))) (some (.cell (L + (cs.length + 1)))) y6 y7 y8 y9 y10) μ3 = .ok (.cell μ3.length) (μ3 ++ [.lst (natsD (List.range n))]) := by
      show (if (decide (0 ≤ (n : Int)) && fits (n : Int).toNat) = true then R.ok (D.cell μ3.length) (μ3 ++ [.lst ((List.range (n : Int).toNat).map fun (i : Nat) => .int (i : Int))]) else .bad) = _
      rw [decide_eq_true (show 0 ≤ (n : Int) by omega), Int.toNat_natCast, fits_small (show n ≤ 1000 by omega)]
      rfl
    refine wp_cons (wp_asg2 (wp_pure hcr (wp_pure clst0 ?_)))
    have hst3 : StG L k m (bs ++ [.lst (natsD (List.range n)), .lst []]) ((μ3 ++ [.lst (natsD (List.range n))]) ++ [.lst []]) := by
      have := (hs3.new (.lst (natsD (List.range n)))).new (.lst [])
      rwa [List.append_assoc] at this
    have hl3 : (μ3 ++ [Cell.lst (natsD (List.range n))]).length = L + (bs.length + 1) := by rw [List.length_append, hlen3]; rfl
    rw [hl3, hlen3]
    generalize (μ3 ++ [Cell.lst (natsD (List.range n))]) ++ [Cell.lst []] = μ4 at *
    show wpF (exB Γ _ (Z11 (some (.cell k)) (some (.int (n : Int))) (some (.int 4)) (some (.int (q : Int))) (some (.cell (L + cs.length))) (some (.cell (L + (cs.length + 1)))) y6 y7 (some (.cell (L + bs.length))) (some (.cell (L + (bs.length + 1)))) y10) μ4) _ _
    obtain ⟨d5, μ5, e5, c5, rfl, _, _, hs5⟩ := wpR_ex (ht L k m _ μ4 3 (fun d μ' => ∃ c : Int, d = .int c ∧ 0 ≤ c ∧ c < 3 ∧ StG L k m (bs ++ [.lst (natsD (List.range n)), .lst []]) μ') hst3 (by decide) (by decide) fun i μ' a b c => ⟨i, rfl, a, b, c⟩)
    refine wp_cons (wp_asg (wpR_of (a := .bl (decide (c5 = 0))) (μ := μ5) (by simp only [e5, eq_int, evz]) ?_))
    show wpF (exB Γ _ (Z11 (some (.cell k)) (some (.int (n : Int))) (some (.int 4)) (some (.int (q : Int))) (some (.cell (L + cs.length))) (some (.cell (L + (cs.length + 1)))) (some (.bl (decide (c5 = 0)))) y7 (some (.cell (L + bs.length))) (some (.cell (L + (bs.length + 1)))) y10) μ5) _ _
    refine wp_cons (mv_inner ht hn hs5 fun im rest y7 y10 μ6 hT hs6 => ?_)
    have hbs2 : bs ++ [.lst (natsD rest), .lst (im.map imD)] = cs ++ Cell.lst (left.map wdD) :: Cell.lst (zs.map mvD) :: (ex ++ [.lst (natsD rest), .lst (im.map imD)]) := by
      rw [← hbs, List.append_assoc]
      rfl
    have g9 : (bs ++ [Cell.lst (natsD rest), .lst (im.map imD)])[bs.length + 1]? = some (.lst (im.map imD)) := gB2
    have hb9 : L + (bs.length + 1) = L + (cs.length + (2 + ex.length + 1)) := by
      rw [← hbs, List.length_append, List.length_cons, List.length_cons]
      omega
    have g9' : ∀ A B : Cell, (cs ++ A :: B :: (ex ++ [Cell.lst (natsD rest), .lst (im.map imD)]))[cs.length + (2 + ex.length + 1)]? = some (.lst (im.map imD)) := fun A B => by
      rw [List.getElem?_append_right (by omega), show cs.length + (2 + ex.length + 1) - cs.length = (ex.length + 1) + 1 + 1 by omega, List.getElem?_cons_succ, List.getElem?_cons_succ, List.getElem?_append_right (by omega), show ex.length + 1 - ex.length = 1 by omega]
      rfl
    rw [hb9]
    rw [hbs2] at hs6
    refine wp_cons (wp_appendXG (L := L) (k := k) (i := cs.length + 1) hs6 rfl gB2 (wp_t2 ?_))
    have hlc : biD .len [.cell (L + cs.length)] μ6 = .ok (.int (left.length : Int)) μ6 := by
      have := (hs6.lst (i := cs.length) gA).2
      show optR (seqOf μ6 (.cell (L + cs.length))) μ6 _ = _
      rw [this]
      show R.ok (D.int ((left.map wdD).length : Int)) μ6 = _
      rw [List.length_map]
    refine wp_popG (L := L) (k := k) (m := m) (m' := m) (ci := cs.length) (Bs := left.map wdD) hs6 rfl gA ?_
    refine wp_drE ht (L := L) (m := m) (many := (left.length : Int)) rfl (by simp only [hlc, evz]) hs6 (by omega) (by omega) fun x μ7 x0 x1 hs7 => ?_
    obtain ⟨x, rfl⟩ := Int.eq_ofNat_of_zero_le x0
    have hx : x < left.length := by omega
    have hlx : left[x]? = some left[x] := List.getElem?_eq_getElem hx
    generalize left[x] = w at hlx
    refine ⟨x, wdD w, rfl, hs7, by rw [List.getElem?_map, hlx]; rfl, fun μ8 hs8 => ?_⟩
    rw [sA] at hs8
    obtain ⟨_, _, ht9⟩ := hs8.src (g9' _ _)
    have hev : evE Γ (.bi .tuple [(.v 9)]) (Z11 (some (.cell k)) (some (.int (n : Int))) (some (.int 4)) (some (.int (q : Int))) (some (.cell (L + cs.length))) (some (.cell (L + (cs.length + 1)))) (some (.bl (decide (c5 = 0)))) y7 (some (.cell (L + bs.length))) (some (.cell (L + (cs.length + (2 + ex.length + 1))))) y10) μ8 = .ok (.tup (im.map imD)) μ8 := by
      simp only [ht9, evz]
    refine wpR_of hev ⟨m, _, zs.map mvD, hs8, gB2, by rw [List.length_map]; omega, fun μ9 hs9 => ?_⟩
    rw [sB2] at hs9
    refine wp_nil ⟨left.eraseIdx x, zs ++ [(w, im)], ex ++ [.lst (natsD rest), .lst (im.map imD)], _, _, _, _, _, _, rfl, ?_, by rw [List.length_append, hzl]; rfl, by rw [List.length_eraseIdx_of_lt hx]; omega, ?_, fun z hz => ?_⟩
    · rw [map_eraseG] at hs9
      rw [List.map_append]
      exact hs9
    · rw [List.map_append]
      exact perm_pop hlx hpm
    · rcases List.mem_append.mp hz with hz | hz
      · exact him z hz
      · rw [List.mem_singleton] at hz
        rw [hz]
        exact hT
  · rintro ρ μ3 ⟨left, zs, ex, y3, y6, y7, y8, y9, y10, rfl, hs3, hzl, hll, hpm, him⟩
    rw [List.length_range] at hzl
    have hnd : (left ++ zs.map (·.1)).Nodup := hpm.nodup_iff.mpr List.nodup_range
    have h5 : ∀ z ∈ zs, z.1 < 5 := fun z hz => List.mem_range.mp (hpm.mem_iff.mp (List.mem_append_right _ (List.mem_map.mpr ⟨z, hz, rfl⟩)))
    obtain ⟨ys, hso, hyp, hyw⟩ := sorted_mvs zs h5 (List.nodup_append.mp hnd).2.1 (μ := μ3) (hs3.lst (i := cs.length + 1) gB2).1
    refine wp_cons (wp_ret (wpR_of (a := .lst (ys.map mvD)) (μ := μ3) (by simp only [hso, evz]) ?_))
    refine wp_lvG (k := k) (m := m) (cs := cs) (L := L) hs3 rfl hcs ?_ (fun i => by simp) fun μ' hs' => hQ ys μ' (by rw [hyp.length_eq]; omega) (fun z hz => h5 z (hyp.mem_iff.mp hz)) hyw (fun z hz => him z (hyp.mem_iff.mp hz)) hs'
    exact pls_below L _ (pls_all fun e he => by
      obtain ⟨z, _, rfl⟩ := List.mem_map.mp he
      exact pl_tuT _)
end
end S
namespace S
open PySem T
abbrev E7s (a b c d e f g : Option D) : T.Env := [a, b, c, d, e, f, g]
def SSpellM (F : FnS) : Prop := ∀ (d : Sch) (μ : Sto), SchOk d → Wf μ → F [.lst (wsD d.ns), .lst (d.ts.map tuT)] μ = .ok (.str (SX.S (schT d))) μ
theorem s_spellM (Γ : Tb) : SSpellM (runD Γ spelledDf) := by
  intro d μ h hμ
  suffices hw : wpR (runD Γ spelledDf [.lst (wsD d.ns), .lst (d.ts.map tuT)] μ) fun r μ' => r = .str (SX.S (schT d)) ∧ μ' = μ by
    obtain ⟨r, μ', e, rfl, rfl⟩ := wpR_ex hw
    exact e
  refine wp_run rfl ?_
  show wpF (exB Γ [_, .loop _ _ _ _, .ret _] (E7s (some (.lst (wsD d.ns))) (some (.lst (d.ts.map tuT))) none none none none none) μ) _ _
  have hn8 : ∀ p ∈ d.ns, p.length ≤ 8 := fun p hp => (h.nw p hp).hi
  have hn6 := h.n6
  have hj0 : meD .join (.str " ") [.lst (wsD d.ns)] μ = .ok (.str (SX.S (TL.joinL [32] d.ns))) μ := by
    rw [sp_S]
    exact join_ws rfl hn8 (by show d.ns.length * 8 + 1 * d.ns.length ≤ 8000; omega)
  have hs1 : evE Γ (.clst [(.me .join (.k (.str " ")) [(.v 0)])]) (E7s (some (.lst (wsD d.ns))) (some (.lst (d.ts.map tuT))) none none none none none) μ = .ok (.cell μ.length) (μ ++ [.lst (wsD [TL.joinL [32] d.ns])]) := by
    have f1 : fits (0 + 1) = true := fits_small (by decide)
    simp only [recv_join, hj0, f1, evz]
    rfl
  refine wp_cons (wp_asg (wp_pure hs1 ?_))
  refine wp_cons (wp_loop (xs := [.lst (d.ts.map tuT)]) (μ1 := μ ++ [.lst (wsD [TL.joinL [32] d.ns])]) (ds := d.ts.map tuT) (gs := []) rfl rfl ?_)
  refine wp_for (fun j ρ μ' => ∃ y3 y4 y5 y6, ρ = E7s (some (.lst (wsD d.ns))) (some (.lst (d.ts.map tuT))) (some (.cell μ.length)) y3 y4 y5 y6 ∧ μ' = μ ++ [.lst (wsD (TL.joinL [32] d.ns :: (d.ts.take j).map (turnT d.ns)))]) d.ts tuT [] (fun _ _ _ _ p hp => by cases hp)
    ⟨none, none, none, none, rfl, rfl⟩ ?_ ?_
  · rintro j t hj ρ μ0 ⟨y3, y4, y5, y6, rfl, rfl⟩
    have htm : t ∈ d.ts := List.mem_of_getElem? hj
    have hjl := (List.getElem?_eq_some_iff.mp hj).1
    have ht4 := h.t4
    obtain ⟨tl1, tl2⟩ := turnT_len h htm
    refine ⟨E7s (some (.lst (wsD d.ns))) (some (.lst (d.ts.map tuT))) (some (.cell μ.length)) (some (.str (SX.S t.1))) (some (imTu t.2)) y5 y6, rfl, ?_⟩
    generalize hX : wsD (TL.joinL [32] d.ns :: (d.ts.take j).map (turnT d.ns)) = X
    have hXl : X.length < 1000 := by
      rw [← hX]
      unfold wsD
      rw [List.length_map, List.length_cons, List.length_map, List.length_take]
      omega
    have hcm := ev_compM (Γ := Γ) (ρ := E7s (some (.lst (wsD d.ns))) (some (.lst (d.ts.map tuT))) (some (.cell μ.length)) (some (.str (SX.S t.1))) (some (imTu t.2)) y5 y6) (μ := μ ++ [.lst X]) (melt := .bin .add (.bin .mul (.k (.str "-")) (.bi .int [(.cmp .lt (.v 5) (.k (.int 0)))])) (.ix (.v 0) (.v 6))) (mt := .tp [.nm 5, .nm 6]) (ik := .plain) (mits := [.v 4]) (own := [5, 6]) (xs := [imTu t.2]) t.2 imD (fun q => .str (SX.S (imT d.ns q))) rfl rfl
      (fun q hq => ⟨E7s (some (.lst (wsD d.ns))) (some (.lst (d.ts.map tuT))) (some (.cell μ.length)) (some (.str (SX.S t.1))) (some (imTu t.2)) (some (.int q.1)) (some (.int q.2)), rfl, by
        have hk := (h.is t htm q hq).2
        have hwl := (h.nw _ (getD_mem hk)).hi
        have ha := add_strs (a := if decide (q.1 < 0) then [45] else []) (b := d.ns.getD q.2 []) (μ := μ ++ [.lst X]) (by
          have : (if decide (q.1 < 0) = true then [45] else ([] : List Nat)).length ≤ 1 := by split <;> simp
          omega)
        have hx := ix_ws hk (μ := μ ++ [.lst X])
        generalize D.lst (d.ts.map tuT) = TT at *
        simp only [lt_int, int_blD, mi_b, hx, ha, evz]
        unfold imT
        by_cases hq0 : q.1 < 0
        · simp [hq0]
        · simp [hq0]⟩)
    have hel : (t.2.map fun q => D.str (SX.S (imT d.ns q))) = wsD (t.2.map (imT d.ns)) := by
      unfold wsD
      rw [List.map_map]
      rfl
    rw [hel] at hcm
    have hjn : meD .join (.str " ") [.lst (wsD (t.2.map (imT d.ns)))] (μ ++ [.lst X]) = .ok (.str (SX.S (TL.joinL [32] (t.2.map (imT d.ns))))) (μ ++ [.lst X]) := by
      rw [sp_S]
      refine join_ws (m := 9) rfl (fun p hp => by
        obtain ⟨q, _, rfl⟩ := List.mem_map.mp hp
        exact imT_len h.nw q) ?_
      rw [List.length_map, h.il t htm]
      show d.ns.length * 9 + 1 * d.ns.length ≤ 8000
      omega
    have ha1 : binD .add (.str (SX.S t.1)) (.str ": ") (μ ++ [.lst X]) = .ok (.str (SX.S (t.1 ++ [58, 32]))) (μ ++ [.lst X]) := by
      rw [co_S]
      refine add_strs ?_
      have := (h.tw t htm).hi
      show t.1.length + 2 ≤ 8000
      omega
    have ha2 : binD .add (.str (SX.S (t.1 ++ [58, 32]))) (.str (SX.S (TL.joinL [32] (t.2.map (imT d.ns))))) (μ ++ [.lst X]) = .ok (.str (SX.S (turnT d.ns t))) (μ ++ [.lst X]) := by
      rw [add_strs, List.append_assoc]
      · rfl
      · rw [List.length_append]
        have := (h.tw t htm).hi
        show t.1.length + 2 + _ ≤ 8000
        omega
    have hap := app_cell (μ := μ) (ds := X) (d := .str (SX.S (turnT d.ns t))) hXl
    have hrc : recv .append (.cell μ.length) (μ ++ [.lst X]) = true := recv_cell
    have hst : exS Γ (.ex (.me .append (.v 2) [(.bin .add (.bin .add (.v 3) (.k (.str ": "))) (.me .join (.k (.str " ")) [(.comp false (.bin .add (.bin .mul (.k (.str "-")) (.bi .int [(.cmp .lt (.v 5) (.k (.int 0)))])) (.ix (.v 0) (.v 6))) (.tp [(.nm 5), (.nm 6)]) .plain [(.v 4)] [] [5, 6])]))])) (E7s (some (.lst (wsD d.ns))) (some (.lst (d.ts.map tuT))) (some (.cell μ.length)) (some (.str (SX.S t.1))) (some (imTu t.2)) y5 y6) (μ ++ [.lst X]) = .nx (E7s (some (.lst (wsD d.ns))) (some (.lst (d.ts.map tuT))) (some (.cell μ.length)) (some (.str (SX.S t.1))) (some (imTu t.2)) y5 y6) (μ ++ [.lst (X ++ [.str (SX.S (turnT d.ns t))])]) := by
      have hx2 : evE Γ (.bin .add (.bin .add (.v 3) (.k (.str ": "))) (.me .join (.k (.str " ")) [(.comp false (.bin .add (.bin .mul (.k (.str "-")) (.bi .int [(.cmp .lt (.v 5) (.k (.int 0)))])) (.ix (.v 0) (.v 6))) (.tp [(.nm 5), (.nm 6)]) .plain [(.v 4)] [] [5, 6])])) (E7s (some (.lst (wsD d.ns))) (some (.lst (d.ts.map tuT))) (some (.cell μ.length)) (some (.str (SX.S t.1))) (some (imTu t.2)) y5 y6) (μ ++ [.lst X]) = .ok (.str (SX.S (turnT d.ns t))) (μ ++ [.lst X]) := by
        have hv3 : evE Γ (.bin .add (.v 3) (.k (.str ": "))) (E7s (some (.lst (wsD d.ns))) (some (.lst (d.ts.map tuT))) (some (.cell μ.length)) (some (.str (SX.S t.1))) (some (imTu t.2)) y5 y6) (μ ++ [.lst X]) = .ok (.str (SX.S (t.1 ++ [58, 32]))) (μ ++ [.lst X]) := by
          generalize D.lst (d.ts.map tuT) = TT at *
          simp only [ha1, evz]
        rw [ev_bin, hv3, R.bind_ok, ev_me, ev_k, R.bind_ok, recv_join, if_pos rfl, evs_cons, hcm, R.bind_ok, evs_nil, R.bind_ok, R.bind_ok, hjn, R.bind_ok]
        exact ha2
      rw [ex_ex, ev_me]
      show (((R.ok (D.cell μ.length) (μ ++ [Cell.lst X])).bind _).thenF _) = _
      rw [R.bind_ok, hrc, if_pos rfl, evs_cons, hx2, R.bind_ok, evs_nil, R.bind_ok, R.bind_ok, hap]
      rfl
    refine wp_cons (wp_step hst (wp_nil ⟨_, _, _, _, rfl, ?_⟩))
    have : d.ts.take (j + 1) = d.ts.take j ++ [t] := by
      rw [List.take_add_one, hj]
      rfl
    rw [this, List.map_append, ← hX]
    unfold wsD
    simp only [List.map_append, List.map_cons, List.map_nil, List.cons_append]
  · rintro ρ μ0 ⟨y3, y4, y5, y6, rfl, rfl⟩
    rw [List.take_length]
    have hsq : seqOf (μ ++ [.lst (wsD (TL.joinL [32] d.ns :: d.ts.map (turnT d.ns)))]) (.cell μ.length) = some (wsD (TL.joinL [32] d.ns :: d.ts.map (turnT d.ns))) := by
      simp only [seqOf, cell_last]
    have hjn : meD .join (.str "; ") [.cell μ.length] (μ ++ [.lst (wsD (TL.joinL [32] d.ns :: d.ts.map (turnT d.ns)))]) = .ok (.str (SX.S (schT d))) (μ ++ [.lst (wsD (TL.joinL [32] d.ns :: d.ts.map (turnT d.ns)))]) := by
      rw [se_S]
      refine join_ws (m := 70) hsq (fun p hp => ?_) ?_
      · rcases List.mem_cons.mp hp with rfl | hp
        · exact names_len h
        · obtain ⟨t, ht, rfl⟩ := List.mem_map.mp hp
          exact (turnT_len h ht).2
      · rw [List.length_cons, List.length_map]
        have := h.t4
        show (d.ts.length + 1) * 70 + 2 * (d.ts.length + 1) ≤ 8000
        omega
    have hev : evE Γ (.me .join (.k (.str "; ")) [(.v 2)]) (E7s (some (.lst (wsD d.ns))) (some (.lst (d.ts.map tuT))) (some (.cell μ.length)) y3 y4 y5 y6) (μ ++ [.lst (wsD (TL.joinL [32] d.ns :: d.ts.map (turnT d.ns)))]) = .ok (.str (SX.S (schT d))) (μ ++ [.lst (wsD (TL.joinL [32] d.ns :: d.ts.map (turnT d.ns)))]) := by
      rw [ev_me, ev_k, R.bind_ok, recv_join, if_pos rfl, evs_cons]
      show ((((R.ok (D.cell μ.length) (μ ++ [Cell.lst (wsD (TL.joinL [32] d.ns :: d.ts.map (turnT d.ns)))])).bind _).bind _)) = _
      rw [R.bind_ok, evs_nil, R.bind_ok, R.bind_ok]
      exact hjn
    refine wp_cons (wp_ret (wp_pure hev ?_))
    exact wpR_of (leave_pl hμ rfl _) ⟨rfl, rfl⟩
end S
namespace S
open PySem T
theorem SchOk.tnd {d : Sch} (h : SchOk d) : (d.ts.map fun t => SX.S t.1).Nodup := ris_nodup h.tr
theorem pairs_tu : ∀ {ts : List (List Nat × Im)}, (ts.map fun t => SX.S t.1).Nodup → pairs (ts.map tuT) = some (ts.map fun t => (.inr (SX.S t.1) : L2.Key), ts.map fun t => imTu t.2)
  | [], _ => rfl
  | t :: ts, h => by
    rw [List.map_cons, List.nodup_cons] at h
    have ih := pairs_tu h.2
    show (match keyD (.str (SX.S t.1)), pairs (ts.map tuT) with
      | some k, some (ks, ds) => if ks.any (fun j => decide (j = k)) then none else some (k :: ks, imTu t.2 :: ds)
      | _, _ => none) = _
    rw [ih]
    have h0 : ((ts.map fun t => (.inr (SX.S t.1) : L2.Key)).any fun j => decide (j = .inr (SX.S t.1))) = false := by
      rw [List.any_eq_false]
      intro x hx
      obtain ⟨u, hu, rfl⟩ := List.mem_map.mp hx
      intro e
      have e := of_decide_eq_true e
      exact h.1 (List.mem_map.mpr ⟨u, hu, Sum.inr.inj e⟩)
    simp only [keyD, h0, Bool.false_eq_true, if_false]
    rfl
abbrev mvDic (d : Sch) : D := .dic (d.ts.map fun t => (.inr (SX.S t.1) : L2.Key)) (d.ts.map fun t => imTu t.2)
theorem dict_tu {d : Sch} (h : SchOk d) {μ : Sto} : biD .dict [.lst (d.ts.map tuT)] μ = .ok (mvDic d) μ := by
  show optR ((lstOf μ (.lst (d.ts.map tuT))).bind pairs) μ (fun p => .dic p.1 p.2) = _
  simp only [lstOf, Option.bind_some, pairs_tu h.tnd, optR]
theorem look_tu : ∀ {ts : List (List Nat × Im)}, (ts.map fun t => SX.S t.1).Nodup → ∀ {t : List Nat × Im}, t ∈ ts → lookK (ts.map fun t => (.inr (SX.S t.1) : L2.Key)) (ts.map fun t => imTu t.2) (.inr (SX.S t.1)) = some (imTu t.2)
  | [], _, t, ht => by cases ht
  | u :: ts, h, t, ht => by
    rw [List.map_cons, List.nodup_cons] at h
    rw [List.map_cons, List.map_cons]
    show (if (.inr (SX.S u.1) : L2.Key) = .inr (SX.S t.1) then some (imTu u.2) else lookK (ts.map fun t => (.inr (SX.S t.1) : L2.Key)) (ts.map fun t => imTu t.2) (.inr (SX.S t.1))) = _
    rcases List.mem_cons.mp ht with rfl | ht
    · rw [if_pos rfl]
    · rw [if_neg fun e => h.1 (List.mem_map.mpr ⟨t, ht, (Sum.inr.inj e).symm⟩)]
      exact look_tu h.2 ht
theorem ix_mv {d : Sch} (h : SchOk d) {t : List Nat × Im} (ht : t ∈ d.ts) {μ : Sto} : ixD (mvDic d) (.str (SX.S t.1)) μ = .ok (imTu t.2) μ := by
  show (match lookK (d.ts.map fun t => (.inr (SX.S t.1) : L2.Key)) (d.ts.map fun t => imTu t.2) (.inr (SX.S t.1)) with
    | some d => R.ok d μ
    | none => .bad) = _
  rw [look_tu h.tnd ht]
section
variable {Γ : Tb}
theorem fld_moves {d : Sch} {μ : Sto} (g : GQ Γ) : fldD Γ.at_ (scD d) "moves" μ = .ok (.lst (d.ts.map tuT)) μ := by
  simp only [fldD, g.moves]
  rfl
def STurnOnce (F : FnS) : Prop := ∀ (d : Sch) (f : List Int) (t : List Nat × Im) (μ : Sto), SchOk d → Wf μ → t ∈ d.ts → f.length = d.ns.length → (∀ x ∈ f, small x) → F [scD d, tI f, .str (SX.S t.1)] μ = .ok (tI (behI d.ns.length f t.2)) μ
theorem u_turnOnce (g : GQ Γ) : STurnOnce (runD Γ Pg.f_turned_once) := by
  intro d f t μ h hμ ht hfl hf
  have e : runD Γ Pg.f_turned_once [scD d, tI f, .str (SX.S t.1)] μ = finD false μ.length (exB Γ Pg.f_turned_once.body (bhE (scD d) (tI f) (.str (SX.S t.1)) none none none none) μ) := run_eq rfl
  have hn6 := h.n6
  have hlen : biD .len [tI f] μ = .ok (.int (d.ns.length : Int)) μ := by
    show R.ok (D.int ((f.map D.int).length : Int)) μ = _
    rw [List.length_map, hfl]
  have s1 : exS Γ (.asg (.nm 3) (.cbin .mul (.lst [(.k (.int 0))]) (.bi .len [(.v 1)]))) (bhE (scD d) (tI f) (.str (SX.S t.1)) none none none none) μ = .nx (bhE (scD d) (tI f) (.str (SX.S t.1)) (some (.cell μ.length)) none none none) (μ ++ [.lst ((List.replicate d.ns.length (0 : Int)).map .int)]) := by
    have h1 : evE Γ (.bi .len [(.v 1)]) (bhE (scD d) (tI f) (.str (SX.S t.1)) none none none none) μ = .ok (.int (d.ns.length : Int)) μ := by
      rw [ev_bi, evs_cons]
      show (((R.ok (tI f) μ).bind _).bind _) = _
      rw [R.bind_ok, evs_nil, R.bind_ok, R.bind_ok]
      exact hlen
    rw [ex_asg, ev_cbin, evs_lst1, R.bind_ok, h1, R.bind_ok, cz (by omega), R.thenF_ok, set_nm]
    rfl
  generalize hν : μ ++ [Cell.lst ((List.replicate d.ns.length (0 : Int)).map .int)] = ν at *
  have hits : evEs Γ [(.v 1), (.ix (.bi .dict [(.fld (.v 0) "moves")]) (.v 2))] (bhE (scD d) (tI f) (.str (SX.S t.1)) (some (.cell μ.length)) none none none) ν = .ok [tI f, imTu t.2] ν := by
    have h1 : evE Γ (.fld (.v 0) "moves") (bhE (scD d) (tI f) (.str (SX.S t.1)) (some (.cell μ.length)) none none none) ν = .ok (.lst (d.ts.map tuT)) ν := by
      rw [ev_fld]
      exact fld_moves g
    have h2 : evE Γ (.bi .dict [(.fld (.v 0) "moves")]) (bhE (scD d) (tI f) (.str (SX.S t.1)) (some (.cell μ.length)) none none none) ν = .ok (mvDic d) ν := by
      rw [ev_bi, evs_cons, h1, R.bind_ok, evs_nil, R.bind_ok, R.bind_ok, dict_tu h]
    have h3 : evE Γ (.ix (.bi .dict [(.fld (.v 0) "moves")]) (.v 2)) (bhE (scD d) (tI f) (.str (SX.S t.1)) (some (.cell μ.length)) none none none) ν = .ok (imTu t.2) ν := by
      rw [ev_ix, h2, R.bind_ok]
      exact ix_mv h ht
    have h4 : evE Γ (.v 1) (bhE (scD d) (tI f) (.str (SX.S t.1)) (some (.cell μ.length)) none none none) ν = .ok (tI f) ν := rfl
    simp only [evs_cons, evs_nil, h3, h4, R.bind_ok]
  have hz : itemsOf .zip [tI f, imTu t.2] ν = some ((f.zip t.2).map fun p => .tup [.int p.1, imD p.2], []) := by rw [zip_sq sq_tup sq_tup, zipW_map]
  obtain ⟨x', y', z', hl⟩ := bh_loop (Γ := Γ) (μ := μ) (scD d) (tI f) (.str (SX.S t.1)) (f.zip t.2) (List.replicate d.ns.length 0) none none none (fun p hp => by
    rw [List.length_replicate]
    exact ⟨(h.is t ht p.2 (List.of_mem_zip hp).2).2, hf p.1 (List.of_mem_zip hp).1⟩)
  rw [hν] at hl
  have s2 : exS Γ (.loop (.tp [(.nm 4), (.tp [(.nm 5), (.nm 6)])]) .zip [(.v 1), (.ix (.bi .dict [(.fld (.v 0) "moves")]) (.v 2))] bhB) (bhE (scD d) (tI f) (.str (SX.S t.1)) (some (.cell μ.length)) none none none) ν = .nx [some (scD d), some (tI f), some (.str (SX.S t.1)), some (.cell μ.length), x', y', z'] (μ ++ [.lst ((behI d.ns.length f t.2).map .int)]) := by
    rw [ex_loop, hits, R.thenF_ok, hz]
    exact hl
  rw [e]
  show finD false μ.length (exB Γ [_, _, _] _ _) = _
  rw [exb_cons, s1, F.then_nx, exb_cons, s2, F.then_nx, exb_cons, bh_C, F.then_rt, fin_rt]
  exact leave_tI hμ _ _
def turnL (n : Nat) (f : List Int) (ims : List Im) : List Int := ims.foldl (behI n) f
theorem turnI_bd {m : Int} (h0 : 0 ≤ m) : ∀ (ps : List (Int × (Int × Nat))) (acc : List Int), (∀ p ∈ ps, (p.2.1 = 1 ∨ p.2.1 = -1) ∧ -m ≤ p.1 ∧ p.1 ≤ m) → (∀ x ∈ acc, -m ≤ x ∧ x ≤ m) → ∀ x ∈ turnI acc ps, -m ≤ x ∧ x ≤ m
  | [], acc, _, ha => ha
  | p :: ps, acc, hp, ha => turnI_bd h0 ps _ (fun q hq => hp q (List.mem_cons_of_mem _ hq)) fun x hx => by
    rcases List.mem_or_eq_of_mem_set hx with hx | rfl
    · exact ha x hx
    · obtain ⟨h1, h2, h3⟩ := hp p (List.mem_cons_self ..)
      rcases h1 with h | h <;> rw [h] <;> omega
theorem behI_bd {n : Nat} {m : Int} {f : List Int} {im : Im} (h0 : 0 ≤ m) (hf : ∀ x ∈ f, -m ≤ x ∧ x ≤ m) (hi : ∀ q ∈ im, q.1 = 1 ∨ q.1 = -1) : ∀ x ∈ behI n f im, -m ≤ x ∧ x ≤ m :=
  turnI_bd h0 _ _ (fun p hp => ⟨hi p.2 (List.of_mem_zip hp).2, hf p.1 (List.of_mem_zip hp).1⟩) fun x hx => by
    rw [(List.mem_replicate.mp hx).2]
    omega
def STurnBy (F : FnS) : Prop := ∀ (d : Sch) (f : List Int) (ws : List (List Nat × Im)) (μ : Sto), SchOk d → Wf μ → (∀ t ∈ ws, t ∈ d.ts) → fmOk d.ns.length f → F [scD d, tI f, .tup (ws.map fun t => .str (SX.S t.1))] μ = .ok (tI (turnL d.ns.length f (ws.map (·.2)))) μ
theorem u_turnBy (h1 : STurnOnce (Γ.fn 160)) : STurnBy (runD Γ Pg.f_turned_by) := by
  intro d f ws μ h hμ hw hf
  have e : runD Γ Pg.f_turned_by [scD d, tI f, .tup (ws.map fun t => .str (SX.S t.1))] μ = finD false μ.length (exB Γ Pg.f_turned_by.body [some (scD d), some (tI f), some (.tup (ws.map fun t => .str (SX.S t.1))), none] μ) := run_eq rfl
  generalize hW : D.tup (ws.map fun t => .str (SX.S t.1)) = W at *
  have key : ∀ (us : List (List Nat × Im)) (f : List Int) (x : Option D), (∀ t ∈ us, t ∈ d.ts) → fmOk d.ns.length f → ∃ x', forL [] (.nm 3) (exB Γ [(.asg (.nm 1) (.call 160 [(.v 0), (.v 1), (.v 3)]))]) (us.map fun t => .str (SX.S t.1)) [some (scD d), some (tI f), some W, x] μ = .nx [some (scD d), some (tI (turnL d.ns.length f (us.map (·.2)))), some W, x'] μ := by
    intro us
    induction us with
    | nil => exact fun f x _ _ => ⟨x, forL_nil⟩
    | cons t us ih =>
      intro f x hu hf
      have htm := hu t (List.mem_cons_self ..)
      have hb : fmOk d.ns.length (behI d.ns.length f t.2) := ⟨behI_len _ _ _, behI_bd (by decide) hf.2 fun q hq => (h.is t htm q hq).1⟩
      obtain ⟨x', h2⟩ := ih (behI d.ns.length f t.2) (some (.str (SX.S t.1))) (fun t ht => hu t (List.mem_cons_of_mem _ ht)) hb
      refine ⟨x', ?_⟩
      have hc := h1 d f t μ h hμ htm hf.1 fun x hx => by have := hf.2 x hx; exact small_of (by omega) (by omega)
      rw [List.map_cons, forL_cons (ρ1 := [some (scD d), some (tI f), some W, some (.str (SX.S t.1))]) (ρ2 := [some (scD d), some (tI (behI d.ns.length f t.2)), some W, some (.str (SX.S t.1))]) (μ2 := μ) rfl (by
        generalize scD d = Sc at *
        simp only [hc, evz])]
      exact h2
  obtain ⟨x', hk⟩ := key ws f none hw hf
  have s1 : exS Γ (.loop (.nm 3) .plain [(.v 2)] [(.asg (.nm 1) (.call 160 [(.v 0), (.v 1), (.v 3)]))]) [some (scD d), some (tI f), some W, none] μ = .nx [some (scD d), some (tI (turnL d.ns.length f (ws.map (·.2)))), some W, x'] μ := by
    rw [ex_loop]
    show (R.ok [W] μ).thenF _ = _
    rw [R.thenF_ok, ← hW, show itemsOf .plain [.tup (ws.map fun t => .str (SX.S t.1))] μ = some (ws.map fun t => .str (SX.S t.1), []) from rfl, hW]
    exact hk
  rw [e]
  show finD false μ.length (exB Γ [_, _] _ _) = _
  rw [st_go s1 (ret_go (d := tI (turnL d.ns.length f (ws.map (·.2)))) (μ' := μ) rfl), fin_rt, leave_same]
def SIsWord (F : FnS) : Prop := ∀ (d : Sch) (t : List Nat × Im) (μ : Sto), SchOk d → t ∈ d.ts → F [scD d, .str (SX.S t.1)] μ = .ok (.bl true) μ
theorem u_isWord (g : GQ Γ) : SIsWord (runD Γ Pg.f_is_word) := by
  intro d t μ h ht
  have e : runD Γ Pg.f_is_word [scD d, .str (SX.S t.1)] μ = finD false μ.length (exB Γ Pg.f_is_word.body [some (scD d), some (.str (SX.S t.1)), none, none] μ) := run_eq rfl
  have h1 : evE Γ (.fld (.v 0) "moves") [some (scD d), some (.str (SX.S t.1)), none, none] μ = .ok (.lst (d.ts.map tuT)) μ := by
    rw [ev_fld]
    exact fld_moves g
  have hits : evEs Γ [(.fld (.v 0) "moves")] [some (scD d), some (.str (SX.S t.1)), none, none] μ = .ok [.lst (d.ts.map tuT)] μ := by
    rw [evs_cons, h1, R.bind_ok, evs_nil, R.bind_ok]
  have hcm := ev_compM (Γ := Γ) (ρ := [some (scD d), some (.str (SX.S t.1)), none, none]) (μ := μ) (melt := .v 2) (mt := .tp [.nm 2, .nm 3]) (ik := .plain) (mits := [.fld (.v 0) "moves"]) (own := [2, 3]) d.ts tuT (fun t => .str (SX.S t.1)) hits rfl fun u hu => ⟨_, rfl, rfl⟩
  have hel : (d.ts.map fun t => D.str (SX.S t.1)) = (d.ts.map fun t => SX.S t.1).map .str := by
    rw [List.map_map]
    rfl
  rw [hel] at hcm
  have hin := in_strs (x := SX.S t.1) (xs := d.ts.map fun t => SX.S t.1) (μ := μ) (asc_wrd (h.tw t ht)) (fun x hx => by
    obtain ⟨u, hu, rfl⟩ := List.mem_map.mp hx
    exact asc_wrd (h.tw u hu))
  rw [decide_eq_true (List.mem_map.mpr ⟨t, ht, rfl⟩)] at hin
  have hty : biD (.isty "str") [.str (SX.S t.1)] μ = .ok (.bl true) μ := rfl
  have s1 : evE Γ (.and (.bi (.isty "str") [(.v 1)]) (.cmp .isin (.v 1) (.comp false (.v 2) (.tp [(.nm 2), (.nm 3)]) .plain [(.fld (.v 0) "moves")] [] [2, 3]))) [some (scD d), some (.str (SX.S t.1)), none, none] μ = .ok (.bl true) μ := by
    have a1 : evE Γ (.bi (.isty "str") [(.v 1)]) [some (scD d), some (.str (SX.S t.1)), none, none] μ = .ok (.bl true) μ := by
      rw [ev_bi, evs_cons]
      show (((R.ok (D.str (SX.S t.1)) μ).bind _).bind _) = _
      rw [R.bind_ok, evs_nil, R.bind_ok, R.bind_ok]
      exact hty
    rw [ev_and, a1, R.bind_ok, tru_bl, if_pos rfl, ev_cmp]
    show (R.ok (D.str (SX.S t.1)) μ).bind _ = _
    rw [R.bind_ok, hcm, R.bind_ok]
    exact hin
  rw [e]
  show finD false μ.length (exB Γ [_] _ _) = _
  rw [ret_go s1, fin_rt, leave_same]
def STurnedP (F : FnS) : Prop := ∀ (d : Sch) (f : List Int) (ws : List (List Nat × Im)) (μ : Sto), SchOk d → Wf μ → (∀ t ∈ ws, t ∈ d.ts) → fmOk d.ns.length f → F [scD d, tI f, .tup (ws.map fun t => .str (SX.S t.1))] μ = .ok (tI (turnL d.ns.length f (ws.map (·.2)))) μ
theorem u_turned (hs : SChkS (Γ.fn 155)) (hf_ : SChkF (Γ.fn 157)) (hw_ : SIsWord (Γ.fn 159)) (hb : STurnBy (Γ.fn 161)) : STurnedP (runD Γ Pg.f_turned) := by
  intro d f ws μ h hμ hw hf
  have e : runD Γ Pg.f_turned [scD d, tI f, .tup (ws.map fun t => .str (SX.S t.1))] μ = finD false μ.length (exB Γ Pg.f_turned.body [some (scD d), some (tI f), some (.tup (ws.map fun t => .str (SX.S t.1))), none, none] μ) := run_eq rfl
  have k1 := hs d μ
  have k2 := hf_ d f μ hf
  have k3 := hb d f ws μ h hμ hw hf
  have hty : biD (.isty "tuple") [.tup (ws.map fun t => .str (SX.S t.1))] μ = .ok (.bl true) μ := ty_tup
  have hlp : wpF (exS Γ (.loop (.tp [(.nm 3), (.nm 4)]) .enum [(.v 2)] [(.ite (.not (.call 159 [(.v 0), (.v 4)])) [.bad] [])]) [some (scD d), some (tI f), some (.tup (ws.map fun t => .str (SX.S t.1))), none, none] μ) (fun ρ ν => ∃ x y, ρ = [some (scD d), some (tI f), some (.tup (ws.map fun t => .str (SX.S t.1))), x, y] ∧ ν = μ) (fun _ _ => False) := by
    refine wp_loop (xs := [.tup (ws.map fun t => .str (SX.S t.1))]) (μ1 := μ) rfl (enum_map (([] : List Nat), ([] : Im)) (fun t => .str (SX.S t.1)) ws) ?_
    refine wp_for (fun j ρ ν => ∃ x y, ρ = [some (scD d), some (tI f), some (.tup (ws.map fun t => .str (SX.S t.1))), x, y] ∧ ν = μ) (List.range ws.length) (fun (i : Nat) => .tup [.int (i : Int), .str (SX.S (ws.getD i ([], [])).1)]) [] (fun _ _ _ _ p hp => by cases hp) ⟨none, none, rfl, rfl⟩ ?_ ?_
    · rintro j q hq ρ ν ⟨x, y, rfl, rfl⟩
      have hj := (List.getElem?_eq_some_iff.mp hq).1
      rw [List.length_range] at hj
      rw [List.getElem?_range hj] at hq
      cases hq
      refine ⟨[some (scD d), some (tI f), some (.tup (ws.map fun t => .str (SX.S t.1))), some (.int (j : Int)), some (.str (SX.S (ws.getD j ([], [])).1))], rfl, ?_⟩
      have hk := hw_ d (ws.getD j ([], [])) ν h (hw _ (getD_memG hj))
      refine wp_cons (wp_ite false ?_ (fun z => by cases z) fun _ => wp_nil (wp_nil ⟨_, _, rfl, rfl⟩))
      generalize scD d = Sc at *
      rw [evT_eq]
      simp only [hk, evz]
    · rintro ρ ν ⟨x, y, rfl, rfl⟩
      exact ⟨x, y, rfl, rfl⟩
  rcases hlp with ⟨⟨ρ1, μ1, e2, x, y, rfl, rfl⟩ | ⟨_, _, _, h⟩⟩
  · generalize D.tup (ws.map fun t => .str (SX.S t.1)) = W at *
    generalize scD d = Sc at *
    have s1 : exS Γ (.ex (.call 155 [(.v 0)])) [some Sc, some (tI f), some W, none, none] μ1 = .nx [some Sc, some (tI f), some W, none, none] μ1 := by
      simp only [k1, evz]
    have s2 : exS Γ (.ex (.call 157 [(.v 0), (.v 1)])) [some Sc, some (tI f), some W, none, none] μ1 = .nx [some Sc, some (tI f), some W, none, none] μ1 := by
      simp only [k2, evz]
    have s3 : exS Γ (.ite (.not (.bi (.isty "tuple") [(.v 2)])) [.bad] []) [some Sc, some (tI f), some W, none, none] μ1 = .nx [some Sc, some (tI f), some W, none, none] μ1 := by
      simp only [hty, evz]
    have s5 : evE Γ (.call 161 [(.v 0), (.v 1), (.v 2)]) [some Sc, some (tI f), some W, x, y] μ1 = .ok (tI (turnL d.ns.length f (ws.map (·.2)))) μ1 := by
      simp only [k3, evz]
    rw [e]
    show finD false μ1.length (exB Γ [_, _, _, _, _] _ _) = _
    rw [st_go s1 (st_go s2 (st_go s3 (st_go e2 (ret_go s5)))), fin_rt, leave_same]
  · exact h.elim
end
end S
namespace S
open PySem T
def bkI (im : Im) (v : List Int) : List Int := im.map fun q => q.1 * v.getD q.2 0
theorem dot_set {v : List Int} {acc : List Int} {s : Nat} {x : Int} (hs : s < acc.length) (h0 : acc.getD s 0 = 0) : dotI (acc.set s x) v = dotI acc v + x * v.getD s 0 := by
  rw [dotI_sum, dotI_sum, List.length_set]
  have e : (V.sumN acc.length fun i => (acc.set s x).getD i 0 * v.getD i 0) = V.sumN acc.length fun i => acc.getD i 0 * v.getD i 0 + (if i = s then x * v.getD s 0 else 0) := V.sumN_congr fun i hi => by
    by_cases h : i = s
    · subst h
      rw [if_pos rfl, List.getD_eq_getElem?_getD, List.getElem?_set_self hi, h0]
      show x * _ = 0 * _ + _
      omega
    · rw [if_neg h, List.getD_eq_getElem?_getD, List.getElem?_set_ne fun z => h z.symm, List.getD_eq_getElem?_getD (l := acc)]
      omega
  rw [e, V.sumN_add, V.sumN_one hs fun k _ hk => if_neg hk, if_pos rfl]
theorem turnI_dot {v : List Int} : ∀ (ps : List (Int × (Int × Nat))) (acc : List Int), (ps.map fun p => p.2.2).Nodup → (∀ p ∈ ps, p.2.2 < acc.length ∧ acc.getD p.2.2 0 = 0) → dotI (turnI acc ps) v = dotI acc v + (ps.map fun p => p.1 * (p.2.1 * v.getD p.2.2 0)).sum
  | [], acc, _, _ => (Int.add_zero _).symm
  | p :: ps, acc, hn, h => by
    rw [List.map_cons, List.nodup_cons] at hn
    obtain ⟨h1, h2⟩ := h p (List.mem_cons_self ..)
    show dotI (turnI (acc.set p.2.2 (p.2.1 * p.1)) ps) v = _
    rw [turnI_dot ps _ hn.2 fun q hq => by
      obtain ⟨a, b⟩ := h q (List.mem_cons_of_mem _ hq)
      refine ⟨by rw [List.length_set]; exact a, ?_⟩
      rw [List.getD_eq_getElem?_getD, List.getElem?_set_ne fun z => hn.1 (List.mem_map.mpr ⟨q, hq, z.symm⟩), ← List.getD_eq_getElem?_getD]
      exact b, dot_set h1 h2, List.map_cons, List.sum_cons]
    have : p.2.1 * p.1 * v.getD p.2.2 0 = p.1 * (p.2.1 * v.getD p.2.2 0) := by grind
    rw [this, Int.add_assoc]
theorem snd_sub : ∀ (f : List Int) (im : Im), ((f.zip im).map (·.2)).Sublist im
  | [], im => List.nil_sublist _
  | _ :: _, [] => List.Sublist.refl _
  | x :: f, q :: im => (snd_sub f im).cons₂ q
theorem beh_dot {n : Nat} {f v : List Int} {im : Im} (hT : TurnOk n im) : dotI (behI n f im) v = dotI f (bkI im v) := by
  have hz : (f.zip im).map (fun p => p.2.2) = ((f.zip im).map (·.2)).map (·.2) := by rw [List.map_map]; rfl
  have hnd : ((f.zip im).map fun p => p.2.2).Nodup := by
    rw [hz]
    exact ((snd_sub f im).map _).nodup hT.nd
  unfold behI
  rw [turnI_dot _ _ hnd fun p hp => ⟨by
    rw [List.length_replicate]
    exact (hT.sg _ (List.of_mem_zip hp).2).2, by
    rw [List.getD_eq_getElem?_getD, List.getElem?_replicate]
    split <;> rfl⟩]
  have h0 : dotI (List.replicate n 0) v = 0 := by
    rw [dotI_sum]
    exact V.sumN_zero fun i _ => by
      rw [List.getD_eq_getElem?_getD, List.getElem?_replicate]
      split <;> exact Int.zero_mul _
  rw [h0, Int.zero_add, ← dot_I]
  unfold dot bkI
  rw [List.zip_map_right, List.map_map]
  rfl
def bkL (ims : List Im) (v : List Int) : List Int := ims.foldr bkI v
theorem turnL_dot {n : Nat} {v : List Int} : ∀ (ims : List Im) (f : List Int), (∀ im ∈ ims, TurnOk n im) → dotI (turnL n f ims) v = dotI f (bkL ims v)
  | [], f, _ => rfl
  | im :: ims, f, h => by
    show dotI (turnL n (behI n f im) ims) v = dotI f (bkI im (bkL ims v))
    rw [turnL_dot ims _ fun i hi => h i (List.mem_cons_of_mem _ hi), beh_dot (h im (List.mem_cons_self ..))]
theorem bkI_bd {m : Int} {im : Im} {v : List Int} (h0 : 0 ≤ m) (hi : ∀ q ∈ im, q.1 = 1 ∨ q.1 = -1) (hv : ∀ x ∈ v, -m ≤ x ∧ x ≤ m) : ∀ x ∈ bkI im v, -m ≤ x ∧ x ≤ m := fun x hx => by
  obtain ⟨q, hq, rfl⟩ := List.mem_map.mp hx
  have hg : -m ≤ v.getD q.2 0 ∧ v.getD q.2 0 ≤ m := by
    by_cases h : q.2 < v.length
    · exact hv _ (getD_memG h)
    · rw [List.getD_eq_getElem?_getD, List.getElem?_eq_none (by omega)]
      show -m ≤ 0 ∧ (0 : Int) ≤ m
      omega
  rcases hi q hq with h | h <;> rw [h] <;> omega
section
variable {Γ : Tb}
def SMovedL (F : FnS) : Prop := ∀ (im : Im) (f : List Int) (μ : Sto), Wf μ → f.length ≤ 1000 → im.length = f.length → (∀ q ∈ im, q.2 < f.length) → smalls f → F [tI f, imTu im] μ = .ok (tI (behI f.length f im)) μ
theorem w_moved (Γ : Tb) : SMovedL (runD Γ Dt.f__law_moved) := by
  intro im f μ hμ hn hl hq hf
  suffices hw : wpR (runD Γ Dt.f__law_moved [tI f, imTu im] μ) fun r μ' => r = tI (behI f.length f im) ∧ μ' = μ by
    obtain ⟨r, μ', e, rfl, rfl⟩ := wpR_ex hw
    exact e
  refine wp_run rfl ?_
  show wpF (exB Γ [_, .loop _ _ _ _, .ret _] (E6 (some (tI f)) (some (imTu im)) none none none none) μ) _ _
  have hlen : ∀ μ : Sto, biD .len [tI f] μ = .ok (.int (f.length : Int)) μ := fun μ => by
    show R.ok (D.int ((f.map D.int).length : Int)) μ = _
    rw [List.length_map]
  have e1 : exS Γ (.asg (.nm 2) (.cbin .mul (.lst [(.k (.int 0))]) (.bi .len [(.v 0)]))) (E6 (some (tI f)) (some (imTu im)) none none none none) μ = .nx (E6 (some (tI f)) (some (imTu im)) (some (.cell μ.length)) none none none) (μ ++ [.lst ((List.replicate f.length (0 : Int)).map .int)]) := by
    have h1 : evE Γ (.bi .len [(.v 0)]) (E6 (some (tI f)) (some (imTu im)) none none none none) μ = .ok (.int (f.length : Int)) μ := by simp only [hlen, evz]
    rw [ex_asg, ev_cbin, evs_lst1, R.bind_ok, h1, R.bind_ok, cz hn, R.thenF_ok, set_nm]
    rfl
  refine wp_cons (wp_step e1 ?_)
  refine wp_cons (wp_loop (xs := [imTu im]) (μ1 := μ ++ [.lst ((List.replicate f.length (0 : Int)).map .int)]) rfl (enum_map ((0 : Int), (0 : Nat)) imD im) ?_)
  refine wp_for (fun j ρ μ' => ∃ x3 x4 x5, ρ = E6 (some (tI f)) (some (imTu im)) (some (.cell μ.length)) x3 x4 x5 ∧ μ' = μ ++ [.lst ((turnI (List.replicate f.length 0) ((f.zip im).take j)).map .int)]) (List.range im.length) (fun (i : Nat) => .tup [.int (i : Int), imD (im.getD i (0, 0))]) [] (fun _ _ _ _ p hp => by cases hp)
    ⟨none, none, none, rfl, rfl⟩ ?_ ?_
  · rintro j p hp ρ μ' ⟨x3, x4, x5, rfl, rfl⟩
    obtain ⟨hj, e⟩ := List.getElem?_eq_some_iff.mp hp
    rw [List.length_range] at hj
    rw [List.getElem_range] at e
    subst e
    have hjf : j < f.length := by omega
    have hz : (f.zip im)[j]? = some (f[j], im[j]) := by
      rw [List.getElem?_eq_getElem (by rw [List.length_zip]; omega), List.getElem_zip]
    have hgi : im.getD j (0, 0) = im[j] := by
      rw [List.getD_eq_getElem?_getD, List.getElem?_eq_getElem hj]
      rfl
    have h2 := ix_tI hjf (μ := μ ++ [.lst ((turnI (List.replicate f.length 0) ((f.zip im).take j)).map .int)])
    rw [List.getD_eq_getElem?_getD, List.getElem?_eq_getElem hjf, Option.getD_some] at h2
    have hs : small f[j] := hf _ (List.getElem_mem hjf)
    have hlt : im[j].2 < (turnI (List.replicate f.length 0) ((f.zip im).take j)).length := by
      rw [turnI_len, List.length_replicate]
      exact hq _ (List.getElem_mem hj)
    have hset := setItem_cell (μ := μ) (x := im[j].1 * f[j]) hlt
    refine ⟨E6 (some (tI f)) (some (imTu im)) (some (.cell μ.length)) (some (.int (j : Int))) (some (.int im[j].1)) (some (.int im[j].2)), by rw [hgi]; rfl, ?_⟩
    have hm := mul_r (i := im[j].1) hs (μ ++ [.lst ((turnI (List.replicate f.length 0) ((f.zip im).take j)).map .int)])
    have st : exS Γ (.asg (.sub (.v 2) (.v 5)) (.bin .mul (.v 4) (.ix (.v 0) (.v 3)))) (E6 (some (tI f)) (some (imTu im)) (some (.cell μ.length)) (some (.int (j : Int))) (some (.int im[j].1)) (some (.int im[j].2))) (μ ++ [.lst ((turnI (List.replicate f.length 0) ((f.zip im).take j)).map .int)]) = .nx (E6 (some (tI f)) (some (imTu im)) (some (.cell μ.length)) (some (.int (j : Int))) (some (.int im[j].1)) (some (.int im[j].2))) (μ ++ [.lst (((turnI (List.replicate f.length 0) ((f.zip im).take j)).set im[j].2 (im[j].1 * f[j])).map .int)]) := by
      simp only [h2, hm, set_sub, hset, evz]
    refine wp_cons (wp_step st (wp_nil ⟨_, _, _, rfl, ?_⟩))
    rw [List.take_add_one, hz]
    show _ = μ ++ [.lst ((turnI (List.replicate f.length 0) ((f.zip im).take j ++ [(f[j], im[j])])).map .int)]
    rw [turnI_snoc]
  · rintro ρ μ' ⟨x3, x4, x5, rfl, rfl⟩
    rw [List.length_range, List.take_of_length_le (by rw [List.length_zip]; omega)]
    refine wp_cons (wp_ret (wpR_of (a := tI (behI f.length f im)) (μ := μ ++ [.lst ((behI f.length f im).map .int)]) (by simp only [tup_cell, behI, evz]) ?_))
    exact wpR_of (leave_tI hμ _ _) ⟨rfl, rfl⟩
end
theorem wp_compT {α : Type} {Γ : Tb} {ρ : T.Env} {μ : Sto} {c melt : Ee} {mt : Tg} {ik : IK} {mits : List Ee} {own : List Nat} {Q : D → Sto → Prop} {μ1 : Sto} (I : List D → Sto → Prop) (ps : List α) (g : α → D) {xs : List D} (h1 : evEs Γ mits ρ μ = .ok xs μ1) (h2 : itemsOf ik xs μ1 = some (ps.map g, [])) (hI : I [] μ1)
    (h : ∀ (acc : List D) (p : α), ps[acc.length]? = some p → ∀ μ, I acc μ → ∃ ρ1, setTg μ mt (g p) (wipeE ρ own) = some ρ1 ∧ evE Γ c ρ1 μ = .ok (.bl true) μ ∧ wpR (evE Γ melt ρ1 μ) fun d μ' => I (acc ++ [d]) μ')
    (hq : ∀ ds μ', ds.length = ps.length → I ds μ' → Q (.lst ds) μ') : wpR (evE Γ (.comp false melt mt ik mits [c] own) ρ μ) Q := by
  have key : ∀ (qs : List α) (acc : List D) (μ : Sto), (∀ i, qs[i]? = ps[acc.length + i]?) → acc.length + qs.length = ps.length → I acc μ → ∃ ds μ', compL [] (wipeE ρ own) mt (evIfs Γ [c]) (evE Γ melt) (qs.map g) acc μ = .ok ds μ' ∧ ds.length = ps.length ∧ I ds μ' := by
    intro qs
    induction qs with
    | nil =>
      intro acc μ _ hl hI
      refine ⟨acc, μ, ?_, by simpa using hl, hI⟩
      rw [List.map_nil]
      unfold compL
      rw [ifStill_nil]
    | cons q qs ih =>
      intro acc μ hg hl hI
      have hpj : ps[acc.length]? = some q := by
        have := hg 0
        simpa using this.symm
      obtain ⟨ρ1, k1, kc, k2⟩ := h acc q hpj μ hI
      obtain ⟨d, μ1, k3, k4⟩ := wpR_ex k2
      obtain ⟨ds, μ', k6, k7, k8⟩ := ih (acc ++ [d]) μ1 (fun i => by
        have := hg (i + 1)
        rw [List.getElem?_cons_succ] at this
        rw [this, List.length_append]
        congr 1
        show acc.length + (i + 1) = acc.length + 1 + i
        omega) (by rw [List.length_append]; rw [List.length_cons] at hl; show acc.length + 1 + qs.length = _; omega) k4
      refine ⟨ds, μ', ?_, k7, k8⟩
      rw [List.map_cons]
      unfold compL
      rw [ifStill_nil]
      simp only [k1]
      have hi : evIfs Γ [c] ρ1 μ = .ok true μ := by
        show (evE Γ c ρ1 μ).bind (fun d μ1 => tru d μ1 fun b => if b then evIfs Γ [] ρ1 μ1 else .ok false μ1) = _
        rw [kc, R.bind_ok, tru_bl, if_pos rfl]
        rfl
      rw [hi, R.bind_ok, if_pos rfl, k3, R.bind_ok, k6]
  obtain ⟨ds, μ', k6, k7, k8⟩ := key ps [] μ1 (fun i => by rw [List.length_nil, Nat.zero_add]) (by simp) hI
  have he : evE Γ (.comp false melt mt ik mits [c] own) ρ μ = .ok (.lst ds) μ' := by
    show (evEs Γ mits ρ μ).bind _ = _
    rw [h1, R.bind_ok]
    simp only [h2]
    rw [k6]
    rfl
  exact wpR_of he (hq ds μ' k7 k8)
theorem ev_filtM2 {α : Type} {Γ : Tb} {ρ : T.Env} {μ μ1 : Sto} {c melt : Ee} {mt : Tg} {own : List Nat} {ik : IK} {mits : List Ee} {xs : List D} (ps : List α) (g : α → D) (h1 : evEs Γ mits ρ μ = .ok xs μ1) (h2 : itemsOf ik xs μ1 = some (ps.map g, []))
    (h : ∀ d ∈ ps, ∃ ρ1, setTg μ1 mt (g d) (wipeE ρ own) = some ρ1 ∧ evE Γ c ρ1 μ1 = .ok (.bl false) μ1) : evE Γ (.comp false melt mt ik mits [c] own) ρ μ = .ok (.lst []) μ1 := by
  have key : ∀ (es : List α), (∀ d ∈ es, ∃ ρ1, setTg μ1 mt (g d) (wipeE ρ own) = some ρ1 ∧ evE Γ c ρ1 μ1 = .ok (.bl false) μ1) → compL [] (wipeE ρ own) mt (evIfs Γ [c]) (evE Γ melt) (es.map g) [] μ1 = .ok [] μ1 := by
    intro es
    induction es with
    | nil =>
      intro _
      rw [List.map_nil]
      unfold compL
      rw [ifStill_nil]
    | cons e es ih =>
      intro h
      obtain ⟨ρ1, k1, kc⟩ := h e (List.mem_cons_self ..)
      rw [List.map_cons]
      unfold compL
      rw [ifStill_nil]
      simp only [k1]
      have hi : evIfs Γ [c] ρ1 μ1 = .ok false μ1 := by
        show (evE Γ c ρ1 μ1).bind (fun d μ1 => tru d μ1 fun b => if b then evIfs Γ [] ρ1 μ1 else .ok false μ1) = _
        rw [kc, R.bind_ok, tru_bl, if_neg Bool.false_ne_true]
      rw [hi, R.bind_ok, if_neg Bool.false_ne_true]
      exact ih fun d hd => h d (List.mem_cons_of_mem _ hd)
  show (evEs Γ mits ρ μ).bind _ = _
  rw [h1, R.bind_ok]
  simp only [h2]
  rw [key ps h]
  rfl
end S
namespace S
open PySem T
abbrev Z20 (a b c d e f g h i j k l m n o p q r s t : Option D) : T.Env := [a, b, c, d, e, f, g, h, i, j, k, l, m, n, o, p, q, r, s, t]
theorem ne_tI4 {xs : List Int} (h : ∀ x ∈ xs, B 500 x) {μ : Sto} : cmpD .ne (tI xs) (tI xs) μ = .ok (.bl false) μ := by
  have ht := sho_tI h (Nat.le_refl _)
  exact ne_same ht.sh (Nat.le_trans ht.dp (by decide))
theorem turnL_bd {n : Nat} {m : Int} (h0 : 0 ≤ m) : ∀ (ims : List Im) (f : List Int), (∀ im ∈ ims, TurnOk n im) → f.length = n → (∀ x ∈ f, -m ≤ x ∧ x ≤ m) → (turnL n f ims).length = n ∧ ∀ x ∈ turnL n f ims, -m ≤ x ∧ x ≤ m
  | [], f, _, hl, hf => ⟨hl, hf⟩
  | im :: ims, f, h, hl, hf => turnL_bd h0 ims _ (fun i hi => h i (List.mem_cons_of_mem _ hi)) (behI_len _ _ _) (behI_bd h0 hf fun q hq => ((h im (List.mem_cons_self ..)).sg q hq).1)
theorem r04 {Γ : Tb} (ht : SDraw (Γ.fn 1000)) (hla : SLabelsG (Γ.fn 1001)) (hmo : SMovesD (Γ.fn 1002)) (hsu : SSumG (Γ.fn 1003)) (hpk : SPickG (Γ.fn 1004)) (hmv : SMovedL (Γ.fn 1005)) (hsp : SSpellM (Γ.fn 1006)) (htu : STurnedP (Γ.fn 162)) (hin : SIniQ (Γ.ini 1)) : SRightG (runD Γ Dt.f__law_right) := by
  refine right_ofG fun L k μ hs => wp_run rfl ?_
  have hlen : μ.length = L := by
    have := hs.len
    simpa using this
  rw [hlen]
  show wpF (exB Γ [.loop _ _ _ _, .ret _] (Z20 (some (.cell k)) none none none none none none none none none none none none none none none none none none none) μ) _ _
  refine wp_cons (wp_loop (xs := [.int ((4 : Nat) : Int)]) (μ1 := μ) rfl (range_items (n := 4) (by decide) μ) ?_)
  refine wp_for (fun i ρ μ => ∃ y1 y2 y3 y4 y5 y6 y7 y8 y9 y10 y11 y12 y13 y14 y15 y16 y17 y18 y19, ρ = Z20 (some (.cell k)) y1 y2 y3 y4 y5 y6 y7 y8 y9 y10 y11 y12 y13 y14 y15 y16 y17 y18 y19 ∧ StG L k 0 [] μ) (List.range 4) (fun (i : Nat) => .int (i : Int)) [] (fun _ _ _ _ p hp => by cases hp)
    ⟨none, none, none, none, none, none, none, none, none, none, none, none, none, none, none, none, none, none, none, rfl, hs⟩ ?_ ?_
  · rintro i q hq ρ μ0 ⟨y1, y2, y3, y4, y5, y6, y7, y8, y9, y10, y11, y12, y13, y14, y15, y16, y17, y18, y19, rfl, hs0⟩
    have hcs : ([] : List Cell).all (belowC L) = true := rfl
    refine ⟨Z20 (some (.cell k)) (some (.int (q : Int))) y2 y3 y4 y5 y6 y7 y8 y9 y10 y11 y12 y13 y14 y15 y16 y17 y18 y19, rfl, ?_⟩
    -- how many names
    refine wp_cons (wp_asg (wp_bin (wp_k (wp_drE ht (L := L) (m := 0) (cs := []) (k := k) (many := 6) rfl rfl hs0 (by decide) (by decide) fun x μ1 x0 x1 hs1 => wpR_of (add_int μ1) ?_))))
    obtain ⟨n, hn⟩ := Int.eq_ofNat_of_zero_le (show 0 ≤ 1 + x by omega)
    rw [hn]
    have hn1 : 1 ≤ n := by omega
    have hn6 : n ≤ 6 := by omega
    show wpF (exB Γ _ (Z20 (some (.cell k)) (some (.int (q : Int))) (some (.int (n : Int))) y3 y4 y5 y6 y7 y8 y9 y10 y11 y12 y13 y14 y15 y16 y17 y18 y19) μ1) _ _
    -- names, turns
    refine wp_cons (wp_asg2 (wp_call2 (wp_v rfl (wp_v rfl (hla L k 0 n [] μ1 _ hs1 hcs hn1 hn6 fun js μ2 hd9 hjl hs2 => wp_call3 (wp_v rfl (wp_v rfl (wp_k (hmo L k 0 n [] μ2 _ hs2 hcs hn6 fun zs μ3 hz4 hz5 hzp hzT hs3 => ?_)))))))))
    -- BEGIN
    have h9 : ∀ j ∈ js, j < 9 := fun j hj => by
      have hw := (hd9.nw (nm9 j) (List.mem_map.mpr ⟨j, hj, rfl⟩)).lo
      apply Classical.byContradiction
      intro hc
      have h0 : nm9 j = [] := by
        unfold nm9
        rw [List.getD_eq_getElem?_getD, List.getElem?_eq_none (by show 9 ≤ j; omega)]
        rfl
      rw [h0] at hw
      exact absurd hw (by decide)
    have hd : SchOk (schM js zs) := schM_ok hd9 h9 hz4 hz5 hzp fun z hz => by rw [hjl]; exact hzT z hz
    have hnl : (schM js zs).ns.length = n := by
      show (js.map nm9).length = n
      rw [List.length_map, hjl]
    have hTT : ∀ t ∈ (schM js zs).ts, TurnOk n t.2 := fun t ht => by
      obtain ⟨z, hz, rfl⟩ := List.mem_map.mp ht
      exact hzT z hz
    have hmvs : zs.map mvD = (schM js zs).ts.map tuT := by
      show _ = (zs.map mvT).map tuT
      rw [List.map_map]
      rfl
    have hns : wsD (sch9 js).ns = wsD (schM js zs).ns := rfl
    rw [hmvs, hns]
    generalize hdd : schM js zs = d at *
    show wpF (exB Γ _ (Z20 (some (.cell k)) (some (.int (q : Int))) (some (.int (n : Int))) y3 y4 y5 y6 y7 (some (.lst (wsD d.ns))) (some (.lst (d.ts.map tuT))) y10 y11 y12 y13 y14 y15 y16 y17 y18 y19) μ3) _ _
    have hW3 : Wf μ3 := hs3.wf hcs
    have hspl := hsp d μ3 hd hW3
    have hmk := mk_scheme hin hd hW3
    have eS : evE Γ (.mk 1 [(.call 1006 [(.v 8), (.v 9)])]) (Z20 (some (.cell k)) (some (.int (q : Int))) (some (.int (n : Int))) y3 y4 y5 y6 y7 (some (.lst (wsD d.ns))) (some (.lst (d.ts.map tuT))) y10 y11 y12 y13 y14 y15 y16 y17 y18 y19) μ3 = .ok (scD d) μ3 := by
      generalize D.lst (wsD d.ns) = W at *
      generalize D.lst (d.ts.map tuT) = TT at *
      simp only [hspl, hmk, evz]
    refine wp_cons (wp_asg2 (wpR_of eS (wp_call3 (wp_v rfl (wp_v rfl (wp_k (hsu L k 0 n 1000 [] μ3 _ hs3 hcs (by omega) (by decide) (by decide) fun f μ4 hfl hfm hs4 => ?_)))))))
    have hturn := htu d
    generalize hSc : scD d = Sc at *
    show wpF (exB Γ _ (Z20 (some (.cell k)) (some (.int (q : Int))) (some (.int (n : Int))) y3 y4 y5 y6 y7 (some (.lst (wsD d.ns))) (some (.lst (d.ts.map tuT))) (some Sc) (some (tI f)) y12 y13 y14 y15 y16 y17 y18 y19) μ4) _ _
    -- a row of turns
    have hrow : wpR (evE Γ (.comp false (.call 1004 [(.v 0), (.v 9)]) (.nm 14) .range [(.call 1000 [(.v 0), (.k (.int 7))])] [(.cmp .ne (.v 9) (.lst []))] [14]) (Z20 (some (.cell k)) (some (.int (q : Int))) (some (.int (n : Int))) y3 y4 y5 y6 y7 (some (.lst (wsD d.ns))) (some (.lst (d.ts.map tuT))) (some Sc) (some (tI f)) y12 y13 y14 y15 y16 y17 y18 y19) μ4) (fun R μ' => ∃ row : List (List Nat × Im), R = .lst (row.map tuT) ∧ (∀ t ∈ row, t ∈ d.ts) ∧ row.length ≤ 6 ∧ StG L k 0 [] μ') := by
      obtain ⟨cd, μ5, e5, c, rfl, c0, c1, hs5⟩ := wpR_ex (ht L k 0 [] μ4 7 (fun d μ' => ∃ c : Int, d = .int c ∧ 0 ≤ c ∧ c < 7 ∧ StG L k 0 [] μ') hs4 (by decide) (by decide) fun i μ' a b c => ⟨i, rfl, a, b, c⟩)
      obtain ⟨m, rfl⟩ := Int.eq_ofNat_of_zero_le c0
      have hits : evEs Γ [(.call 1000 [(.v 0), (.k (.int 7))])] (Z20 (some (.cell k)) (some (.int (q : Int))) (some (.int (n : Int))) y3 y4 y5 y6 y7 (some (.lst (wsD d.ns))) (some (.lst (d.ts.map tuT))) (some Sc) (some (tI f)) y12 y13 y14 y15 y16 y17 y18 y19) μ4 = .ok [.int (m : Int)] μ5 := by
        simp only [e5, evz]
      have hne : ∀ μ' : Sto, cmpD .ne (.lst (d.ts.map tuT)) (.lst []) μ' = .ok (.bl (!decide (d.ts.map tuT = []))) μ' := fun μ' => ne_nilL2 fun e he => by
        obtain ⟨t, ht', rfl⟩ := List.mem_map.mp he
        exact pyo_tuT (hd.ascW ht')
      have f0 : fits 0 = true := fits_small (by decide)
      by_cases hemp : d.ts = []
      · have hc : ∀ (ρ1 : T.Env) (μ' : Sto), ρ1[9]? = some (some (.lst (d.ts.map tuT))) → evE Γ (.cmp .ne (.v 9) (.lst [])) ρ1 μ' = .ok (.bl false) μ' := fun ρ1 μ' h9 => by
          have hne := hne μ'
          rw [decide_eq_true (by rw [hemp]; rfl)] at hne
          have hv : evE Γ (.v 9) ρ1 μ' = .ok (.lst (d.ts.map tuT)) μ' := by rw [ev_v, h9]
          have hl : evE Γ (.lst []) ρ1 μ' = .ok (.lst []) μ' := by simp only [f0, evz]
          rw [ev_cmp, hv, R.bind_ok, hl, R.bind_ok]
          exact hne
        have hF := ev_filtM2 (Γ := Γ) (ρ := (Z20 (some (.cell k)) (some (.int (q : Int))) (some (.int (n : Int))) y3 y4 y5 y6 y7 (some (.lst (wsD d.ns))) (some (.lst (d.ts.map tuT))) (some Sc) (some (tI f)) y12 y13 y14 y15 y16 y17 y18 y19)) (c := .cmp .ne (.v 9) (.lst [])) (melt := .call 1004 [(.v 0), (.v 9)]) (mt := .nm 14) (own := [14]) (List.range m) (fun (i : Nat) => .int (i : Int)) hits (range_items (by omega) μ5) fun p _ => ⟨_, rfl, hc _ _ rfl⟩
        exact wpR_of hF ⟨[], rfl, fun t h => (by cases h), by simp, hs5⟩
      · refine wp_compT (fun acc μ' => ∃ row : List (List Nat × Im), acc = row.map tuT ∧ (∀ t ∈ row, t ∈ d.ts) ∧ StG L k 0 [] μ') (List.range m) (fun (i : Nat) => .int (i : Int)) hits (range_items (by omega) μ5) ⟨[], rfl, fun t h => (by cases h), hs5⟩ ?_ ?_
        · rintro acc p hp μ' ⟨row, rfl, hr, hs'⟩
          refine ⟨(Z20 (some (.cell k)) (some (.int (q : Int))) (some (.int (n : Int))) y3 y4 y5 y6 y7 (some (.lst (wsD d.ns))) (some (.lst (d.ts.map tuT))) (some Sc) (some (tI f)) y12 y13 (some (.int (p : Int))) y15 y16 y17 y18 y19), rfl, ?_, wp_call2 (wp_v rfl (wp_v rfl ?_))⟩
          · have hne := hne μ'
            rw [decide_eq_false (fun z => hemp (List.map_eq_nil_iff.mp z))] at hne
            generalize D.lst (d.ts.map tuT) = TT at *
            simp only [hne, f0, evz]
          · refine hpk L k 0 [] μ' (.lst (d.ts.map tuT)) (d.ts.map tuT) _ hs' (fun z => hemp (List.map_eq_nil_iff.mp z)) (by rw [List.length_map]; have := hd.t4; omega) (fun μ'' _ => pick_seq (.inl rfl) μ'') fun e he μ'' hs'' => ?_
            obtain ⟨t, ht', rfl⟩ := List.mem_map.mp he
            exact ⟨row ++ [t], by rw [List.map_append]; rfl, fun u hu => by
              rcases List.mem_append.mp hu with h | h
              · exact hr u h
              · rw [List.mem_singleton] at h
                rw [h]
                exact ht', hs''⟩
        · rintro ds μ' hl ⟨row, rfl, hr, hs'⟩
          rw [List.length_map, List.length_range] at hl
          exact ⟨row, rfl, hr, by omega, hs'⟩
    obtain ⟨R0, μ5, e5, row, rfl, hr, hr6, hs5⟩ := wpR_ex hrow
    have hW5 : Wf μ5 := hs5.wf hcs
    have hrT : ∀ im ∈ row.map (·.2), TurnOk n im := fun im him => by
      obtain ⟨t, ht', rfl⟩ := List.mem_map.mp him
      exact hTT t (hr t ht')
    refine wp_cons (wp_asg (wpR_of e5 ?_))
    show wpF (exB Γ _ (Z20 (some (.cell k)) (some (.int (q : Int))) (some (.int (n : Int))) (some (.lst (row.map tuT))) y4 y5 y6 y7 (some (.lst (wsD d.ns))) (some (.lst (d.ts.map tuT))) (some Sc) (some (tI f)) y12 y13 y14 y15 y16 y17 y18 y19) μ5) _ _
    refine wp_cons (wp_asg (wpR_of (a := tI f) (μ := μ5) rfl ?_))
    show wpF (exB Γ _ (Z20 (some (.cell k)) (some (.int (q : Int))) (some (.int (n : Int))) (some (.lst (row.map tuT))) (some (tI f)) y5 y6 y7 (some (.lst (wsD d.ns))) (some (.lst (d.ts.map tuT))) (some Sc) (some (tI f)) y12 y13 y14 y15 y16 y17 y18 y19) μ5) _ _
    refine wp_cons (wp_loop (xs := [.lst (row.map tuT)]) (μ1 := μ5) rfl rfl ?_)
    refine wp_for (fun j ρ μ => ∃ y12 y13, ρ = (Z20 (some (.cell k)) (some (.int (q : Int))) (some (.int (n : Int))) (some (.lst (row.map tuT))) (some (tI (turnL n f ((row.take j).map (·.2))))) y5 y6 y7 (some (.lst (wsD d.ns))) (some (.lst (d.ts.map tuT))) (some Sc) (some (tI f)) y12 y13 y14 y15 y16 y17 y18 y19) ∧ μ = μ5) row tuT [] (fun _ _ _ _ p hp => by cases hp) ⟨y12, y13, rfl, rfl⟩ ?_ ?_
    · rintro j t hj ρ μ' ⟨y12, y13, rfl, rfl⟩
      have htm := hr t (List.mem_of_getElem? hj)
      have hTt := hTT t htm
      obtain ⟨gl, gb⟩ := turnL_bd (n := n) (m := 1000) (by decide) ((row.take j).map (·.2)) f (fun im him => hrT im (by
        obtain ⟨u, hu, rfl⟩ := List.mem_map.mp him
        exact List.mem_map.mpr ⟨u, List.mem_of_mem_take hu, rfl⟩)) hfl hfm
      refine ⟨(Z20 (some (.cell k)) (some (.int (q : Int))) (some (.int (n : Int))) (some (.lst (row.map tuT))) (some (tI (turnL n f ((row.take j).map (·.2))))) y5 y6 y7 (some (.lst (wsD d.ns))) (some (.lst (d.ts.map tuT))) (some Sc) (some (tI f)) (some (.str (SX.S t.1))) (some (imTu t.2)) y14 y15 y16 y17 y18 y19), rfl, ?_⟩
      have hm := hmv t.2 (turnL n f ((row.take j).map (·.2))) μ' hW5 (by omega) (by rw [hTt.len, gl]) (fun z hz => by rw [gl]; exact (hTt.sg z hz).2) fun x hx => by have := gb x hx; exact small_of (by omega) (by omega)
      rw [gl] at hm
      refine wp_cons (wp_asg (wpR_of (a := tI (behI n (turnL n f ((row.take j).map (·.2))) t.2)) (μ := μ') ?_ (wp_nil ⟨some (.str (SX.S t.1)), some (imTu t.2), ?_, rfl⟩)))
      · generalize D.lst (row.map tuT) = RW at *
        generalize D.lst (d.ts.map tuT) = TT at *
        generalize D.lst (wsD d.ns) = W at *
        simp only [hm, evz]
      · have et : turnL n f ((row.take (j + 1)).map (·.2)) = behI n (turnL n f ((row.take j).map (·.2))) t.2 := by
          rw [List.take_add_one, hj]
          show turnL n f ((row.take j ++ [t]).map (·.2)) = _
          unfold turnL
          rw [List.map_append, List.foldl_append]
          rfl
        rw [et]
        rfl
    rintro ρ μ' ⟨y12, y13, rfl, hμ'⟩
    rw [hμ', List.take_length]
    -- what the program tells
    obtain ⟨tl, tb⟩ := turnL_bd (n := n) (m := 1000) (by decide) (row.map (·.2)) f hrT hfl hfm
    have hfok : fmOk d.ns.length f := ⟨by rw [hnl]; exact hfl, hfm⟩
    have k1 := hturn f row μ5 hd hW5 hr hfok
    rw [hnl] at k1
    have bB : ∀ x : Int, -1000 ≤ x → x ≤ 1000 → B 500 x := fun x a b => by
      have h : B 12 x := by
        unfold B
        have : x.natAbs ≤ 1000 := by omega
        exact Nat.lt_of_le_of_lt this (by decide)
      exact h.mono (by decide)
    have nt := ne_tI4 (xs := turnL n f (row.map (·.2))) (fun x hx => bB x (tb x hx).1 (tb x hx).2) (μ := μ5)
    have cW : ∀ y5 y6 : Option D, evE Γ (.bi .tuple [(.comp false (.ix (.v 15) (.k (.int 0))) (.nm 15) .plain [(.v 3)] [] [15])]) (Z20 (some (.cell k)) (some (.int (q : Int))) (some (.int (n : Int))) (some (.lst (row.map tuT))) (some (tI (turnL n f (row.map (·.2))))) y5 y6 y7 (some (.lst (wsD d.ns))) (some (.lst (d.ts.map tuT))) (some Sc) (some (tI f)) y12 y13 y14 y15 y16 y17 y18 y19) μ5 = .ok (.tup (row.map fun t => .str (SX.S t.1))) μ5 := fun y5 y6 => by
      have hcm := ev_compM (Γ := Γ) (ρ := (Z20 (some (.cell k)) (some (.int (q : Int))) (some (.int (n : Int))) (some (.lst (row.map tuT))) (some (tI (turnL n f (row.map (·.2))))) y5 y6 y7 (some (.lst (wsD d.ns))) (some (.lst (d.ts.map tuT))) (some Sc) (some (tI f)) y12 y13 y14 y15 y16 y17 y18 y19)) (μ := μ5) (melt := .ix (.v 15) (.k (.int 0))) (mt := .nm 15) (ik := .plain) (mits := [.v 3]) (own := [15]) (xs := [.lst (row.map tuT)]) row tuT (fun t => .str (SX.S t.1)) rfl rfl fun t _ => ⟨_, rfl, rfl⟩
      rw [ev_bi, evs_cons, hcm, R.bind_ok, evs_nil, R.bind_ok, R.bind_ok]
      rfl
    generalize hTW : D.tup (row.map fun t => .str (SX.S t.1)) = TW at *
    have hcall : evE Γ (.call 162 [(.v 10), (.v 11), (.bi .tuple [(.comp false (.ix (.v 15) (.k (.int 0))) (.nm 15) .plain [(.v 3)] [] [15])])]) (Z20 (some (.cell k)) (some (.int (q : Int))) (some (.int (n : Int))) (some (.lst (row.map tuT))) (some (tI (turnL n f (row.map (·.2))))) y5 y6 y7 (some (.lst (wsD d.ns))) (some (.lst (d.ts.map tuT))) (some Sc) (some (tI f)) y12 y13 y14 y15 y16 y17 y18 y19) μ5 = .ok (tI (turnL n f (row.map (·.2)))) μ5 := by
      rw [ev_call, evs_cons]
      show ((((R.ok Sc μ5).bind _).bind _)) = _
      rw [R.bind_ok, evs_cons]
      show (((((R.ok (tI f) μ5).bind _).bind _).bind _)) = _
      rw [R.bind_ok, evs_cons, cW, R.bind_ok, evs_nil, R.bind_ok, R.bind_ok, R.bind_ok, R.bind_ok]
      exact k1
    refine wp_cons (wp_asg (wpR_of hcall ?_))
    show wpF (exB Γ _ (Z20 (some (.cell k)) (some (.int (q : Int))) (some (.int (n : Int))) (some (.lst (row.map tuT))) (some (tI (turnL n f (row.map (·.2))))) (some (tI (turnL n f (row.map (·.2))))) y6 y7 (some (.lst (wsD d.ns))) (some (.lst (d.ts.map tuT))) (some Sc) (some (tI f)) y12 y13 y14 y15 y16 y17 y18 y19) μ5) _ _
    refine wp_cons (wp_ite false ?_ (fun z => by cases z) fun _ => wp_nil ?_)
    · have hck : evE Γ (.callk 162 [] [(.bi .tuple [(.comp false (.ix (.v 15) (.k (.int 0))) (.nm 15) .plain [(.v 3)] [] [15])]), (.v 11), (.v 10)] [2, 1, 0]) (Z20 (some (.cell k)) (some (.int (q : Int))) (some (.int (n : Int))) (some (.lst (row.map tuT))) (some (tI (turnL n f (row.map (·.2))))) (some (tI (turnL n f (row.map (·.2))))) y6 y7 (some (.lst (wsD d.ns))) (some (.lst (d.ts.map tuT))) (some Sc) (some (tI f)) y12 y13 y14 y15 y16 y17 y18 y19) μ5 = .ok (tI (turnL n f (row.map (·.2)))) μ5 := by
        have c5 := cW (some (tI (turnL n f (row.map (·.2))))) y6
        rw [ev_callk, evs_nil, R.bind_ok, evs_cons, c5, R.bind_ok, evs_cons]
        show (((((R.ok (tI f) μ5).bind _).bind _).bind _)) = _
        rw [R.bind_ok, evs_cons]
        show ((((((R.ok Sc μ5).bind _).bind _).bind _).bind _)) = _
        rw [R.bind_ok, evs_nil, R.bind_ok, R.bind_ok, R.bind_ok, R.bind_ok]
        exact k1
      generalize tI (turnL n f (row.map (·.2))) = TU at *
      have n1 : evE Γ (.cmp .ne (.v 5) (.v 4)) (Z20 (some (.cell k)) (some (.int (q : Int))) (some (.int (n : Int))) (some (.lst (row.map tuT))) (some TU) (some TU) y6 y7 (some (.lst (wsD d.ns))) (some (.lst (d.ts.map tuT))) (some Sc) (some (tI f)) y12 y13 y14 y15 y16 y17 y18 y19) μ5 = .ok (.bl false) μ5 := by
        rw [ev_cmp]
        show (R.ok TU μ5).bind _ = _
        rw [R.bind_ok]
        show (R.ok TU μ5).bind _ = _
        rw [R.bind_ok]
        exact nt
      rw [evT_eq, ev_or, n1, R.bind_ok, tru_bl, if_neg Bool.false_ne_true, ev_cmp, hck, R.bind_ok]
      show ((R.ok TU μ5).bind _).bind _ = _
      rw [R.bind_ok, nt, R.bind_ok, tru_bl]
    -- numbers
    refine wp_cons (wp_asg (wp_comp (fun _ μ => StG L k 0 [] μ) (fun _ e => ∃ x : Int, e = .int x ∧ -1000 ≤ x ∧ x ≤ 1000) (List.range n) (fun (i : Nat) => .int (i : Int)) (xs := [.int (n : Int)]) (μ1 := μ5) rfl (range_items (by omega) μ5) hs5 ?_ ?_))
    · intro j p hp μ' hI
      refine ⟨(Z20 (some (.cell k)) (some (.int (q : Int))) (some (.int (n : Int))) (some (.lst (row.map tuT))) (some (tI (turnL n f (row.map (·.2))))) (some (tI (turnL n f (row.map (·.2))))) y6 y7 (some (.lst (wsD d.ns))) (some (.lst (d.ts.map tuT))) (some Sc) (some (tI f)) y12 y13 (some (.int (p : Int))) y15 y16 y17 y18 y19), rfl, ?_⟩
      refine wp_bin (wp_drE ht (L := L) (m := 0) (cs := []) (k := k) (many := 2000) rfl rfl hI (by decide) (by decide) fun x μ'' x0 x1 hs' => wp_k (wpR_of (sub_int μ'') ⟨⟨x - 1000, rfl, by omega, by omega⟩, hs'⟩))
    intro vds μ6 hvl hvP hs6
    rw [List.length_range] at hvl
    have hvm := by_mem (ps := List.range n) (by rw [List.length_range]; exact hvl) hvP
    obtain ⟨v, rfl, hv⟩ := list_of D.int (fun x => -1000 ≤ x ∧ x ≤ 1000) fun e he => by
      obtain ⟨_, _, x, h3, h4⟩ := hvm e he
      exact ⟨x, h3, h4⟩
    rw [List.length_map] at hvl
    have hW6 : Wf μ6 := hs6.wf hcs
    show wpF (exB Γ _ (Z20 (some (.cell k)) (some (.int (q : Int))) (some (.int (n : Int))) (some (.lst (row.map tuT))) (some (tI (turnL n f (row.map (·.2))))) (some (tI (turnL n f (row.map (·.2))))) (some (lI v)) y7 (some (.lst (wsD d.ns))) (some (.lst (d.ts.map tuT))) (some Sc) (some (tI f)) y12 y13 y14 y15 y16 y17 y18 y19) μ6) _ _
    refine wp_cons (wp_asg (wpR_of (a := lI v) (μ := μ6) rfl ?_))
    show wpF (exB Γ _ (Z20 (some (.cell k)) (some (.int (q : Int))) (some (.int (n : Int))) (some (.lst (row.map tuT))) (some (tI (turnL n f (row.map (·.2))))) (some (tI (turnL n f (row.map (·.2))))) (some (lI v)) (some (lI v)) (some (.lst (wsD d.ns))) (some (.lst (d.ts.map tuT))) (some Sc) (some (tI f)) y12 y13 y14 y15 y16 y17 y18 y19) μ6) _ _
    have hrv : itemsOf .plain [.lst ((row.map tuT).reverse)] μ6 = some (row.reverse.map tuT, []) := by
      rw [List.map_reverse]
      rfl
    refine wp_cons (wp_loop (xs := [.lst ((row.map tuT).reverse)]) (μ1 := μ6) rfl hrv ?_)
    refine wp_for (fun j ρ μ => ∃ (u : List Int) (y12 y13 : Option D), ρ = (Z20 (some (.cell k)) (some (.int (q : Int))) (some (.int (n : Int))) (some (.lst (row.map tuT))) (some (tI (turnL n f (row.map (·.2))))) (some (tI (turnL n f (row.map (·.2))))) (some (lI v)) (some (lI u)) (some (.lst (wsD d.ns))) (some (.lst (d.ts.map tuT))) (some Sc) (some (tI f)) y12 y13 y14 y15 y16 y17 y18 y19) ∧ μ = μ6 ∧ u.length = n ∧ (∀ x ∈ u, -1000 ≤ x ∧ x ≤ 1000) ∧ u = (row.reverse.take j).foldl (fun v t => bkI t.2 v) v) row.reverse tuT [] (fun _ _ _ _ p hp => by cases hp) ⟨v, y12, y13, rfl, rfl, hvl, hv, rfl⟩ ?_ ?_
    · rintro j t hj ρ μ' ⟨u, y12, y13, rfl, rfl, hul, hub, hue⟩
      have htm := hr t (List.mem_reverse.mp (List.mem_of_getElem? hj))
      have hTt := hTT t htm
      refine ⟨(Z20 (some (.cell k)) (some (.int (q : Int))) (some (.int (n : Int))) (some (.lst (row.map tuT))) (some (tI (turnL n f (row.map (·.2))))) (some (tI (turnL n f (row.map (·.2))))) (some (lI v)) (some (lI u)) (some (.lst (wsD d.ns))) (some (.lst (d.ts.map tuT))) (some Sc) (some (tI f)) (some (.str (SX.S t.1))) (some (imTu t.2)) y14 y15 y16 y17 y18 y19), rfl, ?_⟩
      have hcm := ev_compM (Γ := Γ) (ρ := (Z20 (some (.cell k)) (some (.int (q : Int))) (some (.int (n : Int))) (some (.lst (row.map tuT))) (some (tI (turnL n f (row.map (·.2))))) (some (tI (turnL n f (row.map (·.2))))) (some (lI v)) (some (lI u)) (some (.lst (wsD d.ns))) (some (.lst (d.ts.map tuT))) (some Sc) (some (tI f)) (some (.str (SX.S t.1))) (some (imTu t.2)) y14 y15 y16 y17 y18 y19)) (μ := μ') (melt := .bin .mul (.v 16) (.ix (.v 7) (.v 17))) (mt := .tp [.nm 16, .nm 17]) (ik := .plain) (mits := [.v 13]) (own := [16, 17]) (xs := [imTu t.2]) t.2 imD (fun z => .int (z.1 * u.getD z.2 0)) rfl rfl fun z hz => by
        refine ⟨(Z20 (some (.cell k)) (some (.int (q : Int))) (some (.int (n : Int))) (some (.lst (row.map tuT))) (some (tI (turnL n f (row.map (·.2))))) (some (tI (turnL n f (row.map (·.2))))) (some (lI v)) (some (lI u)) (some (.lst (wsD d.ns))) (some (.lst (d.ts.map tuT))) (some Sc) (some (tI f)) (some (.str (SX.S t.1))) (some (imTu t.2)) y14 y15 (some (.int z.1)) (some (.int z.2)) y18 y19), rfl, ?_⟩
        have h1 := ix_lI (xs := u) (k := z.2) (by rw [hul]; exact (hTt.sg z hz).2) (μ := μ')
        have hm : binD .mul (.int z.1) (.int (u.getD z.2 0)) μ' = .ok (.int (z.1 * u.getD z.2 0)) μ' := mul_l (by
          rcases (hTt.sg z hz).1 with h | h <;> rw [h] <;> exact small_of (by decide) (by decide)) μ'
        generalize D.lst (row.map tuT) = RW at *
        generalize D.lst (d.ts.map tuT) = TT at *
        generalize D.lst (wsD d.ns) = W at *
        simp only [h1, hm, evz]
      have hel : (t.2.map fun z => D.int (z.1 * u.getD z.2 0)) = (bkI t.2 u).map .int := by
        unfold bkI
        rw [List.map_map]
        rfl
      rw [hel] at hcm
      refine wp_cons (wp_asg (wpR_of hcm (wp_nil ⟨bkI t.2 u, some (.str (SX.S t.1)), some (imTu t.2), rfl, rfl, ?_, bkI_bd (by decide) (fun z hz => (hTt.sg z hz).1) hub, ?_⟩)))
      · unfold bkI
        rw [List.length_map]
        exact hTt.len
      · rw [List.take_add_one, hj]
        show _ = (row.reverse.take j ++ [t]).foldl _ v
        rw [List.foldl_append, ← hue]
        rfl
    rintro ρ μ' ⟨u, y12, y13, rfl, hμ', hul, hub, hue⟩
    rw [hμ']
    rw [List.take_length, List.foldl_reverse] at hue
    have hub2 : u = bkL (row.map (·.2)) v := by
      rw [hue]
      unfold bkL
      rw [List.foldr_map]
    have hdot : dot (turnL n f (row.map (·.2))) v = dot f u := by
      rw [dot_I, dot_I, turnL_dot _ _ hrT, hub2]
    have hsum : ∀ (i j : Nat) (a b : List Int), (∀ x ∈ a, -1000 ≤ x ∧ x ≤ 1000) → evE Γ (.v i) (Z20 (some (.cell k)) (some (.int (q : Int))) (some (.int (n : Int))) (some (.lst (row.map tuT))) (some (tI (turnL n f (row.map (·.2))))) (some (tI (turnL n f (row.map (·.2))))) (some (lI v)) (some (lI u)) (some (.lst (wsD d.ns))) (some (.lst (d.ts.map tuT))) (some Sc) (some (tI f)) y12 y13 y14 y15 y16 y17 y18 y19) μ6 = .ok (tI a) μ6 → evE Γ (.v j) (Z20 (some (.cell k)) (some (.int (q : Int))) (some (.int (n : Int))) (some (.lst (row.map tuT))) (some (tI (turnL n f (row.map (·.2))))) (some (tI (turnL n f (row.map (·.2))))) (some (lI v)) (some (lI u)) (some (.lst (wsD d.ns))) (some (.lst (d.ts.map tuT))) (some Sc) (some (tI f)) y12 y13 y14 y15 y16 y17 y18 y19) μ6 = .ok (lI b) μ6 → evE Γ (.bi .sum [(.comp false (.bin .mul (.v 18) (.v 19)) (.tp [(.nm 18), (.nm 19)]) .zip [(.v i), (.v j)] [] [18, 19])]) (Z20 (some (.cell k)) (some (.int (q : Int))) (some (.int (n : Int))) (some (.lst (row.map tuT))) (some (tI (turnL n f (row.map (·.2))))) (some (tI (turnL n f (row.map (·.2))))) (some (lI v)) (some (lI u)) (some (.lst (wsD d.ns))) (some (.lst (d.ts.map tuT))) (some Sc) (some (tI f)) y12 y13 y14 y15 y16 y17 y18 y19) μ6 = .ok (.int (dot a b)) μ6 := fun i j a b ha hi hj => by
      have hits : evEs Γ [(.v i), (.v j)] (Z20 (some (.cell k)) (some (.int (q : Int))) (some (.int (n : Int))) (some (.lst (row.map tuT))) (some (tI (turnL n f (row.map (·.2))))) (some (tI (turnL n f (row.map (·.2))))) (some (lI v)) (some (lI u)) (some (.lst (wsD d.ns))) (some (.lst (d.ts.map tuT))) (some Sc) (some (tI f)) y12 y13 y14 y15 y16 y17 y18 y19) μ6 = .ok [tI a, lI b] μ6 := by
        rw [evs_cons, hi, R.bind_ok, evs_cons, hj, R.bind_ok, evs_nil, R.bind_ok, R.bind_ok]
      have hcm := ev_compM (Γ := Γ) (ρ := (Z20 (some (.cell k)) (some (.int (q : Int))) (some (.int (n : Int))) (some (.lst (row.map tuT))) (some (tI (turnL n f (row.map (·.2))))) (some (tI (turnL n f (row.map (·.2))))) (some (lI v)) (some (lI u)) (some (.lst (wsD d.ns))) (some (.lst (d.ts.map tuT))) (some Sc) (some (tI f)) y12 y13 y14 y15 y16 y17 y18 y19)) (μ := μ6) (melt := .bin .mul (.v 18) (.v 19)) (mt := .tp [.nm 18, .nm 19]) (ik := .zip) (mits := [.v i, .v j]) (own := [18, 19]) (a.zip b) (fun z => .tup [.int z.1, .int z.2]) (fun z => .int (z.1 * z.2)) hits (by rw [zip_sq sq_tup sq_lst, zipW_map]) fun z hz => by
        refine ⟨(Z20 (some (.cell k)) (some (.int (q : Int))) (some (.int (n : Int))) (some (.lst (row.map tuT))) (some (tI (turnL n f (row.map (·.2))))) (some (tI (turnL n f (row.map (·.2))))) (some (lI v)) (some (lI u)) (some (.lst (wsD d.ns))) (some (.lst (d.ts.map tuT))) (some Sc) (some (tI f)) y12 y13 y14 y15 y16 y17 (some (.int z.1)) (some (.int z.2))), rfl, ?_⟩
        have hm := mul_l (i := z.1) (j := z.2) (by
          have := ha _ (List.of_mem_zip hz).1
          exact small_of (by omega) (by omega)) μ6
        generalize D.lst (row.map tuT) = RW at *
        generalize D.lst (d.ts.map tuT) = TT at *
        generalize D.lst (wsD d.ns) = W at *
        simp only [hm, evz]
      rw [ev_bi, evs_cons, hcm, R.bind_ok, evs_nil, R.bind_ok, R.bind_ok]
      exact sum_map (fun p : Int × Int => p.1 * p.2) (a.zip b) μ6
    refine wp_cons (wp_ite false ?_ (fun z => by cases z) fun _ => wp_nil ?_)
    · have g1 := hsum 5 6 (turnL n f (row.map (·.2))) v tb rfl rfl
      have g2 := hsum 11 7 f u hfm rfl rfl
      rw [evT_eq, ev_cmp, g1, R.bind_ok, g2, R.bind_ok, ne_int, hdot, decide_eq_true rfl]
      rfl
    refine wp_cons (wp_ite false ?_ (fun z => by cases z) fun _ => wp_nil (wp_nil ⟨_, _, _, _, _, _, _, _, _, _, _, _, _, _, _, _, _, _, _, rfl, hs6⟩))
    have k2 := hturn f [] μ6 hd hW6 (fun t h => by cases h) hfok
    have k2 : Γ.fn 162 [Sc, tI f, .tup []] μ6 = .ok (tI f) μ6 := k2
    have nf := ne_tI4 (xs := f) (fun x hx => bB x (hfm x hx).1 (hfm x hx).2) (μ := μ6)
    have f0 : fits 0 = true := fits_small (by decide)
    generalize tI (turnL n f (row.map (·.2))) = TU at *
    generalize D.lst (row.map tuT) = RW at *
    generalize D.lst (d.ts.map tuT) = TT at *
    generalize D.lst (wsD d.ns) = W at *
    rw [evT_eq]
    simp only [k2, nf, f0, evz]
    -- END
  · rintro ρ μ1 ⟨y1, y2, y3, y4, y5, y6, y7, y8, y9, y10, y11, y12, y13, y14, y15, y16, y17, y18, y19, rfl, hs1⟩
    refine wp_cons (wp_ret (wp_k ?_))
    exact wp_leaveG (L := L) (k := k) (m := 0) hs1 rfl (fun i => by simp) fun μ' hs' => ⟨rfl, hs'⟩
end S
namespace Sp
open PySem T S
abbrev Γ_ (es : List En) : Tb := tbl Dt.at_ Dt.gl es
theorem gl_ (es : List En) (i : Nat) : (tbl Dt.at_ Dt.gl es).gl i = Dt.gl i := by rw [tbl_gl]
theorem gq (es : List En) : GQ (tbl Dt.at_ Dt.gl es) := by
  have h2 : (tbl Dt.at_ Dt.gl es).at_ = Dt.at_ := tbl_at es
  exact ⟨by rw [h2]; decide +kernel, by rw [h2]; decide +kernel, by rw [h2]; decide +kernel⟩
theorem isc (es : List En) : (tbl Dt.at_ Dt.gl es).isc 1 1 = some true := by
  have h1 : (Dt.at_ 1 "is " && Dt.at_ 1 "is ") = true := by decide +kernel
  have h3 : (if (Dt.at_ 1 "is " && Dt.at_ 1 "is ") = true then some ((1 : Nat) == 1) else none) = some true := if_pos h1
  cases es with
  | nil => exact h3
  | cons e r => exact h3
theorem sp0 : SChkS (runD (Γ_ Dt.es0) Pg.f_check_scheme) := u_chkS (isc Dt.es0)
theorem sp1 : SIsInt (runD (Γ_ Dt.es1) Pg.f_is_integer) := u_isInt
theorem sp1_at2 : SIsInt ((Γ_ Dt.es2).fn 102) := sp1
theorem sp2 : SBetw (runD (Γ_ Dt.es2) Pg.f_is_between) := u_betw sp1_at2
theorem sp2_at3 : SBetw ((Γ_ Dt.es3).fn 103) := sp2
theorem sp3 : SIsForm (runD (Γ_ Dt.es3) Pg.f_is_form) := u_isForm (gq Dt.es3) (gl_ Dt.es3 4) sp2_at3
theorem sp3_at4 : SIsForm ((Γ_ Dt.es4).fn 156) := sp3
theorem sp4 : SChkF (runD (Γ_ Dt.es4) Pg.f_check_form) := u_chkF sp3_at4
theorem sp5 : STurnOnce (runD (Γ_ Dt.es5) Pg.f_turned_once) := u_turnOnce (gq Dt.es5)
theorem sp5_at6 : STurnOnce ((Γ_ Dt.es6).fn 160) := sp5
theorem sp6 : STurnBy (runD (Γ_ Dt.es6) Pg.f_turned_by) := u_turnBy sp5_at6
theorem sp7 : SIsWord (runD (Γ_ Dt.es7) Pg.f_is_word) := u_isWord (gq Dt.es7)
theorem sp0_at8 : SChkS ((Γ_ Dt.es8).fn 155) := sp0
theorem sp4_at8 : SChkF ((Γ_ Dt.es8).fn 157) := sp4
theorem sp7_at8 : SIsWord ((Γ_ Dt.es8).fn 159) := sp7
theorem sp6_at8 : STurnBy ((Γ_ Dt.es8).fn 161) := sp6
theorem sp8 : STurnedP (runD (Γ_ Dt.es8) Pg.f_turned) := u_turned sp0_at8 sp4_at8 sp7_at8 sp6_at8
theorem sp9 : SDraw (runD (Γ_ Dt.es9) Dt.f__law_draw) := s_draw _
theorem sp9_at10 : SDraw ((Γ_ Dt.es10).fn 1000) := sp9
theorem sp10 : SLabelsG (runD (Γ_ Dt.es10) Dt.f__law_labels) := s_labelsG sp9_at10
theorem sp12 : SImgIn (runD (Γ_ Dt.es12) Pg.f_image_in) := u_imgIn _
theorem sp13 : SIsName (runD (Γ_ Dt.es13) Pg.f_is_name) := u_isName (gl_ Dt.es13 9)
theorem sp13_at14 : SIsName ((Γ_ Dt.es14).fn 104) := sp13
theorem sp12_at14 : SImgIn ((Γ_ Dt.es14).fn 143) := sp12
theorem sp14 : STurnIn (runD (Γ_ Dt.es14) Pg.f_turn_in) := u_turnIn sp13_at14 sp12_at14
theorem sp15 : SAsc (runD (Γ_ Dt.es15) Pg.f_are_ascending) := u_asc
theorem sp13_at16 : SIsName ((Γ_ Dt.es16).fn 104) := sp13
theorem sp15_at16 : SAsc ((Γ_ Dt.es16).fn 145) := sp15
theorem sp14_at16 : STurnIn ((Γ_ Dt.es16).fn 144) := sp14
theorem sp16 : SSchemeIn (runD (Γ_ Dt.es16) Pg.f_scheme_in) := u_schemeIn (gl_ Dt.es16 2) (gl_ Dt.es16 3) sp13_at16 sp15_at16 sp14_at16
theorem sp16_at17 : SSchemeIn ((Γ_ Dt.es17).fn 146) := sp16
theorem sp17 : SIniQ (runD (Γ_ Dt.es17) Pg.f_Scheme___init__) := u_iniQ (gq Dt.es17) sp16_at17
theorem sp9_at18 : SDraw ((Γ_ Dt.es18).fn 1000) := sp9
theorem sp18 : SSumG (runD (Γ_ Dt.es18) Dt.f__law_sum) := s_sumG sp9_at18
theorem sp9_at19 : SDraw ((Γ_ Dt.es19).fn 1000) := sp9
theorem sp19 : SPickG (runD (Γ_ Dt.es19) Dt.f__law_pick) := s_pickG sp9_at19
theorem sp23 : SPurseG (runD (Γ_ Dt.es23) Dt.f__law_purse) := s_purseG _
end Sp
namespace S
open PySem T Sp
theorem plain04 (ns : List Int) : ∃ μ, runD (Γ_ Dt.es24) Dt.f_law [.fro (ns.map .int)] [] = .ok (.bl true) μ := by
  have h11 : SMovesD (runD (Γ_ Dt.es11) Dt.f__law_moves) := s_moves (show SDraw ((Γ_ Dt.es11).fn 1000) from sp9)
  have h20 : SMovedL (runD (Γ_ Dt.es20) Dt.f__law_moved) := w_moved _
  have h21 : SSpellM (runD (Γ_ Dt.es21) Dt.f__law_spelled) := s_spellM _
  have h22 : SRightG (runD (Γ_ Dt.es22) Dt.f__law_right) := r04 (show SDraw ((Γ_ Dt.es22).fn 1000) from sp9) (show SLabelsG ((Γ_ Dt.es22).fn 1001) from sp10) (show SMovesD ((Γ_ Dt.es22).fn 1002) from h11) (show SSumG ((Γ_ Dt.es22).fn 1003) from sp18) (show SPickG ((Γ_ Dt.es22).fn 1004) from sp19) (show SMovedL ((Γ_ Dt.es22).fn 1005) from h20) (show SSpellM ((Γ_ Dt.es22).fn 1006) from h21) (show STurnedP ((Γ_ Dt.es22).fn 162) from sp8) (show SIniQ ((Γ_ Dt.es22).ini 1) from sp17)
  exact s_lawG (Γ := Γ_ Dt.es24) (r := 1007) (p := 1008) (m := 4) (by decide) (show SRightG ((Γ_ Dt.es24).fn 1007) from h22) (show SPurseG ((Γ_ Dt.es24).fn 1008) from sp23) ns
end S
namespace Ck
open PySem PySem.Spec PyProof.Rows L2 T
theorem ck0 : ckEn 40 Dt.gls Dt.blt Dt.en0 HdT.d0.body HdT.d0.scope Dt.es0 = true := by kernel_rfl
theorem ck1 : ckEn 40 Dt.gls Dt.blt Dt.en1 HdT.d1.body HdT.d1.scope Dt.es1 = true := by kernel_rfl
theorem ck2 : ckEn 40 Dt.gls Dt.blt Dt.en2 HdT.d2.body HdT.d2.scope Dt.es2 = true := by kernel_rfl
theorem ck3 : ckEn 40 Dt.gls Dt.blt Dt.en3 HdT.d3.body HdT.d3.scope Dt.es3 = true := by kernel_rfl
theorem ck4 : ckEn 40 Dt.gls Dt.blt Dt.en4 HdT.d4.body HdT.d4.scope Dt.es4 = true := by kernel_rfl
theorem ck5 : ckEn 40 Dt.gls Dt.blt Dt.en5 HdT.d5.body HdT.d5.scope Dt.es5 = true := by kernel_rfl
theorem ck6 : ckEn 40 Dt.gls Dt.blt Dt.en6 HdT.d6.body HdT.d6.scope Dt.es6 = true := by kernel_rfl
theorem ck7 : ckEn 40 Dt.gls Dt.blt Dt.en7 HdT.d7.body HdT.d7.scope Dt.es7 = true := by kernel_rfl
theorem ck8 : ckEn 40 Dt.gls Dt.blt Dt.en8 HdT.d8.body HdT.d8.scope Dt.es8 = true := by kernel_rfl
theorem ck9 : ckEn 40 Dt.gls Dt.blt Dt.en9 HdT.d9.body HdT.d9.scope Dt.es9 = true := by kernel_rfl
theorem ck10 : ckEn 40 Dt.gls Dt.blt Dt.en10 HdT.d10.body HdT.d10.scope Dt.es10 = true := by kernel_rfl
theorem ck11 : ckEn 40 Dt.gls Dt.blt Dt.en11 HdT.d11.body HdT.d11.scope Dt.es11 = true := by kernel_rfl
theorem ck12 : ckEn 40 Dt.gls Dt.blt Dt.en12 HdT.d12.body HdT.d12.scope Dt.es12 = true := by kernel_rfl
theorem ck13 : ckEn 40 Dt.gls Dt.blt Dt.en13 HdT.d13.body HdT.d13.scope Dt.es13 = true := by kernel_rfl
theorem ck14 : ckEn 40 Dt.gls Dt.blt Dt.en14 HdT.d14.body HdT.d14.scope Dt.es14 = true := by kernel_rfl
theorem ck15 : ckEn 40 Dt.gls Dt.blt Dt.en15 HdT.d15.body HdT.d15.scope Dt.es15 = true := by kernel_rfl
theorem ck16 : ckEn 40 Dt.gls Dt.blt Dt.en16 HdT.d16.body HdT.d16.scope Dt.es16 = true := by kernel_rfl
theorem ck17 : ckEn 40 Dt.gls Dt.blt Dt.en17 HdT.d17.body HdT.d17.scope Dt.es17 = true := by kernel_rfl
theorem ck18 : ckEn 40 Dt.gls Dt.blt Dt.en18 HdT.d18.body HdT.d18.scope Dt.es18 = true := by kernel_rfl
theorem ck19 : ckEn 40 Dt.gls Dt.blt Dt.en19 HdT.d19.body HdT.d19.scope Dt.es19 = true := by kernel_rfl
theorem ck20 : ckEn 40 Dt.gls Dt.blt Dt.en20 HdT.d20.body HdT.d20.scope Dt.es20 = true := by kernel_rfl
theorem ck21 : ckEn 40 Dt.gls Dt.blt Dt.en21 HdT.d21.body HdT.d21.scope Dt.es21 = true := by kernel_rfl
theorem ck22 : ckEn 40 Dt.gls Dt.blt Dt.en22 HdT.d22.body HdT.d22.scope Dt.es22 = true := by kernel_rfl
theorem ck23 : ckEn 40 Dt.gls Dt.blt Dt.en23 HdT.d23.body HdT.d23.scope Dt.es23 = true := by kernel_rfl
theorem ck24 : ckEn 40 Dt.gls Dt.blt Dt.en24 HdT.d24.body HdT.d24.scope Dt.es24 = true := by kernel_rfl
end Ck
namespace Fx
open PySem PySem.Spec PyProof.Rows L2 T
section
variable {P : Program} {w : World} {K : PySem.W.Frag} {h : Heap} {mg : Str → Option Value}
def G (w : World) (K : PySem.W.Frag) : Gx := ⟨K, w, fun C => if C = 1 then He.ga K "Scheme" else 0, fun _ => 0, fun _ => [], []⟩
structure Bk (w : World) (h : Heap) (K : PySem.W.Frag) (mg : Str → Option Value) : Prop where
  X : K.In h
  N : h.Ns mainGlobals mg
  c : HeY.SaysY HdT.fa HdT.fn HdT.ts HdT.ex HdT.gs HdT.is_ w h K
theorem enA (b : Bk w h K mg) (i k : Nat) {e : En} {d : He.DefD} (hd : HdT.fn[i]? = some d) (hk : HdT.fa[k]? = some (.glo e.x)) (h0 : d.at_ = (e.x, none)) (h1 : e.cl = none ∧ e.mp = none ∧ e.kw = [] ∧ e.df0 = [] ∧ d.dvs K = []) (hb : ∀ (kV doc pm : Value) (an : Option Addr) (cdv ct : Value) (us : List Value), us.length = e.ps.length → bindArgs (PySem.W.fnOf d.name d.qual d.params d.body d.scope .none kV doc pm an cdv ct) ⟨us, []⟩ = pure (e.ps.zip us)) : EnOk K mg (G w K) e d := by
  obtain ⟨fd, F⟩ := b.c.t.d.def_ i hd
  obtain ⟨h1, h2, h3, h4, h5⟩ := h1
  have F1 := F
  rw [h5] at F1
  refine ⟨_, fd, F, ?_⟩
  unfold EnK
  rw [h1, h2]
  refine ⟨?_, fun q hq => ?_, [], FunD.bindsN F1 hb, ?_, ?_⟩
  · rw [h0]
    exact He.glo_ok b.X b.N (b.c.t.d.fact k hk)
  · rw [h3] at hq
    cases hq
  · rw [h4]
    exact .nil
  · rw [h4]
    exact Nat.zero_le _
abbrev Cn (w : World) (K : PySem.W.Frag) (mg : Str → Option Value) (r : List En) : Prop := Chain K mg (G w K) 40 Dt.gls Dt.blt r
theorem en0 (b : Bk w h K mg) : EnOk K mg (G w K) Dt.en0 HdT.d0 := enA b 0 0 rfl rfl rfl ⟨rfl, rfl, rfl, rfl, rfl⟩ fun _ _ _ _ _ _ us hl => match us, hl with | [_], _ => rfl
theorem en1 (b : Bk w h K mg) : EnOk K mg (G w K) Dt.en1 HdT.d1 := enA b 1 1 rfl rfl rfl ⟨rfl, rfl, rfl, rfl, rfl⟩ fun _ _ _ _ _ _ us hl => match us, hl with | [_], _ => rfl
theorem en2 (b : Bk w h K mg) : EnOk K mg (G w K) Dt.en2 HdT.d2 := enA b 2 2 rfl rfl rfl ⟨rfl, rfl, rfl, rfl, rfl⟩ fun _ _ _ _ _ _ us hl => match us, hl with | [_, _, _], _ => rfl
theorem en3 (b : Bk w h K mg) : EnOk K mg (G w K) Dt.en3 HdT.d3 := enA b 3 3 rfl rfl rfl ⟨rfl, rfl, rfl, rfl, rfl⟩ fun _ _ _ _ _ _ us hl => match us, hl with | [_, _], _ => rfl
theorem en4 (b : Bk w h K mg) : EnOk K mg (G w K) Dt.en4 HdT.d4 := enA b 4 4 rfl rfl rfl ⟨rfl, rfl, rfl, rfl, rfl⟩ fun _ _ _ _ _ _ us hl => match us, hl with | [_, _], _ => rfl
theorem en5 (b : Bk w h K mg) : EnOk K mg (G w K) Dt.en5 HdT.d5 := enA b 5 5 rfl rfl rfl ⟨rfl, rfl, rfl, rfl, rfl⟩ fun _ _ _ _ _ _ us hl => match us, hl with | [_, _, _], _ => rfl
theorem en6 (b : Bk w h K mg) : EnOk K mg (G w K) Dt.en6 HdT.d6 := enA b 6 6 rfl rfl rfl ⟨rfl, rfl, rfl, rfl, rfl⟩ fun _ _ _ _ _ _ us hl => match us, hl with | [_, _, _], _ => rfl
theorem en7 (b : Bk w h K mg) : EnOk K mg (G w K) Dt.en7 HdT.d7 := enA b 7 7 rfl rfl rfl ⟨rfl, rfl, rfl, rfl, rfl⟩ fun _ _ _ _ _ _ us hl => match us, hl with | [_, _], _ => rfl
theorem en8 (b : Bk w h K mg) : EnOk K mg (G w K) Dt.en8 HdT.d8 := by
  obtain ⟨X, N, c⟩ := b
  obtain ⟨fd, F⟩ := c.t.d.def_ 8 (d := HdT.d8) rfl
  refine ⟨_, fd, F, He.glo_ok X N (c.t.d.fact 8 (f := .glo "turned") rfl), fun q hq => ?_, [], FunD.bindsN F fun _ _ _ _ _ _ us hl => match us, hl with | [_, _, _], _ => rfl, .nil, by decide⟩
  have hq : q ∈ ([(0, ["words", "form", "scheme"], [2, 1, 0])] : List (Nat × List Str × List Nat)) := hq
  simp only [List.mem_cons, List.not_mem_nil, or_false] at hq
  rcases hq with rfl
  · exact kw_of F (fun _ _ _ _ _ _ us ws l1 l2 => match us, ws, l1, l2 with | [], [_, _, _], _, _ => rfl) rfl (by decide)
theorem en9 (b : Bk w h K mg) : EnOk K mg (G w K) Dt.en9 HdT.d9 := enA b 9 9 rfl rfl rfl ⟨rfl, rfl, rfl, rfl, rfl⟩ fun _ _ _ _ _ _ us hl => match us, hl with | [_, _], _ => rfl
theorem en10 (b : Bk w h K mg) : EnOk K mg (G w K) Dt.en10 HdT.d10 := enA b 10 10 rfl rfl rfl ⟨rfl, rfl, rfl, rfl, rfl⟩ fun _ _ _ _ _ _ us hl => match us, hl with | [_, _], _ => rfl
theorem en11 (b : Bk w h K mg) : EnOk K mg (G w K) Dt.en11 HdT.d11 := enA b 11 11 rfl rfl rfl ⟨rfl, rfl, rfl, rfl, rfl⟩ fun _ _ _ _ _ _ us hl => match us, hl with | [_, _, _], _ => rfl
theorem en12 (b : Bk w h K mg) : EnOk K mg (G w K) Dt.en12 HdT.d12 := enA b 12 12 rfl rfl rfl ⟨rfl, rfl, rfl, rfl, rfl⟩ fun _ _ _ _ _ _ us hl => match us, hl with | [_, _], _ => rfl
theorem en13 (b : Bk w h K mg) : EnOk K mg (G w K) Dt.en13 HdT.d13 := enA b 13 13 rfl rfl rfl ⟨rfl, rfl, rfl, rfl, rfl⟩ fun _ _ _ _ _ _ us hl => match us, hl with | [_], _ => rfl
theorem en14 (b : Bk w h K mg) : EnOk K mg (G w K) Dt.en14 HdT.d14 := enA b 14 14 rfl rfl rfl ⟨rfl, rfl, rfl, rfl, rfl⟩ fun _ _ _ _ _ _ us hl => match us, hl with | [_, _], _ => rfl
theorem en15 (b : Bk w h K mg) : EnOk K mg (G w K) Dt.en15 HdT.d15 := enA b 15 15 rfl rfl rfl ⟨rfl, rfl, rfl, rfl, rfl⟩ fun _ _ _ _ _ _ us hl => match us, hl with | [_], _ => rfl
theorem en16 (b : Bk w h K mg) : EnOk K mg (G w K) Dt.en16 HdT.d16 := enA b 16 16 rfl rfl rfl ⟨rfl, rfl, rfl, rfl, rfl⟩ fun _ _ _ _ _ _ us hl => match us, hl with | [_], _ => rfl
theorem en17 (b : Bk w h K mg) : EnOk K mg (G w K) Dt.en17 HdT.d17 := by
  obtain ⟨X, N, c⟩ := b
  obtain ⟨fd, F⟩ := c.t.d.def_ 17 (d := HdT.d17) rfl
  exact ⟨_, fd, F, FunD.bindsN F fun _ _ _ _ _ _ us hl => match us, hl with | [_, _], _ => rfl, He.glo_ok X N (c.t.d.fact 46 (f := .glo "Scheme") rfl), He.mkr_ok (c.t.d.fact 48 (f := .mkr "Scheme") rfl)⟩
theorem en18 (b : Bk w h K mg) : EnOk K mg (G w K) Dt.en18 HdT.d18 := enA b 18 17 rfl rfl rfl ⟨rfl, rfl, rfl, rfl, rfl⟩ fun _ _ _ _ _ _ us hl => match us, hl with | [_, _, _], _ => rfl
theorem en19 (b : Bk w h K mg) : EnOk K mg (G w K) Dt.en19 HdT.d19 := enA b 19 18 rfl rfl rfl ⟨rfl, rfl, rfl, rfl, rfl⟩ fun _ _ _ _ _ _ us hl => match us, hl with | [_, _], _ => rfl
theorem en20 (b : Bk w h K mg) : EnOk K mg (G w K) Dt.en20 HdT.d20 := enA b 20 19 rfl rfl rfl ⟨rfl, rfl, rfl, rfl, rfl⟩ fun _ _ _ _ _ _ us hl => match us, hl with | [_, _], _ => rfl
theorem en21 (b : Bk w h K mg) : EnOk K mg (G w K) Dt.en21 HdT.d21 := enA b 21 20 rfl rfl rfl ⟨rfl, rfl, rfl, rfl, rfl⟩ fun _ _ _ _ _ _ us hl => match us, hl with | [_, _], _ => rfl
theorem en22 (b : Bk w h K mg) : EnOk K mg (G w K) Dt.en22 HdT.d22 := enA b 22 21 rfl rfl rfl ⟨rfl, rfl, rfl, rfl, rfl⟩ fun _ _ _ _ _ _ us hl => match us, hl with | [_], _ => rfl
theorem en23 (b : Bk w h K mg) : EnOk K mg (G w K) Dt.en23 HdT.d23 := enA b 23 22 rfl rfl rfl ⟨rfl, rfl, rfl, rfl, rfl⟩ fun _ _ _ _ _ _ us hl => match us, hl with | [_, _], _ => rfl
theorem en24 (b : Bk w h K mg) : EnOk K mg (G w K) Dt.en24 HdT.d24 := enA b 24 23 rfl rfl rfl ⟨rfl, rfl, rfl, rfl, rfl⟩ fun _ _ _ _ _ _ us hl => match us, hl with | [_], _ => rfl
theorem ch0 : Cn w K mg Dt.es0 := .nil
theorem ch1 (b : Bk w h K mg) : Cn w K mg Dt.es1 := .cons ch0 (en0 b) Ck.ck0
theorem ch2 (b : Bk w h K mg) : Cn w K mg Dt.es2 := .cons (ch1 b) (en1 b) Ck.ck1
theorem ch3 (b : Bk w h K mg) : Cn w K mg Dt.es3 := .cons (ch2 b) (en2 b) Ck.ck2
theorem ch4 (b : Bk w h K mg) : Cn w K mg Dt.es4 := .cons (ch3 b) (en3 b) Ck.ck3
theorem ch5 (b : Bk w h K mg) : Cn w K mg Dt.es5 := .cons (ch4 b) (en4 b) Ck.ck4
theorem ch6 (b : Bk w h K mg) : Cn w K mg Dt.es6 := .cons (ch5 b) (en5 b) Ck.ck5
theorem ch7 (b : Bk w h K mg) : Cn w K mg Dt.es7 := .cons (ch6 b) (en6 b) Ck.ck6
theorem ch8 (b : Bk w h K mg) : Cn w K mg Dt.es8 := .cons (ch7 b) (en7 b) Ck.ck7
theorem ch9 (b : Bk w h K mg) : Cn w K mg Dt.es9 := .cons (ch8 b) (en8 b) Ck.ck8
theorem ch10 (b : Bk w h K mg) : Cn w K mg Dt.es10 := .cons (ch9 b) (en9 b) Ck.ck9
theorem ch11 (b : Bk w h K mg) : Cn w K mg Dt.es11 := .cons (ch10 b) (en10 b) Ck.ck10
theorem ch12 (b : Bk w h K mg) : Cn w K mg Dt.es12 := .cons (ch11 b) (en11 b) Ck.ck11
theorem ch13 (b : Bk w h K mg) : Cn w K mg Dt.es13 := .cons (ch12 b) (en12 b) Ck.ck12
theorem ch14 (b : Bk w h K mg) : Cn w K mg Dt.es14 := .cons (ch13 b) (en13 b) Ck.ck13
theorem ch15 (b : Bk w h K mg) : Cn w K mg Dt.es15 := .cons (ch14 b) (en14 b) Ck.ck14
theorem ch16 (b : Bk w h K mg) : Cn w K mg Dt.es16 := .cons (ch15 b) (en15 b) Ck.ck15
theorem ch17 (b : Bk w h K mg) : Cn w K mg Dt.es17 := .cons (ch16 b) (en16 b) Ck.ck16
theorem ch18 (b : Bk w h K mg) : Cn w K mg Dt.es18 := .cons (ch17 b) (en17 b) Ck.ck17
theorem ch19 (b : Bk w h K mg) : Cn w K mg Dt.es19 := .cons (ch18 b) (en18 b) Ck.ck18
theorem ch20 (b : Bk w h K mg) : Cn w K mg Dt.es20 := .cons (ch19 b) (en19 b) Ck.ck19
theorem ch21 (b : Bk w h K mg) : Cn w K mg Dt.es21 := .cons (ch20 b) (en20 b) Ck.ck20
theorem ch22 (b : Bk w h K mg) : Cn w K mg Dt.es22 := .cons (ch21 b) (en21 b) Ck.ck21
theorem ch23 (b : Bk w h K mg) : Cn w K mg Dt.es23 := .cons (ch22 b) (en22 b) Ck.ck22
theorem ch24 (b : Bk w h K mg) : Cn w K mg Dt.es24 := .cons (ch23 b) (en23 b) Ck.ck23
theorem bs (X : K.In h) (N : h.Ns mainGlobals mg) (c : HeY.SaysY HdT.fa HdT.fn HdT.ts HdT.ex HdT.gs HdT.is_ w h K) : BsOk K w mg (G w K) Dt.at_ Dt.gl Dt.gls Dt.blt := by
  refine ⟨rfl, rfl, fun x hx => ?_, fun p hp => ?_, fun C hC => ?_, fun A C hA hC => ?_, fun C f hf => ?_⟩
  · unfold Dt.blt at hx
    simp only [List.mem_cons, List.not_mem_nil, or_false] at hx
    rcases hx with rfl | rfl | rfl | rfl | rfl | rfl | rfl | rfl | rfl | rfl | rfl | rfl | rfl | rfl | rfl | rfl | rfl | rfl
    · exact He.free_ok X N (c.t.d.fact 24 (f := .free "abs") rfl)
    · exact He.free_ok X N (c.t.d.fact 25 (f := .free "all") rfl)
    · exact He.free_ok X N (c.t.d.fact 26 (f := .free "bool") rfl)
    · exact He.free_ok X N (c.t.d.fact 27 (f := .free "dict") rfl)
    · exact He.free_ok X N (c.t.d.fact 28 (f := .free "divmod") rfl)
    · exact He.free_ok X N (c.t.d.fact 29 (f := .free "enumerate") rfl)
    · exact He.free_ok X N (c.t.d.fact 30 (f := .free "int") rfl)
    · exact He.free_ok X N (c.t.d.fact 31 (f := .free "isinstance") rfl)
    · exact He.free_ok X N (c.t.d.fact 32 (f := .free "len") rfl)
    · exact He.free_ok X N (c.t.d.fact 33 (f := .free "list") rfl)
    · exact He.free_ok X N (c.t.d.fact 34 (f := .free "max") rfl)
    · exact He.free_ok X N (c.t.d.fact 35 (f := .free "min") rfl)
    · exact He.free_ok X N (c.t.d.fact 36 (f := .free "range") rfl)
    · exact He.free_ok X N (c.t.d.fact 37 (f := .free "sorted") rfl)
    · exact He.free_ok X N (c.t.d.fact 38 (f := .free "str") rfl)
    · exact He.free_ok X N (c.t.d.fact 39 (f := .free "sum") rfl)
    · exact He.free_ok X N (c.t.d.fact 40 (f := .free "tuple") rfl)
    · exact He.free_ok X N (c.t.d.fact 41 (f := .free "zip") rfl)
  · unfold Dt.gls at hp
    simp only [List.mem_cons, List.not_mem_nil, or_false] at hp
    rcases hp with rfl | rfl | rfl | rfl | rfl
    · obtain ⟨t, e⟩ := He.int_ok X N (c.t.d.fact 42 (f := .int "MOST_FACTOR" 1000) rfl)
      exact ⟨_, .int 1000, e, ⟨t, rfl⟩, fun _ _ _ => rfl⟩
    · obtain ⟨t, e⟩ := He.str_ok X N (c.t.d.fact 43 (f := .str "LETTERS" "abcdefghijklmnopqrstuvwxyz") rfl)
      exact ⟨_, .str "abcdefghijklmnopqrstuvwxyz", e, ⟨t, rfl⟩, fun _ _ _ => rfl⟩
    · obtain ⟨t, e⟩ := He.int_ok X N (c.t.d.fact 44 (f := .int "MOST_NAMES" 6) rfl)
      exact ⟨_, .int 6, e, ⟨t, rfl⟩, fun _ _ _ => rfl⟩
    · obtain ⟨t, e⟩ := He.int_ok X N (c.t.d.fact 45 (f := .int "MOST_TURNS" 4) rfl)
      exact ⟨_, .int 4, e, ⟨t, rfl⟩, fun _ _ _ => rfl⟩
    · exact ⟨_, .ref (He.ga K "Scheme"), He.glo_ok X N (c.t.d.fact 46 (f := .glo "Scheme") rfl), rfl, fun _ _ _ => rfl⟩
  · rcases C with _ | _ | C
    · exact absurd hC (by decide +kernel)
    · obtain ⟨a1, a2, a3, a4, a5⟩ := c.is_ (x := "Scheme") (by decide +kernel)
      exact ⟨⟨He.cls_ok (c.t.d.fact 47 (f := .cls "Scheme") rfl), a1, a2, a3, a4⟩, a5, rfl⟩
    · cases hC
  · rcases A with _ | _ | A
    · exact absurd hA (by decide +kernel)
    · rcases C with _ | _ | C
      · exact absurd hC (by decide +kernel)
      · exact (c.ii (x := "Scheme") (y := "Scheme") (by decide +kernel) (by decide +kernel)).trans (congrArg some (by decide +kernel))
      · cases hC
    · cases hA
  · rcases C with _ | _ | C
    · cases hf
    · have hf : (["written", "labels", "moves", "is "] : List Str).contains f = true := hf
      simp only [List.contains_cons, List.contains_nil, Bool.or_false, Bool.or_eq_true, beq_iff_eq] at hf
      have hc : Cls K (He.ga K "Scheme") := He.cls_ok (c.t.d.fact 47 (f := .cls "Scheme") rfl)
      rcases hf with rfl | rfl | rfl | rfl
      · exact ⟨hc, He.noat_ok (c.t.d.fact 49 (f := .noat "Scheme" "written") rfl)⟩
      · exact ⟨hc, He.noat_ok (c.t.d.fact 50 (f := .noat "Scheme" "labels") rfl)⟩
      · exact ⟨hc, He.noat_ok (c.t.d.fact 51 (f := .noat "Scheme" "moves") rfl)⟩
      · exact ⟨hc, He.noat_ok (c.t.d.fact 52 (f := .noat "Scheme" "is ") rfl)⟩
    · cases hf
abbrev Γ : Tb := tbl Dt.at_ Dt.gl Dt.es24
end
end Fx
open PySem PySem.W PySem.Calls PyProof.Rows in
theorem holds_of (plain : ∀ ns : List Int, ns.length ≤ 63 → ∃ μ, T.runD Fx.Γ Dt.f_law [.fro (ns.map .int)] [] = .ok (.bl true) μ) : PySem.Challenge.rw_turnedlevels_k04_whole_turned_forms.Holds := by
  w_on; o_law
  refine HandSHeadRun.head_any (r := OpenLaw.row PySem.Challenge.rw_turnedlevels_k04_whole_turned_forms) (q := view (OpenLaw.row PySem.Challenge.rw_turnedlevels_k04_whole_turned_forms).prog [37]) (H := HdT.hk) (ob := HdT.ob) (M := 20000) (loose := HdT.nms) (d := HandSHeadRun.topDef (OpenLaw.row PySem.Challenge.rw_turnedlevels_k04_whole_turned_forms).prog 37) (kwd := []) HdT.ob_eq
    (by kernel_rfl) (fun s => by kernel_rfl) HdT.run (by kernel_rfl) (by kernel_rfl) (by kernel_rfl) (by rfl) (by first | assumption | decide +kernel) (by decide +kernel) ⟨rfl, rfl, rfl, rfl, rfl, by decide +kernel⟩ ?hw ?hc
  case hw => w_witness2
  case hc =>
    refine T.g_end (l := PySem.Challenge.rw_turnedlevels_k04_whole_turned_forms) (n := 63) (lv := 26) (x := "_law_script") (CX := L2.CX0) rfl (by decide) (by kernel_rfl) ⟨rfl, by decide, by decide⟩ ?F (fun _ _ _ _ z => z)
    intro w mg fa h Y N hmg0
    obtain ⟨K, KX, c⟩ := Y
    have hmg : mg ("law" : PySem.Str) = some (.ref fa) := by
      have e : (HandSHeadRun.topDef (OpenLaw.row PySem.Challenge.rw_turnedlevels_k04_whole_turned_forms).prog 37).name = ("law" : PySem.Str) := by kernel_rfl
      rw [← e]
      exact hmg0
    have e := hmg.symm.trans (He.glo_ok KX N (c.t.d.fact 23 (f := .glo "law") rfl))
    cases e
    obtain ⟨fd, F⟩ := c.t.d.def_ 24 (d := HdT.d24) rfl
    have b := L2.FunD.bindsA (ps := ["_law_script"]) F fun _ _ _ _ _ _ us hl => match us, hl with | [_], _ => rfl
    refine ⟨K, fd, T.spOf (Fx.G w K) 1 (T.runD Fx.Γ Dt.f_law), KX, fun s v => b s [v] rfl, fun H a ns hl _ hS => T.law_sp (Nat.le_trans hl (by decide)) hS (plain ns hl), fun base _ _ => ?_⟩
    have hv : T.lvN Dt.es24 + 1 = 26 := by kernel_rfl
    rw [← hv]
    exact T.law_ok2 (base := base) (Fx.bs KX N c) (Fx.ch24 ⟨KX, N, c⟩) Ck.ck24 F
theorem PySem.Challenge.cw_turnedlevels_k04_whole_turned_forms_holds : PySem.Challenge.rw_turnedlevels_k04_whole_turned_forms.Holds := by
  exact holds_of fun ns _ => S.plain04 ns
