import PyProof.Rows.All
import Wide.All
import OpenK.AllK
import Wide.FinOn
import HandS.ForMost
import HandS.Star
import HandS.Defaults
import HandS.MakeKwOnly
import HandS.Property
import HandS.IsInst
import HandS.Wide
import HandS.Zip
import HandS.OwnEq
import HandS.TupAny
import HandS.Lambda
import KE.KeyNested
import KE.KDictKeyed
import HandS.TryOnly
import HandS.Style
import HandS.Head0
import HandS.Head1
import HandS.Head2
import HandS.HeadEnd
import HandS.HeadHook1
import HandS.HeadHook2
import KE.GoesEnum
import KE.KRevSl
import HandS.ExcIs
import HandS.ExcOwn
import HandS.Deep
import HandS.EndTab
import HandS.HeadHook4
import KE.KDictZip
import KE.KDictItemsList
import HandS.ExcInit
import HandS.ExcField
import KE.KExcSuper
import HandS.Conv
import HandS.Spec
import KE.SortKeyHeap
import PySem.Challenge.RW_copyarms_k20_spots_in_reach
/-! ## HX -/
set_option Elab.async false
set_option linter.all false
set_option maxRecDepth 100000
set_option maxHeartbeats 4000000
/-! What the head looks at. -/
namespace L3
open PySem PySem.Spec PyProof.Rows L2
def gtA (K : PySem.W.Frag) (C : Addr) (m : Str) : Addr := match PySem.W.recIn K (He.ma K C m) "property" with
  | some (.ref g :: _) => g
  | _ => 0
def propB (K : PySem.W.Frag) (C : Addr) (m : Str) : Bool :=
  decide (PySem.W.findIn K (.ref C) m = some (some (.ref (He.ma K C m))) ∧ PySem.W.specialIn K (.ref (He.ma K C m)) "__get__" = some (some (.builtin "property.__get__")) ∧ PySem.W.takesIn K (.ref (He.ma K C m)) = some true) &&
  (match PySem.W.recIn K (He.ma K C m) "property" with
    | some (.ref _ :: _) => true
    | _ => false)
structure FnX where
  at_ : PySem.W.Frag → Addr
  name : Str
  qual : Str
  params : Arguments
  body : List Stmt
  scope : Scope
abbrev FxV : Type := Option ((Str × Str × Scope) × (Arguments × FuncBody) × (Addr × Addr) × List (Str × Addr) × Value)
def fxOf (fd : FuncData) : FxV := some ((fd.name, fd.qualname, fd.scope), (fd.params, fd.body), (fd.globals, fd.builtins), fd.closure, fd.defaults)
def FnX.obs (K : PySem.W.Frag) (d : FnX) : FxV := (K.lookup (d.at_ K)).bind fun o => match o with
  | ⟨_, _, .func fd, _⟩ => fxOf fd
  | _ => none
def FnX.val (d : FnX) : FxV := some ((d.name, d.qual, d.scope), (d.params, .stmts d.body), (mainGlobals, builtinsNs), [], .none)
def FnX.ok (K : PySem.W.Frag) (d : FnX) : Bool := PySem.W.keepIn K (.ref (d.at_ K)) && ((K.lookup (d.at_ K)).any fun o => match o with
  | ⟨_, _, .func fd, _⟩ => PySem.W.codeIn K fd.code d.qual
  | _ => false)
abbrev AlX : Type := (Bool × Bool) × He.AlD × List FxV
def obsX (xb : List (PySem.W.Frag → Bool)) (fa : List He.Fa) (fn : List He.DefD) (fx : List FnX) (K : PySem.W.Frag) : AlX := ((xb.all fun b => b K, fx.all fun d => d.ok K), He.obsD fa fn K, fx.map fun d => d.obs K)
def valX (fn : List He.DefD) (fx : List FnX) : AlX := ((true, true), He.valD fn, fx.map FnX.val)
abbrev lawDf : He.Defn := ("law", none)
def lawC (K : PySem.W.Frag) : Addr := (He.cT K lawDf).1
def lawP (K : PySem.W.Frag) : Addr := (He.cT K lawDf).2
def errNs : List Str := ["InvalidSpot", "InvalidTurn", "InvalidTimes", "TooFew", "InvalidStroke", "OpenStroke", "InvalidReach", "OutOfReach", "TooMany", "InvalidSize", "InvalidBox", "Contradiction", "BadText", "BadRow", "UnknownName", "InvalidName", "InvalidCode", "UnknownArm", "NotFree", "InvalidOperation"]
def errN (j : Nat) : Str := errNs.getD j ""
def errB (K : PySem.W.Frag) (C CE : Addr) (gx : Str → Addr) (m : Nat) : Bool :=
  decide (PySem.W.findIn K (.ref C) "__getattribute__" = some (some (.builtin "BaseException.__getattribute__"))) && (decide (PySem.W.findIn K (.ref C) "__getattr__" = some none) && (decide (PySem.W.subIn K (.ref C) (.type "BaseException") = some true) && (PySem.W.hasDictIn K C &&
  (decide (PySem.W.findIn K (.ref C) "__class__" = some (some (.builtin "object.__class__"))) && (decide (PySem.W.specialIn K (.builtin "object.__class__") "__get__" = some (some (.builtin "getset_descriptor.__get__"))) && (decide (PySem.W.takesIn K (.builtin "object.__class__") = some true) &&
  (decide (PySem.W.mroIn K C (.type "object") = some true) && (decide (PySem.W.exmOne K (.ref C) (.ref CE) = some true) && (decide (PySem.W.kitOne K (.ref C) (.type "ValueError") = some true) &&
  (List.range 20).all fun j => decide (PySem.W.kitOne K (.ref C) (.ref (gx (errN j))) = some (decide (j = m))))))))))))
structure FnY where
  cls : Str
  qual : Str
  params : Arguments
  body : List Stmt
  scope : Scope
  file : Str
  names : List Str
def FnY.C (K : PySem.W.Frag) (d : FnY) : Addr := He.ga K d.cls
def FnY.f (K : PySem.W.Frag) (d : FnY) : Addr := He.ma K (d.C K) "__init__"
abbrev FyV : Type := Option ((Str × Str × Scope) × (Arguments × FuncBody) × (Addr × Addr) × List Str)
def fyOf (fd : FuncData) : FyV := some ((fd.name, fd.qualname, fd.scope), (fd.params, fd.body), (fd.globals, fd.builtins), fd.closure.map (·.1))
def FnY.obs (K : PySem.W.Frag) (d : FnY) : FyV := (K.lookup (d.f K)).bind fun o => match o with
  | ⟨_, _, .func fd, _⟩ => fyOf fd
  | _ => none
def FnY.val (d : FnY) : FyV := some (("__init__", d.qual, d.scope), (d.params, .stmts d.body), (mainGlobals, builtinsNs), ["__class__"])
def cellOf (K : PySem.W.Frag) (f : Addr) : Addr := match K.lookup f with
  | some ⟨_, _, .func fd, _⟩ => (match fd.closure with
    | (_, c) :: _ => c
    | _ => 0)
  | _ => 0
def codeFile (K : PySem.W.Frag) (v : Value) (file : Str) : Bool := match v with
  | .ref cda => (match K.lookup cda with
    | some ⟨_, _, .fields vs, _⟩ => (match (vs[2]? : Option Value) with
      | some (.str x _) => file == x
      | _ => false)
    | _ => false)
  | _ => false
def oexB (K : PySem.W.Frag) (C : Addr) : Bool := (match K.lookup C with
  | some ⟨.type "type", _, .cls cd, sl⟩ => (match cd.mro, sl.toList with
    | .ref C' :: bm, [_, _, _, _, some (.builtin n), _] => C' == C && (n == "ValueError.__new__" && (!cd.hasDel && (cd.hasDict && PySem.HandSPX.refsVE bm)))
    | _, _ => false)
  | _ => false) && (decide (PySem.W.findIn K (.ref C) "__setattr__" = some (some (.builtin "object.__setattr__"))) && (decide (PySem.W.subIn K (.ref C) (.type "BaseException") = some true) && (decide (PySem.W.typeIn K (.ref C) = some (.type "type")) && PySem.W.keepIn K (.ref C))))
def FnY.ok (K : PySem.W.Frag) (d : FnY) : Bool :=
  (match K.lookup (d.f K) with
    | some ⟨_, _, .func fd, _⟩ => PySem.W.codeIn K fd.code d.qual && (codeFile K fd.code d.file && decide (fd.defaults = .none))
    | _ => false) && ((match K.lookup (cellOf K (d.f K)) with
    | some ⟨_, _, .cell (some v), _⟩ => decide (v = .ref (d.C K))
    | _ => false) && ((PySem.W.clsIn K (d.C K)).isSome && (decide (PySem.W.mroIn K (d.C K) (.ref (d.C K)) = some true) && (decide (PySem.W.ks_superIn K (d.C K) (d.C K) "__init__" = some (some (.builtin "ValueError.__init__"))) &&
  (decide (PySem.W.subIn K (.ref (d.C K)) (.type "ValueError") = some true) && (decide (PySem.W.nsIn K cStatics "thirdparty.any" = some none) && (oexB K (d.C K) && (decide (PySem.W.findIn K (.ref (d.C K)) "__init__" = some (some (.ref (d.f K)))) && (decide (PySem.W.typeIn K (.ref (d.f K)) = some (.type "function")) &&
  d.names.all fun n => decide (PySem.W.findIn K (.ref (d.C K)) n = some none))))))))))
def newM : List Addr → Nat → List Addr → List Addr × Nat
  | [], m, acc => (acc, m)
  | a :: r, m, acc => match Nat.beq (Nat.mod (Nat.shiftRight m a) 2) 1 with
    | true => newM r m acc
    | false => newM r (Nat.lor m (Nat.shiftLeft 1 a)) (a :: acc)
def layM (g : Addr → Option Obj) : Nat → List Addr → Nat → List Addr → List Addr
  | 0, _, _, all => all
  | n + 1, front, m, all => match newM (front.flatMap fun a => match g a with
      | some o => He.refsD o
      | none => []) m [] with
    | (nw, m2) => layM g n nw m2 (all ++ nw)
def asM (g : Addr → Option Obj) (n : Nat) : List Addr := layM g n [mainGlobals] (Nat.shiftLeft 1 mainGlobals) [mainGlobals]
abbrev AlU : Type := (AlX × Bool) × Bool × List FyV
def frU (n : Nat) (g : Addr → Option Obj) : PySem.W.Frag := He.frT g (cStatics :: asM g n)
def obsXU (xb : List (PySem.W.Frag → Bool)) (fa : List He.Fa) (fn : List He.DefD) (fx : List FnX) (fy : List FnY) (n : Nat) (g : Addr → Option Obj) : AlU := ((obsX xb fa fn fx (frU n g), He.tabsB g [lawDf] (frU n g)), fy.all (fun d => d.ok (frU n g)), fy.map fun d => d.obs (frU n g))
def valXU (fn : List He.DefD) (fx : List FnX) (fy : List FnY) : AlU := ((valX fn fx, true), true, fy.map FnY.val)
def SaysU (xb : List (PySem.W.Frag → Bool)) (fa : List He.Fa) (fn : List He.DefD) (fx : List FnX) (fy : List FnY) (K : PySem.W.Frag) : Prop := obsX xb fa fn fx K = valX fn fx ∧ (∀ d ∈ fy, d.ok K = true ∧ d.obs K = d.val)
def hookXU (n : Nat) (xb : List (PySem.W.Frag → Bool)) (fa : List He.Fa) (fn : List He.DefD) (fx : List FnX) (fy : List FnY) : PySem.W.Hook where
  α := AlU
  obs := fun s => obsXU xb fa fn fx fy n s.heap.get?
  val := fun _ => valXU fn fx fy
  says := fun _ h => ∃ K : PySem.W.Frag, K.In h ∧ SaysU xb fa fn fx fy K ∧ PySem.W.codeHdIn K (lawC K) (lawP K) = true ∧ K.lookup (lawP K) = none ∧ h.get? (lawP K) = some { cls := .none, data := .fields #[] }
  of := fun w s e => by
    have e1 : obsX xb fa fn fx (frU n s.heap.get?) = valX fn fx := congrArg (fun z : AlU => z.1.1) e
    have e2 : He.tabsB s.heap.get? [lawDf] (frU n s.heap.get?) = true := congrArg (fun z : AlU => z.1.2) e
    have e3 : fy.all (fun d => d.ok (frU n s.heap.get?)) = true := congrArg (fun z : AlU => z.2.1) e
    have e4 : (fy.map fun d => d.obs (frU n s.heap.get?)) = fy.map FnY.val := congrArg (fun z : AlU => z.2.2) e
    refine ⟨_, He.frT_in, ⟨e1, fun d hd => ⟨List.all_eq_true.mp e3 d hd, ?_⟩⟩, ?_⟩
    · obtain ⟨i, hi⟩ := List.mem_iff_getElem?.mp hd
      have e5 : (fy.map fun d => d.obs (frU n s.heap.get?))[i]? = (fy.map FnY.val)[i]? := by rw [e4]
      rw [List.getElem?_map, List.getElem?_map, hi] at e5
      exact Option.some.inj e5
    · obtain ⟨h3, h4⟩ := Bool.and_eq_true_iff.mp (List.all_eq_true.mp e2 lawDf (by simp))
      refine ⟨h3, ?_⟩
      cases q : s.heap.get? (He.cT (frU n s.heap.get?) lawDf).2 with
      | none => rw [q] at h4; cases h4
      | some o =>
        rw [q] at h4
        exact ⟨He.frT_none q h4, by unfold lawP; rw [show (He.frT s.heap.get? (cStatics :: asM s.heap.get? n)) = frU n s.heap.get? from rfl, q, He.emptyTab_eq h4]⟩
  keeps := fun _ _ _ ⟨K, hK, c, h1, h2, h3⟩ k => ⟨K, hK.keeps k, c, h1, h2, k _ _ h3⟩
theorem obsXU_eq {n : Nat} {xb : List (PySem.W.Frag → Bool)} {fa : List He.Fa} {fn : List He.DefD} {fx : List FnX} {fy : List FnY} (s : PySem.W.SharedT) : obsXU xb fa fn fx fy n (HandSHeadRun.getT s) = (hookXU n xb fa fn fx fy).obs s.abs := by
  have e : HandSHeadRun.getT s = s.abs.heap.get? := funext (HandSHeadRun.getT_eq s)
  rw [e]
  rfl
def attrNs : Nat → List Str
  | 4 => ["index"]
  | 7 => ["arm", "stroke", "part"]
  | 12 => ["row", "word"]
  | 13 => ["row", "reason"]
  | 16 => ["place"]
  | 19 => ["place"]
  | _ => []
def attrAll : List Str := ["index", "arm", "stroke", "part", "row", "word", "reason", "place"]
def errAB (K : PySem.W.Frag) (C CE : Addr) (gx : Str → Addr) (m : Nat) : Bool := errB K C CE gx m && (xfB K C && attrAll.all fun f => decide (PySem.W.findIn K (.ref C) f = some none))
open PySem PySem.W PySem.Spec PyProof.Rows L2
theorem map3 {S A B C : Type} {a : S → A} {b : S → B} {c : S → C} {x : A} {y : B} {z : C} : ∀ {o : Option S}, o.map a = some x → o.map b = some y → o.map c = some z → o.map (fun s => (a s, b s, c s)) = some (x, y, z)
  | none, h, _, _ => nomatch h
  | some s, h1, h2, h3 => by
    cases h1
    cases h2
    cases h3
    rfl
def Look1 (r : OpenRow) (M : Nat) (w : World) : Prop := ∀ os : OsState, (HandSHeadRun.endF (HandSHeadRun.stepQ (HandSHeadRun.denQ HandSHeadRun.tabQ) r.prog w) M r.prog w os).map (fun s => HandSHeadRun.looksF r.prog (boot_heap w.params) s.abs) = some true
def Look2 (r : OpenRow) (q : Program) (M : Nat) (loose : List PySem.Str) (w : World) : Prop := ∀ os : OsState, (HandSHeadRun.endF (HandSHeadRun.stepQ (HandSHeadRun.denQ HandSHeadRun.tabQ) r.prog w) M r.prog w os).map (fun s => HandSHeadRun.seenQ q loose (importedModules r.prog.main.body) (fun s => xlAt q [] s && recOk r.toRowW.records s) s.abs) = some (openGood q loose)
def Look3 (r : OpenRow) (H : Hook) (ob : SharedT → H.α) (M : Nat) (w : World) : Prop := ∀ os : OsState, (HandSHeadRun.endF (HandSHeadRun.stepQ (HandSHeadRun.denQ HandSHeadRun.tabQ) r.prog w) M r.prog w os).map (fun s => ob s) = some (H.val w)
theorem runEq_of {r : OpenRow} {q : Program} {H : Hook} {ob : SharedT → H.α} {M : Nat} {loose : List PySem.Str} {w : World} (h1 : Look1 r M w) (h2 : Look2 r q M loose w) (h3 : Look3 r H ob M w) : HandSHeadRun.RunEq r q H ob M loose w := fun os => map3 (h1 os) (h2 os) (h3 os)
end L3

/-! ## HX3 -/
set_option Elab.async false
set_option linter.all false
set_option maxRecDepth 100000
set_option maxHeartbeats 4000000
/-! The head's greatest look, cut into three: each needs less memory. -/
namespace L3
open PySem PySem.W PySem.Spec PyProof.Rows L2
def LookE (r : OpenRow) {A : Type} (M : Nat) (f : SharedT → A) (v : A) (w : World) : Prop := ∀ os : OsState, (HandSHeadRun.endF (HandSHeadRun.stepQ (HandSHeadRun.denQ HandSHeadRun.tabQ) r.prog w) M r.prog w os).map f = some v
theorem map3of {S A B C D : Type} {a : S → A} {b : S → B} {c : S → C} {d : S → D} {x : A} {y : B} {z : C} {v : D} (e : ∀ s, a s = x → b s = y → c s = z → d s = v) : ∀ {o : Option S}, o.map a = some x → o.map b = some y → o.map c = some z → o.map d = some v
  | none, h, _, _ => nomatch h
  | some s, h1, h2, h3 => congrArg some (e s (Option.some.inj h1) (Option.some.inj h2) (Option.some.inj h3))
theorem obsX_cut {xb : List (PySem.W.Frag → Bool)} {fa : List He.Fa} {fn : List He.DefD} {fx : List FnX} {K : PySem.W.Frag} (n : Nat) (h1 : obsX [] fa [] [] K = valX [] []) (h2 : obsX xb [] (fn.take n) [] K = valX (fn.take n) []) (h3 : obsX [] [] (fn.drop n) fx K = valX (fn.drop n) fx) : obsX xb fa fn fx K = valX fn fx := by
  have a1 := congrArg (fun z : AlX => z.2.1.1) h1
  have a2 := congrArg (fun z : AlX => z.2.1.1) h2
  have a3 := congrArg (fun z : AlX => z.2.1.1) h3
  have b2 := congrArg (fun z : AlX => z.2.1.2) h2
  have b3 := congrArg (fun z : AlX => z.2.1.2) h3
  have c2 := congrArg (fun z : AlX => z.1.1) h2
  have c3 := congrArg (fun z : AlX => z.1.2) h3
  have d3 := congrArg (fun z : AlX => z.2.2) h3
  simp only [obsX, valX, He.obsD, He.valD, List.all_nil, Bool.true_and, Bool.and_true] at a1 a2 a3 b2 b3 c2 c3 d3
  have e1 : (fn.all fun d => He.DefD.ok K d) = true := by
    rw [← List.take_append_drop n fn, List.all_append, a2, a3]
    rfl
  have e2 : List.map (fun d => He.fnW K d.at_) fn = List.map He.DefD.val fn := by
    rw [← List.take_append_drop n fn, List.map_append, List.map_append, b2, b3]
  simp only [obsX, valX, He.obsD, He.valD, c2, c3, d3, a1, e1, e2, Bool.and_self]
theorem cutXU {r : OpenRow} {M : Nat} {w : World} {xb : List (PySem.W.Frag → Bool)} {fa : List He.Fa} {fn : List He.DefD} {fx : List FnX} {fy : List FnY} (n : Nat)
    (h1 : LookE r M (fun s => (obsX [] fa [] [] (frU 6 (HandSHeadRun.getT s)), He.tabsB (HandSHeadRun.getT s) [lawDf] (frU 6 (HandSHeadRun.getT s)))) (valX [] [], true) w)
    (h2 : LookE r M (fun s => obsX xb [] (fn.take n) [] (frU 6 (HandSHeadRun.getT s))) (valX (fn.take n) []) w)
    (h3 : LookE r M (fun s => (obsX [] [] (fn.drop n) fx (frU 6 (HandSHeadRun.getT s)), fy.all (fun d => d.ok (frU 6 (HandSHeadRun.getT s))), fy.map fun d => d.obs (frU 6 (HandSHeadRun.getT s)))) (valX (fn.drop n) fx, true, fy.map FnY.val) w) :
    Look3 r (hookXU 6 xb fa fn fx fy) (fun s => obsXU xb fa fn fx fy 6 (HandSHeadRun.getT s)) M w := fun os => map3of (fun s e1 e2 e3 => by
  obtain ⟨p1, p2⟩ := Prod.mk.inj e1
  obtain ⟨q1, q2⟩ := Prod.mk.inj e3
  obtain ⟨q3, q4⟩ := Prod.mk.inj q2
  show ((_, _), _, _) = ((_, _), _, _)
  rw [obsX_cut n p1 e2 q1, p2, q3, q4]) (h1 os) (h2 os) (h3 os)
end L3

/-! ## H_k20 -/
set_option Elab.async false
set_option linter.all false
set_option maxRecDepth 100000
set_option maxHeartbeats 0
namespace L3.K20
open PySem PySem.Spec PyProof.Rows L2
def top (i : Nat) : Stmt := PySem.Challenge.pw_copyarms_k20_spots_in_reach.main.body.getD i (.Pass ⟨0, 0, 0, 0⟩)
def d_law_random : He.DefD := ⟨("_law_random", none), "_law_random", "_law_random", defArgs (top 73), defBody (top 73), defScope (top 73), [], []⟩
def d_law_below : He.DefD := ⟨("_law_below", none), "_law_below", "_law_below", defArgs (top 74), defBody (top 74), defScope (top 74), [], []⟩
def d_law_step : He.DefD := ⟨("_law_step", none), "_law_step", "_law_step", defArgs (top 75), defBody (top 75), defScope (top 75), [], []⟩
def d_law_common : He.DefD := ⟨("_law_common", none), "_law_common", "_law_common", defArgs (top 76), defBody (top 76), defScope (top 76), [], []⟩
def d_law_lowest : He.DefD := ⟨("_law_lowest", none), "_law_lowest", "_law_lowest", defArgs (top 77), defBody (top 77), defScope (top 77), [], []⟩
def d_law_spot : He.DefD := ⟨("_law_spot", none), "_law_spot", "_law_spot", defArgs (top 78), defBody (top 78), defScope (top 78), [], []⟩
def d_law_turn : He.DefD := ⟨("_law_turn", none), "_law_turn", "_law_turn", defArgs (top 79), defBody (top 79), defScope (top 79), [], []⟩
def d_law_arm_told : He.DefD := ⟨("_law_arm_told", none), "_law_arm_told", "_law_arm_told", defArgs (top 80), defBody (top 80), defScope (top 80), [], []⟩
def d_Chain___init : He.DefD := ⟨("Chain", some "__init__"), "__init__", "Chain.__init__", defArgs (inClass (top 60) 0), defBody (inClass (top 60) 0), defScope (inClass (top 60) 0), [], []⟩
def d_is_int : He.DefD := ⟨("is_int", none), "is_int", "is_int", defArgs (top 25), defBody (top 25), defScope (top 25), [], []⟩
def d_common_divisor : He.DefD := ⟨("common_divisor", none), "common_divisor", "common_divisor", defArgs (top 26), defBody (top 26), defScope (top 26), [], []⟩
def d_lowest : He.DefD := ⟨("lowest", none), "lowest", "lowest", defArgs (top 29), defBody (top 29), defScope (top 29), [], []⟩
def d_is_number : He.DefD := ⟨("is_number", none), "is_number", "is_number", defArgs (top 32), defBody (top 32), defScope (top 32), [], []⟩
def d_check_spot : He.DefD := ⟨("check_spot", none), "check_spot", "check_spot", defArgs (top 43), defBody (top 43), defScope (top 43), [], []⟩
def d_check_turn : He.DefD := ⟨("check_turn", none), "check_turn", "check_turn", defArgs (top 44), defBody (top 44), defScope (top 44), [], []⟩
def d_is_int_in : He.DefD := ⟨("is_int_in", none), "is_int_in", "is_int_in", defArgs (top 24), defBody (top 24), defScope (top 24), [], []⟩
def d_Arm___init : He.DefD := ⟨("Arm", some "__init__"), "__init__", "Arm.__init__", defArgs (inClass (top 49) 0), defBody (inClass (top 49) 0), defScope (inClass (top 49) 0), [], [("mirrored", (.bl false))]⟩
def d_law_arm : He.DefD := ⟨("_law_arm", none), "_law_arm", "_law_arm", defArgs (top 81), defBody (top 81), defScope (top 81), [], []⟩
def d_Chain___add : He.DefD := ⟨("Chain", some "__add__"), "__add__", "Chain.__add__", defArgs (inClass (top 60) 5), defBody (inClass (top 60) 5), defScope (inClass (top 60) 5), [], []⟩
def d_law_chain : He.DefD := ⟨("_law_chain", none), "_law_chain", "_law_chain", defArgs (top 82), defBody (top 82), defScope (top 82), [], []⟩
def d_Copy___init : He.DefD := ⟨("Copy", some "__init__"), "__init__", "Copy.__init__", defArgs (inClass (top 46) 0), defBody (inClass (top 46) 0), defScope (inClass (top 46) 0), [], [("mirrored", (.bl false))]⟩
def d_multiplied : He.DefD := ⟨("multiplied", none), "multiplied", "multiplied", defArgs (top 36), defBody (top 36), defScope (top 36), [], []⟩
def d_turned_over : He.DefD := ⟨("turned_over", none), "turned_over", "turned_over", defArgs (top 37), defBody (top 37), defScope (top 37), [], []⟩
def d_added : He.DefD := ⟨("added", none), "added", "added", defArgs (top 33), defBody (top 33), defScope (top 33), [], []⟩
def d_opposite : He.DefD := ⟨("opposite", none), "opposite", "opposite", defArgs (top 34), defBody (top 34), defScope (top 34), [], []⟩
def d_less : He.DefD := ⟨("less", none), "less", "less", defArgs (top 35), defBody (top 35), defScope (top 35), [], []⟩
def d_copy_about : He.DefD := ⟨("copy_about", none), "copy_about", "copy_about", defArgs (top 50), defBody (top 50), defScope (top 50), [], []⟩
def d_carried : He.DefD := ⟨("carried", none), "carried", "carried", defArgs (top 45), defBody (top 45), defScope (top 45), [], []⟩
def d_Copy___rshift : He.DefD := ⟨("Copy", some "__rshift__"), "__rshift__", "Copy.__rshift__", defArgs (inClass (top 46) 3), defBody (inClass (top 46) 3), defScope (inClass (top 46) 3), [], []⟩
def d_copies_ahead : He.DefD := ⟨("copies_ahead", none), "copies_ahead", "copies_ahead", defArgs (top 61), defBody (top 61), defScope (top 61), [], []⟩
def d_ratio : He.DefD := ⟨("ratio", none), "ratio", "ratio", defArgs (top 28), defBody (top 28), defScope (top 28), [], []⟩
def d_size : He.DefD := ⟨("size", none), "size", "size", defArgs (top 39), defBody (top 39), defScope (top 39), [], []⟩
def d_inverse : He.DefD := ⟨("inverse", none), "inverse", "inverse", defArgs (top 38), defBody (top 38), defScope (top 38), [], []⟩
def d_Copy___invert : He.DefD := ⟨("Copy", some "__invert__"), "__invert__", "Copy.__invert__", defArgs (inClass (top 46) 4), defBody (inClass (top 46) 4), defScope (inClass (top 46) 4), [], []⟩
def d_zones : He.DefD := ⟨("zones", none), "zones", "zones", defArgs (top 62), defBody (top 62), defScope (top 62), [], []⟩
def d_is_less : He.DefD := ⟨("is_less", none), "is_less", "is_less", defArgs (top 40), defBody (top 40), defScope (top 40), [], []⟩
def d_is_in_ring : He.DefD := ⟨("is_in_ring", none), "is_in_ring", "is_in_ring", defArgs (top 64), defBody (top 64), defScope (top 64), [], []⟩
def d_reachable_spots : He.DefD := ⟨("reachable_spots", none), "reachable_spots", "reachable_spots", defArgs (top 63), defBody (top 63), defScope (top 63), [], []⟩
def d_law_ratio : He.DefD := ⟨("_law_ratio", none), "_law_ratio", "_law_ratio", defArgs (top 83), defBody (top 83), defScope (top 83), [], []⟩
def d_law_size : He.DefD := ⟨("_law_size", none), "_law_size", "_law_size", defArgs (top 84), defBody (top 84), defScope (top 84), [], []⟩
def d_law_plus : He.DefD := ⟨("_law_plus", none), "_law_plus", "_law_plus", defArgs (top 85), defBody (top 85), defScope (top 85), [], []⟩
def d_law_minus : He.DefD := ⟨("_law_minus", none), "_law_minus", "_law_minus", defArgs (top 86), defBody (top 86), defScope (top 86), [], []⟩
def d_law_less : He.DefD := ⟨("_law_less", none), "_law_less", "_law_less", defArgs (top 87), defBody (top 87), defScope (top 87), [], []⟩
def d_law_reached : He.DefD := ⟨("_law_reached", none), "_law_reached", "_law_reached", defArgs (top 88), defBody (top 88), defScope (top 88), [], []⟩
def d_law_times : He.DefD := ⟨("_law_times", none), "_law_times", "_law_times", defArgs (top 89), defBody (top 89), defScope (top 89), [], []⟩
def d_law_over : He.DefD := ⟨("_law_over", none), "_law_over", "_law_over", defArgs (top 90), defBody (top 90), defScope (top 90), [], []⟩
def d_law_near : He.DefD := ⟨("_law_near", none), "_law_near", "_law_near", defArgs (top 91), defBody (top 91), defScope (top 91), [], []⟩
def d_law_traced : He.DefD := ⟨("_law_traced", none), "_law_traced", "_law_traced", defArgs (top 92), defBody (top 92), defScope (top 92), [], []⟩
def d_law_about : He.DefD := ⟨("_law_about", none), "_law_about", "_law_about", defArgs (top 93), defBody (top 93), defScope (top 93), [], []⟩
def d_law_carried : He.DefD := ⟨("_law_carried", none), "_law_carried", "_law_carried", defArgs (top 94), defBody (top 94), defScope (top 94), [], []⟩
def d_law_moved : He.DefD := ⟨("_law_moved", none), "_law_moved", "_law_moved", defArgs (top 95), defBody (top 95), defScope (top 95), [], []⟩
def d_law_missed : He.DefD := ⟨("_law_missed", none), "_law_missed", "_law_missed", defArgs (top 96), defBody (top 96), defScope (top 96), [], []⟩
def d_law_equal : He.DefD := ⟨("_law_equal", none), "_law_equal", "_law_equal", defArgs (top 97), defBody (top 97), defScope (top 97), [], []⟩
def d_parts_of : He.DefD := ⟨("parts_of", none), "parts_of", "parts_of", defArgs (top 54), defBody (top 54), defScope (top 54), [], []⟩
def d_farthest : He.DefD := ⟨("farthest", none), "farthest", "farthest", defArgs (top 53), defBody (top 53), defScope (top 53), [], []⟩
def d_common_multiple : He.DefD := ⟨("common_multiple", none), "common_multiple", "common_multiple", defArgs (top 27), defBody (top 27), defScope (top 27), [], []⟩
def d_least : He.DefD := ⟨("least", none), "least", "least", defArgs (top 41), defBody (top 41), defScope (top 41), [], []⟩
def d_nearest : He.DefD := ⟨("nearest", none), "nearest", "nearest", defArgs (top 52), defBody (top 52), defScope (top 52), [], []⟩
def d_span : He.DefD := ⟨("span", none), "span", "span", defArgs (top 55), defBody (top 55), defScope (top 55), [], []⟩
def d_touched_span : He.DefD := ⟨("touched_span", none), "touched_span", "touched_span", defArgs (top 56), defBody (top 56), defScope (top 56), [], []⟩
def d_check_stroke : He.DefD := ⟨("check_stroke", none), "check_stroke", "check_stroke", defArgs (top 70), defBody (top 70), defScope (top 70), [], []⟩
def d_Drawing___init : He.DefD := ⟨("Drawing", some "__init__"), "__init__", "Drawing.__init__", defArgs (inClass (top 71) 0), defBody (inClass (top 71) 0), defScope (inClass (top 71) 0), [], []⟩
def d_Drawing_copied : He.DefD := ⟨("Drawing", some "copied"), "copied", "Drawing.copied", defArgs (inClass (top 71) 8), defBody (inClass (top 71) 8), defScope (inClass (top 71) 8), [], []⟩
def d_needed_reach : He.DefD := ⟨("needed_reach", none), "needed_reach", "needed_reach", defArgs (top 65), defBody (top 65), defScope (top 65), [], []⟩
def d_is_between : He.DefD := ⟨("is_between", none), "is_between", "is_between", defArgs (top 51), defBody (top 51), defScope (top 51), [], []⟩
def d_can_draw : He.DefD := ⟨("can_draw", none), "can_draw", "can_draw", defArgs (top 66), defBody (top 66), defScope (top 66), [], []⟩
def d_Drawing___add : He.DefD := ⟨("Drawing", some "__add__"), "__add__", "Drawing.__add__", defArgs (inClass (top 71) 5), defBody (inClass (top 71) 5), defScope (inClass (top 71) 5), [], []⟩
def d_law_drawingQ : He.DefD := ⟨("_law_drawing", none), "_law_drawing", "_law_drawing", defArgs (top 98), defBody (top 98), defScope (top 98), [], []⟩
def d_Chain___getitem : He.DefD := ⟨("Chain", some "__getitem__"), "__getitem__", "Chain.__getitem__", defArgs (inClass (top 60) 2), defBody (inClass (top 60) 2), defScope (inClass (top 60) 2), [], []⟩
def d_Arm_reaches : He.DefD := ⟨("Arm", some "reaches"), "reaches", "Arm.reaches", defArgs (inClass (top 49) 3), defBody (inClass (top 49) 3), defScope (inClass (top 49) 3), [], []⟩
def d_law : He.DefD := ⟨("law", none), "law", "law", defArgs (top 100), defBody (top 100), defScope (top 100), [], []⟩
def d_law_error_of : He.DefD := ⟨("_law_error_of", none), "_law_error_of", "_law_error_of", defArgs (top 99), defBody (top 99), defScope (top 99), [], []⟩
def x_Arm_effect : FnX := ⟨fun K => (gtA K (He.ga K "Arm") "effect"), "effect", "Arm.effect", defArgs (inClass (top 49) 1), defBody (inClass (top 49) 1), defScope (inClass (top 49) 1)⟩
def x_Copy_growth : FnX := ⟨fun K => (gtA K (He.ga K "Copy") "growth"), "growth", "Copy.growth", defArgs (inClass (top 46) 5), defBody (inClass (top 46) 5), defScope (inClass (top 46) 5)⟩
def fn : List He.DefD := [d_law_random, d_law_below, d_law_step, d_law_common, d_law_lowest, d_law_spot, d_law_turn, d_law_arm_told, d_Chain___init, d_is_int, d_common_divisor, d_lowest, d_is_number, d_check_spot, d_check_turn, d_is_int_in, d_Arm___init, d_law_arm, d_Chain___add, d_law_chain, d_Copy___init, d_multiplied, d_turned_over, d_added, d_opposite, d_less, d_copy_about, d_carried, d_Copy___rshift, d_copies_ahead, d_ratio, d_size, d_inverse, d_Copy___invert, d_zones, d_is_less, d_is_in_ring, d_reachable_spots, d_law_ratio, d_law_size, d_law_plus, d_law_minus, d_law_less, d_law_reached, d_law_times, d_law_over, d_law_near, d_law_traced, d_law_about, d_law_carried, d_law_moved, d_law_missed, d_law_equal, d_parts_of, d_farthest, d_common_multiple, d_least, d_nearest, d_span, d_touched_span, d_check_stroke, d_Drawing___init, d_Drawing_copied, d_needed_reach, d_is_between, d_can_draw, d_Drawing___add, d_law_drawingQ, d_Chain___getitem, d_Arm_reaches, d_law, d_law_error_of]
def fx : List FnX := [x_Arm_effect, x_Copy_growth]
def fy : List FnY := []
def fa : List (He.Fa) := ([.free "abs", .free "len", .int "MAX_ARMS" 6, .cls "Chain", .noat "Chain" "arms", .free "bool", .free "int", .free "isinstance", .free "all", .free "tuple", .glo "ZERO", .int "MAX_REACH" 1000, .cls "Arm", .noat "Arm" "far", .noat "Arm" "key", .noat "Arm" "mirrored", .noat "Arm" "near", .noat "Arm" "pole", .noat "Arm" "turn", .meth "Chain" "__add__", .cls "Copy", .noat "Copy" "key", .noat "Copy" "mirrored", .noat "Copy" "shift", .noat "Copy" "turn", .glo "ONE", .meth "Copy" "__rshift__", .free "zip", .meth "Copy" "__invert__", .int "MAX_SIZE" 20] : List (He.Fa)) ++ ([.free "list", .free "range", .free "str", .cls "Drawing", .noat "Drawing" "strokes", .int "MAX_SPOTS" 12, .free "any", .int "MAX_STROKES" 12, .free "enumerate", .meth "Drawing" "copied", .meth "Drawing" "__add__", .meth "Arm" "reaches", .meth "Chain" "__getitem__", .glo "InvalidSize", .exc "InvalidSize", .free "ValueError", .glo "BadRow", .glo "BadText", .glo "Contradiction", .glo "CopyError", .glo "InvalidBox", .glo "InvalidCode", .glo "InvalidName", .glo "InvalidOperation", .glo "InvalidReach", .glo "InvalidSpot", .glo "InvalidStroke", .glo "InvalidTimes", .glo "InvalidTurn", .glo "NotFree"] : List (He.Fa)) ++ ([.glo "OpenStroke", .glo "OutOfReach", .glo "TooFew", .glo "TooMany", .glo "UnknownArm", .glo "UnknownName", .glo "Arm", .mkr "Arm", .glo "Chain", .mkr "Chain", .glo "Copy", .mkr "Copy", .glo "Drawing", .mkr "Drawing", .glo "_law_random", .glo "_law_below", .glo "_law_step", .glo "_law_common", .glo "_law_lowest", .glo "_law_spot", .glo "_law_turn", .glo "_law_arm_told", .glo "is_int", .glo "common_divisor", .glo "lowest", .glo "is_number", .glo "check_spot", .glo "check_turn", .glo "is_int_in", .glo "_law_arm"] : List (He.Fa)) ++ ([.glo "_law_chain", .glo "multiplied", .glo "turned_over", .glo "added", .glo "opposite", .glo "less", .glo "copy_about", .glo "carried", .glo "copies_ahead", .glo "ratio", .glo "size", .glo "inverse", .glo "zones", .glo "is_less", .glo "is_in_ring", .glo "reachable_spots", .glo "_law_ratio", .glo "_law_size", .glo "_law_plus", .glo "_law_minus", .glo "_law_less", .glo "_law_reached", .glo "_law_times", .glo "_law_over", .glo "_law_near", .glo "_law_traced", .glo "_law_about", .glo "_law_carried", .glo "_law_moved", .glo "_law_missed"] : List (He.Fa)) ++ ([.glo "_law_equal", .glo "parts_of", .glo "farthest", .glo "common_multiple", .glo "least", .glo "nearest", .glo "span", .glo "touched_span", .glo "check_stroke", .glo "needed_reach", .glo "is_between", .glo "can_draw", .glo "_law_drawing", .glo "law", .glo "_law_error_of"] : List (He.Fa))
def xb : List (PySem.W.Frag → Bool) := ([(fun K => He.tupB K "ZERO" [(.int 0), (.int 0), (.int 1)]), (fun K => PySem.W.selfFirst K (He.ga K "Chain")), (fun K => He.tupB K "ONE" [(.int 1), (.int 0), (.int 1)]), (fun K => PySem.W.selfFirst K (He.ga K "Copy")), (fun K => propB K (He.ga K "Arm") "effect"), (fun K => propB K (He.ga K "Copy") "growth"), (fun K => PySem.W.selfFirst K (He.ga K "Drawing")), (fun K => errAB K (He.ga K "InvalidSize") (He.ga K "CopyError") (fun s => He.ga K s) 9), (fun K => PySem.W.fnIn K (He.ma K (He.ga K "Chain") "__getitem__"))] : List (PySem.W.Frag → Bool))
def names : List (PySem.Str) := (["_wall", "CopyError", "InvalidSpot", "InvalidTurn", "InvalidTimes", "TooFew", "InvalidStroke", "OpenStroke", "InvalidReach", "OutOfReach", "TooMany", "InvalidSize", "InvalidBox", "Contradiction", "BadText", "BadRow", "UnknownName", "InvalidName", "InvalidCode", "UnknownArm", "NotFree", "InvalidOperation", "is_int_in", "is_int", "common_divisor", "common_multiple", "ratio", "lowest", "ZERO", "ONE"] : List (PySem.Str)) ++ (["is_number", "added", "opposite", "less", "multiplied", "turned_over", "inverse", "size", "is_less", "least", "check_spot", "check_turn", "carried", "Copy", "MAX_REACH", "Arm", "copy_about", "is_between", "nearest", "farthest", "parts_of", "span", "touched_span", "MAX_ARMS", "MAX_SIZE", "Chain", "copies_ahead", "zones", "reachable_spots", "is_in_ring"] : List (PySem.Str)) ++ (["needed_reach", "can_draw", "MAX_SPOTS", "MAX_STROKES", "check_stroke", "Drawing", "_law_random", "_law_below", "_law_step", "_law_common", "_law_lowest", "_law_spot", "_law_turn", "_law_arm_told", "_law_arm", "_law_chain", "_law_ratio", "_law_size", "_law_plus", "_law_minus", "_law_less", "_law_reached", "_law_times", "_law_over", "_law_near", "_law_traced", "_law_about", "_law_carried", "_law_moved", "_law_missed"] : List (PySem.Str)) ++ (["_law_equal", "_law_drawing", "_law_error_of"] : List (PySem.Str))
abbrev R : PySem.W.OpenRow := PySem.W.OpenLaw.row PySem.Challenge.rw_copyarms_k20_spots_in_reach
abbrev qv : Program := PySem.W.view R.prog [100]
abbrev hk : PySem.W.Hook := hookXU 6 xb fa fn fx fy
def ob (s : PySem.W.SharedT) : AlU := obsXU xb fa fn fx fy 6 (HandSHeadRun.getT s)
theorem ob_eq (s : PySem.W.SharedT) : ob s = hk.obs s.abs := obsXU_eq s
theorem run3a (w : World) : LookE R 12000 (fun s => (obsX [] fa [] [] (frU 6 (HandSHeadRun.getT s)), He.tabsB (HandSHeadRun.getT s) [lawDf] (frU 6 (HandSHeadRun.getT s)))) (valX [] [], true) w := by
  intro os
  kernel_rfl
theorem run3b (w : World) : LookE R 12000 (fun s => (obsX xb [] (fn.take 36) [] (frU 6 (HandSHeadRun.getT s)))) (valX (fn.take 36) []) w := by
  intro os
  kernel_rfl
theorem run3c (w : World) : LookE R 12000 (fun s => (obsX [] [] (fn.drop 36) fx (frU 6 (HandSHeadRun.getT s)), fy.all (fun d => d.ok (frU 6 (HandSHeadRun.getT s))), fy.map fun d => d.obs (frU 6 (HandSHeadRun.getT s)))) (valX (fn.drop 36) fx, true, fy.map FnY.val) w := by
  intro os
  kernel_rfl
theorem run3 (w : World) : Look3 R hk ob 12000 w := cutXU 36 (run3a w) (run3b w) (run3c w)
theorem run1 (w : World) : Look1 R 12000 w := by
  intro os
  kernel_rfl
theorem run2 (w : World) : Look2 R qv 12000 names w := by
  intro os
  kernel_rfl
theorem run (w : World) : HandSHeadRun.RunEq R qv hk ob 12000 names w := runEq_of (run1 w) (run2 w) (run3 w)

end L3.K20

/-! ## L3a -/
set_option Elab.async false
set_option linter.all false
set_option maxRecDepth 100000
set_option maxHeartbeats 4000000
/-! A layer of values over the layer of addresses: D, what a value holds; MH, the objects that may change; every reading is a function of these alone. -/
namespace L3
open PySem PySem.Spec PyProof.Rows L2

/-! ### data -/
inductive D where
  | non | bl (b : Bool) | int (i : Int) | str (x : Str)
  | tup (ds : List D) | lst (ds : List D) | scr (ds : List D)
  | ins (C : Addr) (fs : List (Str × D)) | ref (a : Addr) | ty (n : String)

/-- a changeable object: a list, an instance -/
inductive MO where
  | lst (ds : List D)
  | ins (C : Addr) (fs : List (Str × D))
  /-- a table of code objects of one name -/
  | tab (q : Str)
  /-- a dict whose keys are ints and texts -/
  | dk (kvs : List (Key × D))
  /-- a dict whose keys are tuples: its object, its entries -/
  | dct (o : Obj) (kvs : List (D × D))
  /-- a dict whose keys are ints and texts, while it is walked -/
  | dkl (o : Obj) (vs : List (Key × V)) (kvs : List (Key × D))

abbrev MH := Addr → Option MO
def updM (μ : MH) (a : Addr) (m : MO) : MH := fun b => if b = a then some m else μ b
def delM (μ : MH) (a : Addr) : MH := fun b => if b = a then none else μ b
theorem updM_same {μ : MH} {a : Addr} {m : MO} : updM μ a m a = some m := by unfold updM; rw [if_pos rfl]
theorem updM_ne {μ : MH} {a b : Addr} {m : MO} (h : b ≠ a) : updM μ a m b = μ b := by unfold updM; rw [if_neg h]
theorem updM_updM {μ : MH} {a : Addr} {m n : MO} : updM (updM μ a m) a n = updM μ a n := by
  funext b; unfold updM; split <;> rfl
theorem delM_same {μ : MH} {a : Addr} : delM μ a a = none := by unfold delM; rw [if_pos rfl]
theorem delM_ne {μ : MH} {a b : Addr} (h : b ≠ a) : delM μ a b = μ b := by unfold delM; rw [if_neg h]
theorem delM_updM {μ : MH} {a : Addr} {m : MO} (h : μ a = none) : delM (updM μ a m) a = μ := by
  funext b; unfold delM updM
  by_cases e : b = a
  · rw [if_pos e, e, h]
  · rw [if_neg e, if_neg e]

mutual
/-- the value v holds the data d, by the objects of S that never change -/
inductive Rep (K : PySem.W.Frag) (S : Hp) : V → D → Prop
  | non : Rep K S .non .non
  | bl (b : Bool) : Rep K S (.bl b) (.bl b)
  | int (i : Int) : Rep K S (.int i) (.int i)
  | str (x : Str) : Rep K S (.str x) (.str x)
  | tup {a : Addr} {vs : List V} {ds : List D} : SqT K S a vs → Reps K S vs ds → Rep K S (.ref a) (.tup ds)
  | lst {a : Addr} {vs : List V} {ds : List D} : S a = some (.lst vs) → Reps K S vs ds → Rep K S (.ref a) (.lst ds)
  | scr {a : Addr} {vs : List V} {ds : List D} : SqL K S a vs → Reps K S vs ds → Rep K S (.ref a) (.scr ds)
  | ins {a C dx : Addr} {vfs : List (Str × V)} {fs : List (Str × D)} : S a = some (.ins C dx vfs) → RepF K S vfs fs → Rep K S (.ref a) (.ins C fs)
  | ref (a : Addr) : Rep K S (.ref a) (.ref a)
  | ty (n : String) : Rep K S (.ty n) (.ty n)
inductive Reps (K : PySem.W.Frag) (S : Hp) : List V → List D → Prop
  | nil : Reps K S [] []
  | cons {v : V} {vs : List V} {d : D} {ds : List D} : Rep K S v d → Reps K S vs ds → Reps K S (v :: vs) (d :: ds)
inductive RepF (K : PySem.W.Frag) (S : Hp) : List (Str × V) → List (Str × D) → Prop
  | nil : RepF K S [] []
  | cons {f : Str} {v : V} {vs : List (Str × V)} {d : D} {ds : List (Str × D)} : Rep K S v d → RepF K S vs ds → RepF K S ((f, v) :: vs) ((f, d) :: ds)
end

section
variable {K : PySem.W.Frag} {S S' H H' : Hp}
theorem sqT_same {a : Addr} {xs : List V} (e : Same S S') (h : SqT K S a xs) : SqT K S' a xs := by
  rcases h with (h | ⟨o, h⟩) | h
  · exact .inl (.inl (e _ _ h))
  · exact .inl (.inr ⟨o, e _ _ h⟩)
  · exact .inr h
theorem sqL_same {a : Addr} {xs : List V} (e : Same S S') (h : SqL K S a xs) : SqL K S' a xs := e.seq h
mutual
theorem Rep.mono (e : Same S S') : ∀ {v : V} {d : D}, Rep K S v d → Rep K S' v d
  | _, _, .non => .non
  | _, _, .bl b => .bl b
  | _, _, .int i => .int i
  | _, _, .str x => .str x
  | _, _, .tup h r => .tup (sqT_same e h) (Reps.mono e r)
  | _, _, .lst h r => .lst (e _ _ h) (Reps.mono e r)
  | _, _, .scr h r => .scr (sqL_same e h) (Reps.mono e r)
  | _, _, .ins h r => .ins (e _ _ h) (RepF.mono e r)
  | _, _, .ref a => .ref a
  | _, _, .ty n => .ty n
theorem Reps.mono (e : Same S S') : ∀ {vs : List V} {ds : List D}, Reps K S vs ds → Reps K S' vs ds
  | _, _, .nil => .nil
  | _, _, .cons h r => .cons (Rep.mono e h) (Reps.mono e r)
theorem RepF.mono (e : Same S S') : ∀ {vs : List (Str × V)} {ds : List (Str × D)}, RepF K S vs ds → RepF K S' vs ds
  | _, _, .nil => .nil
  | _, _, .cons h r => .cons (Rep.mono e h) (RepF.mono e r)
end
theorem Reps.length : ∀ {vs : List V} {ds : List D}, Reps K S vs ds → vs.length = ds.length
  | _, _, .nil => rfl
  | _, _, .cons _ r => congrArg Nat.succ (Reps.length r)
theorem Reps.append : ∀ {vs ws : List V} {ds es : List D}, Reps K S vs ds → Reps K S ws es → Reps K S (vs ++ ws) (ds ++ es)
  | _, _, _, _, .nil, h => h
  | _, _, _, _, .cons h r, h2 => .cons h (Reps.append r h2)
theorem Reps.get : ∀ {vs : List V} {ds : List D} {i : Nat} {d : D}, Reps K S vs ds → ds[i]? = some d → ∃ v, vs[i]? = some v ∧ Rep K S v d
  | _, _, _, _, .nil, e => by simp at e
  | _, _, 0, _, .cons h r, e => by
    simp at e; subst e; exact ⟨_, rfl, h⟩
  | _, _, i + 1, d, .cons h r, e => by
    obtain ⟨v, h1, h2⟩ := Reps.get (i := i) (d := d) r (by simpa using e)
    exact ⟨v, by simpa using h1, h2⟩
theorem Reps.set {v : V} {d : D} (h : Rep K S v d) : ∀ {vs : List V} {ds : List D} (i : Nat), Reps K S vs ds → Reps K S (vs.set i v) (ds.set i d)
  | _, _, _, .nil => .nil
  | _, _, 0, .cons _ r => .cons h r
  | _, _, i + 1, .cons q r => .cons q (Reps.set h i r)
theorem Reps.take : ∀ {vs : List V} {ds : List D} (n : Nat), Reps K S vs ds → Reps K S (vs.take n) (ds.take n)
  | _, _, 0, _ => .nil
  | _, _, _ + 1, .nil => .nil
  | _, _, n + 1, .cons r t => .cons r (Reps.take n t)
theorem Reps.drop : ∀ {vs : List V} {ds : List D} (n : Nat), Reps K S vs ds → Reps K S (vs.drop n) (ds.drop n)
  | _, _, 0, r => r
  | _, _, _ + 1, .nil => .nil
  | _, _, n + 1, .cons _ t => Reps.drop n t
theorem Reps.eraseIdx : ∀ {vs : List V} {ds : List D} (n : Nat), Reps K S vs ds → Reps K S (vs.eraseIdx n) (ds.eraseIdx n)
  | _, _, _, .nil => .nil
  | _, _, 0, .cons _ t => t
  | _, _, n + 1, .cons r t => .cons r (Reps.eraseIdx n t)
theorem Reps.split : ∀ {vs ws : List V} {ds : List D}, Reps K S (vs ++ ws) ds → ∃ d1 d2, ds = d1 ++ d2 ∧ Reps K S vs d1 ∧ Reps K S ws d2
  | [], _, ds, h => ⟨[], ds, rfl, .nil, h⟩
  | v :: vs, ws, _, .cons h r => by
    obtain ⟨d1, d2, e, h1, h2⟩ := Reps.split r
    exact ⟨_ :: d1, d2, by rw [e]; rfl, .cons h h1, h2⟩
theorem RepF.lookup : ∀ {vs : List (Str × V)} {ds : List (Str × D)} {f : Str} {d : D}, RepF K S vs ds → ds.lookup f = some d → ∃ v, vs.lookup f = some v ∧ Rep K S v d
  | _, _, _, _, .nil, e => by cases e
  | _, _, f, d, @RepF.cons _ _ g v vs d' ds h r, e => by
    rw [List.lookup_cons] at e ⊢
    cases q : f == g with
    | true => rw [q] at e; cases e; exact ⟨v, rfl, h⟩
    | false => rw [q] at e; exact RepF.lookup r e
theorem RepF.lookup_none : ∀ {vs : List (Str × V)} {ds : List (Str × D)} {f : Str}, RepF K S vs ds → ds.lookup f = none → vs.lookup f = none
  | _, _, _, .nil, _ => rfl
  | _, _, f, @RepF.cons _ _ g v vs d' ds h r, e => by
    rw [List.lookup_cons] at e ⊢
    cases q : f == g with
    | true => rw [q] at e; cases e
    | false => rw [q] at e; exact RepF.lookup_none r e
theorem RepF.length : ∀ {vs : List (Str × V)} {ds : List (Str × D)}, RepF K S vs ds → vs.length = ds.length
  | _, _, .nil => rfl
  | _, _, .cons _ r => congrArg Nat.succ (RepF.length r)
def putD (f : Str) (d : D) : List (Str × D) → List (Str × D)
  | [] => [(f, d)]
  | (g, e) :: r => if g = f then (g, d) :: r else (g, e) :: putD f d r
theorem RepF.put {v : V} {d : D} (h : Rep K S v d) (f : Str) : ∀ {vs : List (Str × V)} {ds : List (Str × D)}, RepF K S vs ds → RepF K S (putF f v vs) (putD f d ds)
  | _, _, .nil => .cons h .nil
  | _, _, @RepF.cons _ _ g v' vs d' ds h' r => by
    unfold putF putD
    by_cases e : g = f
    · rw [if_pos e, if_pos e]; exact .cons h r
    · rw [if_neg e, if_neg e]; exact .cons h' (RepF.put h f r)
end

/-! ### dicts whose keys are tuples -/
mutual
/-- the key that a value is -/
def nkD : D → Option NestedKey
  | .non => some .none
  | .bl b => some (.num (if b = true then 1 else 0))
  | .int i => some (.num i)
  | .tup ds => (nkDs ds).map .tup
  | .str _ => none | .lst _ => none | .scr _ => none | .ins _ _ => none | .ref _ => none | .ty _ => none
def nkDs : List D → Option (List NestedKey)
  | [] => some []
  | d :: ds => match nkD d, nkDs ds with
    | some k, some ks => some (k :: ks)
    | _, _ => none
end
mutual
/-- the hash of a key without texts -/
def kh : NestedKey → Int
  | .none => reduceHash 0xFCA86420
  | .num i => hashInt i
  | .text _ => 0
  | .tup ks => reduceHash (Builtin.Tuple.tupleHashOf (khs ks))
def khs : List NestedKey → List Int
  | [] => []
  | k :: ks => kh k :: khs ks
end
def ent0 (x : NestedKey × Addr × Value) : DictEntry := ⟨kh x.1, .ref x.2.1, x.2.2⟩
/-- the object o at a is a dict with the entries vs -/
def DctOk (a : Addr) (o : Obj) (vs : List (NestedKey × Addr × V)) (h : Heap) : Prop :=
  h.get? a = some o ∧ o.ExactDict ∧ (a == sysModules) = false ∧ vs.length ≤ sizeLine ∧ (vs.map (·.1)).Nodup ∧
  ∃ es ep, ∃ xs : List (NestedKey × Addr × Value), o.data = .dict es ep ∧ es.toList = xs.map ent0 ∧
    Paired (fun (p : NestedKey × Addr × V) (q : NestedKey × Addr × Value) => p.1 = q.1 ∧ p.2.1 = q.2.1 ∧ RelV p.2.2 q.2.2) vs xs
def DctO (a : Addr) (o : Obj) (vs : List (NestedKey × Addr × V)) : HO := .ext (DctOk a o vs)
theorem dctO_ne_code {a : Addr} {o : Obj} {vs : List (NestedKey × Addr × V)} {q : Str} : DctO a o vs ≠ LamX.CodeO a q := fun z => by
  unfold DctO LamX.CodeO at z
  have z1 := HO.ext.inj z
  let oc : Obj := { cls := .none, data := .fields #[.none, .str q 0] }
  let h : Heap := { objs := (List.replicate (a + 1) oc).toArray }
  have e : h.get? a = some oc := by
    unfold Heap.get?
    have : h.objs[a]? = some oc := by simp [h]
    rw [this]
  have c := congrFun z1 h
  have c2 : DctOk a o vs h := by rw [c]; exact ⟨oc, _, _, e, rfl, rfl⟩
  obtain ⟨c3, _, _, _, _, es, ep, xs, c4, _⟩ := c2
  rw [e] at c3
  have c5 := Option.some.inj c3
  rw [← c5] at c4
  cases c4
def RepK (K : PySem.W.Frag) (S : Hp) (vs : List (Key × V)) (ds : List (Key × D)) : Prop := Paired (fun (p : Key × V) (q : Key × D) => p.1 = q.1 ∧ Rep K S p.2 q.2) vs ds
def RepT (K : PySem.W.Frag) (S : Hp) (vs : List (NestedKey × Addr × V)) (ds : List (D × D)) : Prop :=
  Paired (fun (p : NestedKey × Addr × V) (q : D × D) => nkD q.1 = some p.1 ∧ p.1.depth ≤ 8 ∧ Rep K S (.ref p.2.1) q.1 ∧ Rep K S p.2.2 q.2) vs ds
theorem RepK.mono {K : PySem.W.Frag} {S S' : Hp} {vs : List (Key × V)} {ds : List (Key × D)} (e : Same S S') (r : RepK K S vs ds) : RepK K S' vs ds :=
  Paired.mapP r fun _ _ z => ⟨z.1, z.2.mono e⟩
theorem RepT.mono {K : PySem.W.Frag} {S S' : Hp} {vs : List (NestedKey × Addr × V)} {ds : List (D × D)} (e : Same S S') (r : RepT K S vs ds) : RepT K S' vs ds :=
  Paired.mapP r fun _ _ z => ⟨z.1, z.2.1, z.2.2.1.mono e, z.2.2.2.mono e⟩

/-! ### states -/
def MRep (K : PySem.W.Frag) (S H : Hp) (a : Addr) : MO → Prop
  | .lst ds => ∃ vs, H a = some (.lst vs) ∧ Reps K S vs ds
  | .ins C fs => ∃ dx vfs, H a = some (.ins C dx vfs) ∧ RepF K S vfs fs
  | .tab q => ∃ ps : Array Value, H a = some (.tbl ps) ∧ TriplesOk ps.toList ∧ ∀ (pos : Pos) (cv : Value), codeAmong pos ps.toList = some cv → ∃ c, cv = .ref c ∧ S c = some (LamX.CodeO c q)
  | .dk kvs => ∃ vs, H a = some (.dK vs) ∧ RepK K S vs kvs
  | .dct o kvs => ∃ vs, H a = some (DctO a o vs) ∧ RepT K S vs kvs
  | .dkl o vs kvs => H a = some (.frz o (.dK vs)) ∧ RepK K S vs kvs
/-- nothing is there, or a table -/
def Free (H : Hp) (b : Addr) : Prop := ∀ o, H b = some o → ∃ ps, o = .tbl ps
structure OK (K : PySem.W.Frag) (S : Hp) (μ : MH) (H : Hp) : Prop where
  sub : Same S H
  mts : ∀ a m, μ a = some m → S a = none ∧ MRep K S H a m
  nst : ∀ b ps, S b ≠ some (.tbl ps)
  one : ∃ T : List (Addr × Str), ∀ a q, μ a = some (.tab q) → (a, q) ∈ T
/-- from (S, μ, H) to (S', μ', H'): what is not tracked by S or μ is kept, but for tables -/
structure Stp (S : Hp) (μ : MH) (H : Hp) (S' : Hp) (μ' : MH) (H' : Hp) : Prop where
  same : Same S S'
  news : ∀ b o, S' b = some o → S b = some o ∨ (Free H b ∨ ∃ m, μ b = some m) ∨ ∃ q, o = LamX.CodeO b q
  keep : ∀ b o, H b = some o → μ b = none → (∀ ps, o ≠ .tbl ps) → H' b = some o
  mus : ∀ b m, μ' b = some m → Free H b ∨ ∃ m, μ b = some m
theorem free_none {H : Hp} {b : Addr} (h : H b = none) : Free H b := fun o e => by rw [h] at e; cases e
theorem free_no {H : Hp} {b : Addr} {o : HO} (f : Free H b) (e : H b = some o) (n : ∀ ps, o ≠ .tbl ps) : False := by
  obtain ⟨ps, z⟩ := f o e
  exact n ps z

section
variable {K : PySem.W.Frag} {S S' S1 S2 H H' H1 H2 : Hp} {μ μ' μ1 μ2 : MH}
theorem Stp.refl : Stp S μ H S μ H := ⟨fun _ _ h => h, fun _ _ h => .inl h, fun _ _ h _ _ => h, fun _ m h => .inr ⟨m, h⟩⟩
theorem Stp.trans (a : Stp S μ H S1 μ1 H1) (b : Stp S1 μ1 H1 S2 μ2 H2) : Stp S μ H S2 μ2 H2 := by
  have nn : ∀ c o, H c = some o → (∀ ps, o ≠ .tbl ps) → μ c = none → μ1 c = none := fun c o h1 n h2 => by
    cases q : μ1 c with
    | none => rfl
    | some m =>
      rcases a.mus c m q with z | ⟨m', z⟩
      · exact (free_no z h1 n).elim
      · rw [h2] at z; cases z
  have dec : ∀ c, Free H1 c → Free H c ∨ ∃ m, μ c = some m := fun c f => by
    cases q : H c with
    | none => exact .inl (free_none q)
    | some o =>
      cases q2 : μ c with
      | none =>
        by_cases n : ∃ ps, o = .tbl ps
        · exact .inl fun o' e' => by rw [q] at e'; cases e'; exact n
        · exact (free_no f (a.keep c o q q2 fun ps z => n ⟨ps, z⟩) fun ps z => n ⟨ps, z⟩).elim
      | some m => exact .inr ⟨m, rfl⟩
  refine ⟨a.same.trans b.same, fun c o h => ?_, fun c o h1 h2 n => b.keep c o (a.keep c o h1 h2 n) (nn c o h1 n h2) n, fun c m h => ?_⟩
  · rcases b.news c o h with z | (z | ⟨m, z⟩) | z
    · exact a.news c o z
    · exact .inr (.inl (dec c z))
    · exact .inr (.inl (a.mus c m z))
    · exact .inr (.inr z)
  · rcases b.mus c m h with z | ⟨m', z⟩
    · exact dec c z
    · exact a.mus c m' z
theorem OK.free {p : Addr} (k : OK K S μ H) (h : H p = none) : S p = none ∧ μ p = none := by
  refine ⟨k.sub.free h, ?_⟩
  cases q : μ p with
  | none => rfl
  | some m =>
    have z := (k.mts p m q).2
    cases m with
    | lst ds => obtain ⟨vs, e, _⟩ := z; rw [h] at e; cases e
    | ins C fs => obtain ⟨dx, vfs, e, _⟩ := z; rw [h] at e; cases e
    | tab q => obtain ⟨ps, e, _⟩ := z; rw [h] at e; cases e
    | dk kvs => obtain ⟨vs, e, _⟩ := z; rw [h] at e; cases e
    | dct o kvs => obtain ⟨vs, e, _⟩ := z; rw [h] at e; cases e
    | dkl o ws kvs => obtain ⟨e, _⟩ := z; rw [h] at e; cases e
theorem MRep.mono {a : Addr} {m : MO} (e : Same S S') (h : H a = H' a) (r : MRep K S H a m) : MRep K S' H' a m := by
  cases m with
  | lst ds => obtain ⟨vs, e1, r⟩ := r; exact ⟨vs, h ▸ e1, r.mono e⟩
  | ins C fs => obtain ⟨dx, vfs, e1, r⟩ := r; exact ⟨dx, vfs, h ▸ e1, r.mono e⟩
  | tab q =>
    obtain ⟨ps, e1, e2, e3⟩ := r
    refine ⟨ps, h ▸ e1, e2, fun pos cv hc => ?_⟩
    obtain ⟨c, ec, sc⟩ := e3 pos cv hc
    exact ⟨c, ec, e _ _ sc⟩
  | dk kvs => obtain ⟨vs, e1, r⟩ := r; exact ⟨vs, h ▸ e1, r.mono e⟩
  | dct o kvs => obtain ⟨vs, e1, r⟩ := r; exact ⟨vs, h ▸ e1, r.mono e⟩
  | dkl o ws kvs => obtain ⟨e1, r⟩ := r; exact ⟨h ▸ e1, r.mono e⟩
theorem nst_upd {p : Addr} {o : HO} (k : OK K S μ H) (ho : ∀ ps, o ≠ .tbl ps) : ∀ b ps, upd S p o b ≠ some (.tbl ps) := fun b ps e => by
  by_cases q : b = p
  · subst q
    rw [upd_same] at e
    exact ho ps (Option.some.inj e)
  · rw [upd_ne q] at e
    exact k.nst b ps e
theorem one_upd {p : Addr} {m : MO} (k : OK K S μ H) (hm : ∀ q, m ≠ .tab q) : ∃ T : List (Addr × Str), ∀ a q, updM μ p m a = some (.tab q) → (a, q) ∈ T := by
  have ne : ∀ c q, updM μ p m c = some (.tab q) → μ c = some (.tab q) := fun c q e => by
    by_cases z : c = p
    · rw [z, updM_same] at e
      exact absurd (Option.some.inj e) (hm q)
    · rw [updM_ne z] at e
      exact e
  obtain ⟨T, h⟩ := k.one
  exact ⟨T, fun a q e => h a q (ne a q e)⟩
theorem same_updn {p : Addr} {o : HO} (h : S p = none) : Same S (upd S p o) := fun b x e => by
  rw [upd_ne (ne_of_none e h)]; exact e
/-- a new object that never changes -/
theorem OK.alloc {p : Addr} {o : HO} (k : OK K S μ H) (h : H p = none) (ho : ∀ ps, o ≠ .tbl ps := by intro _ z; cases z) : OK K (upd S p o) μ (upd H p o) ∧ Stp S μ H (upd S p o) μ (upd H p o) := by
  obtain ⟨hS, hM⟩ := k.free h
  refine ⟨⟨fun b x e => ?_, fun a m e => ?_, nst_upd k ho, k.one⟩, ⟨same_updn hS, fun b x e => ?_, fun b x e _ _ => ?_, fun b m e => .inr ⟨m, e⟩⟩⟩
  · by_cases q : b = p
    · subst q; rw [upd_same] at e ⊢; exact e
    · rw [upd_ne q] at e ⊢; exact k.sub b x e
  · have q : a ≠ p := fun z => by rw [z, hM] at e; cases e
    obtain ⟨z1, z2⟩ := k.mts a m e
    exact ⟨by rw [upd_ne q]; exact z1, z2.mono (same_updn hS) (upd_ne q).symm⟩
  · by_cases q : b = p
    · exact .inr (.inl (.inl (q ▸ free_none h)))
    · rw [upd_ne q] at e; exact .inl e
  · rw [upd_ne (ne_of_none e h)]; exact e
/-- a new object that is not looked at -/
theorem OK.hide {p : Addr} {o : HO} (k : OK K S μ H) (h : H p = none) : OK K S μ (upd H p o) := by
  obtain ⟨hS, hM⟩ := k.free h
  refine ⟨fun b x e => ?_, fun a m e => ?_, k.nst, k.one⟩
  · rw [upd_ne (ne_of_none e hS)]; exact k.sub b x e
  · have q : a ≠ p := fun z => by rw [z, hM] at e; cases e
    obtain ⟨z1, z2⟩ := k.mts a m e
    exact ⟨z1, z2.mono (fun _ _ z => z) (upd_ne q).symm⟩
/-- what is neither in S nor in μ may be anything -/
theorem OK.aside {p : Addr} {o : HO} (k : OK K S μ H) (hS : S p = none) (hM : μ p = none) : OK K S μ (upd H p o) := by
  refine ⟨fun b x e => ?_, fun a m e => ?_, k.nst, k.one⟩
  · rw [upd_ne (ne_of_none e hS)]; exact k.sub b x e
  · have q : a ≠ p := fun z => by rw [z, hM] at e; cases e
    obtain ⟨z1, z2⟩ := k.mts a m e
    exact ⟨z1, z2.mono (fun _ _ z => z) (upd_ne q).symm⟩
/-- a changeable object enters, or is changed -/
theorem OK.put {p : Addr} {m : MO} {o : HO} (k : OK K S μ H) (hS : S p = none) (r : MRep K S (upd H p o) p m) (hm : ∀ q, m ≠ .tab q := by intro _ z; cases z) : OK K S (updM μ p m) (upd H p o) := by
  refine ⟨fun b x e => ?_, fun a m' e => ?_, k.nst, one_upd k hm⟩
  · rw [upd_ne (ne_of_none e hS)]; exact k.sub b x e
  · by_cases q : a = p
    · subst q; rw [updM_same] at e; cases e; exact ⟨hS, r⟩
    · rw [updM_ne q] at e
      obtain ⟨z1, z2⟩ := k.mts a m' e
      exact ⟨z1, z2.mono (fun _ _ z => z) (upd_ne q).symm⟩
/-- what is neither in S nor in μ becomes data -/
theorem OK.take {p : Addr} {o : HO} (k : OK K S μ H) (h : H p = some o) (hS : S p = none) (hM : μ p = none) (ho : ∀ ps, o ≠ .tbl ps := by intro _ z; cases z) : OK K (upd S p o) μ H := by
  refine ⟨fun b x e => ?_, fun a m e => ?_, nst_upd k ho, k.one⟩
  · by_cases q : b = p
    · subst q; rw [upd_same] at e; cases e; exact h
    · rw [upd_ne q] at e; exact k.sub b x e
  · have q : a ≠ p := fun z => by rw [z, hM] at e; cases e
    obtain ⟨z1, z2⟩ := k.mts a m e
    exact ⟨by rw [upd_ne q]; exact z1, z2.mono (same_updn hS) rfl⟩
/-- a changeable object becomes data -/
theorem OK.freeze {p : Addr} {m : MO} {o : HO} (k : OK K S μ H) (e : μ p = some m) (h : H p = some o) (hm : ∀ q, m ≠ .tab q := by intro _ z; cases z) : OK K (upd S p o) (delM μ p) H ∧ Stp S μ H (upd S p o) (delM μ p) H := by
  obtain ⟨hS, r⟩ := k.mts p m e
  have ho : ∀ ps, o ≠ .tbl ps := fun ps z => by
    subst z
    cases m with
    | lst ds => obtain ⟨vs, e, _⟩ := r; rw [h] at e; cases e
    | ins C fs => obtain ⟨dx, vfs, e, _⟩ := r; rw [h] at e; cases e
    | tab q => exact hm q rfl
    | dk kvs => obtain ⟨vs, e, _⟩ := r; rw [h] at e; cases e
    | dct o kvs => obtain ⟨vs, e, _⟩ := r; rw [h] at e; unfold DctO at e; cases e
    | dkl o ws kvs => obtain ⟨e, _⟩ := r; rw [h] at e; cases e
  have ne : ∀ c q, delM μ p c = some (.tab q) → μ c = some (.tab q) := fun c q e => by
    by_cases z : c = p
    · rw [z, delM_same] at e; cases e
    · rw [delM_ne z] at e
      exact e
  have k2 : OK K S (delM μ p) H := ⟨k.sub, fun a m' e' => by
    by_cases q : a = p
    · subst q; rw [delM_same] at e'; cases e'
    · rw [delM_ne q] at e'; exact k.mts a m' e', k.nst, k.one.imp fun _ h a q e => h a q (ne a q e)⟩
  refine ⟨k2.take h hS delM_same ho, same_updn hS, fun b x e' => ?_, fun b x e' _ _ => e', fun b m' e' => ?_⟩
  · by_cases q : b = p
    · exact .inr (.inl (.inr ⟨m, q ▸ e⟩))
    · rw [upd_ne q] at e'; exact .inl e'
  · by_cases q : b = p
    · subst q; rw [delM_same] at e'; cases e'
    · rw [delM_ne q] at e'; exact .inr ⟨m', e'⟩
end

/-! ### environments -/
abbrev EV := List (Option D)
def gt : EV → Nat → Option D
  | [], _ => none
  | x :: _, 0 => x
  | _ :: r, n + 1 => gt r n
def st : EV → Nat → D → EV
  | [], _, _ => []
  | _ :: r, 0, d => some d :: r
  | x :: r, n + 1, d => x :: st r n d
def rm : EV → Nat → EV
  | [], _ => []
  | _ :: r, 0 => none :: r
  | x :: r, n + 1 => x :: rm r n
inductive RepE (K : PySem.W.Frag) (S : Hp) : L2.St → EV → Prop
  | nil : RepE K S [] []
  | no {o : Option V} {σ : L2.St} {ρ : EV} : RepE K S σ ρ → RepE K S (o :: σ) (none :: ρ)
  | so {v : V} {d : D} {σ : L2.St} {ρ : EV} : Rep K S v d → RepE K S σ ρ → RepE K S (some v :: σ) (some d :: ρ)
section
variable {K : PySem.W.Frag} {S S' : Hp}
theorem RepE.mono (e : Same S S') : ∀ {σ : L2.St} {ρ : EV}, RepE K S σ ρ → RepE K S' σ ρ
  | _, _, .nil => .nil
  | _, _, .no r => .no (RepE.mono e r)
  | _, _, .so h r => .so (h.mono e) (RepE.mono e r)
theorem RepE.get : ∀ {σ : L2.St} {ρ : EV} {i : Nat} {d : D}, RepE K S σ ρ → gt ρ i = some d → ∃ v, σ[i]? = some (some v) ∧ Rep K S v d
  | _, _, _, _, .nil, e => by cases e
  | _, _, 0, _, .no r, e => by cases e
  | _, _, i + 1, _, .no r, e => by
    obtain ⟨v, h1, h2⟩ := RepE.get r e
    exact ⟨v, by simpa using h1, h2⟩
  | _, _, 0, _, .so h r, e => by cases e; exact ⟨_, rfl, h⟩
  | _, _, i + 1, _, .so h r, e => by
    obtain ⟨v, h1, h2⟩ := RepE.get r e
    exact ⟨v, by simpa using h1, h2⟩
theorem RepE.set {v : V} {d : D} (h : Rep K S v d) : ∀ {σ : L2.St} {ρ : EV} (i : Nat), RepE K S σ ρ → RepE K S (σ.set i (some v)) (st ρ i d)
  | _, _, _, .nil => .nil
  | _, _, 0, .no r => .so h r
  | _, _, i + 1, .no r => .no (RepE.set h i r)
  | _, _, 0, .so _ r => .so h r
  | _, _, i + 1, .so q r => .so q (RepE.set h i r)
theorem RepE.rm : ∀ {σ : L2.St} {ρ : EV} (i : Nat), RepE K S σ ρ → RepE K S (σ.set i none) (rm ρ i)
  | _, _, _, .nil => .nil
  | _, _, 0, .no r => .no r
  | _, _, i + 1, .no r => .no (RepE.rm i r)
  | _, _, 0, .so _ r => .no r
  | _, _, i + 1, .so q r => .so q (RepE.rm i r)
def rms (ρ : EV) : List Nat → EV
  | [] => ρ
  | v :: vs => L3.rm (rms ρ vs) v
theorem RepE.wipe {σ : L2.St} {ρ : EV} (h : RepE K S σ ρ) : ∀ (vs : List Nat), RepE K S (wipe σ vs) (rms ρ vs)
  | [] => h
  | v :: vs => RepE.rm v (RepE.wipe h vs)
def startD (n : Nat) (ds : List D) : EV := ds.map some ++ List.replicate (n - ds.length) none
theorem repE_blank : ∀ n : Nat, RepE K S (List.replicate n none) (List.replicate n none)
  | 0 => .nil
  | n + 1 => .no (repE_blank n)
theorem repE_vals : ∀ {vs : List V} {ds : List D} {σ : L2.St} {ρ : EV}, Reps K S vs ds → RepE K S σ ρ → RepE K S (vs.map some ++ σ) (ds.map some ++ ρ)
  | _, _, _, _, .nil, h => h
  | _, _, _, _, .cons h r, h2 => .so h (repE_vals r h2)
theorem repE_start {N : List Str} {vs : List V} {ds : List D} (h : Reps K S vs ds) : RepE K S (L2.start N vs) (startD N.length ds) := by
  unfold L2.start startD
  rw [h.length]
  exact repE_vals h (repE_blank _)
end

/-! ### readings -/
abbrev RX := EV → MH → (D → MH → Prop) → Prop
abbrev RT := EV → MH → (Bool → MH → Prop) → Prop
abbrev RA := EV → MH → (List D → MH → Prop) → Prop
structure Ed where
  nx : EV → MH → Prop
  rt : D → MH → Prop
  bk : EV → MH → Prop := fun _ _ => False
  ct : EV → MH → Prop := fun _ _ => False
  /-- an error leaves: its class, its attributes -/
  ex : Addr → List (Str × D) → MH → Prop := fun _ _ _ => False
abbrev RS := Ed → EV → MH → Prop
def up (K : PySem.W.Frag) (f : RX) : TE := fun σ H Q => ∃ S μ ρ R, OK K S μ H ∧ RepE K S σ ρ ∧ f ρ μ R ∧
  ∀ S' μ' H' v d, OK K S' μ' H' → Stp S μ H S' μ' H' → Rep K S' v d → R d μ' → Q v H'
def upT (K : PySem.W.Frag) (f : RT) : TT := fun σ H Q => ∃ S μ ρ R, OK K S μ H ∧ RepE K S σ ρ ∧ f ρ μ R ∧
  ∀ S' μ' H' b, OK K S' μ' H' → Stp S μ H S' μ' H' → R b μ' → Q b H'
def upA (K : PySem.W.Frag) (f : RA) : TA := fun σ H Q => ∃ S μ ρ R, OK K S μ H ∧ RepE K S σ ρ ∧ f ρ μ R ∧
  ∀ S' μ' H' vs ds, OK K S' μ' H' → Stp S μ H S' μ' H' → Reps K S' vs ds → R ds μ' → Q vs H'
structure Lk (K : PySem.W.Frag) (S : Hp) (μ : MH) (H : Hp) (D : Ends) (DD : Ed) : Prop where
  nx : ∀ S' μ' H' σ' ρ', OK K S' μ' H' → Stp S μ H S' μ' H' → RepE K S' σ' ρ' → DD.nx ρ' μ' → D.nx σ' H'
  rt : ∀ S' μ' H' v d, OK K S' μ' H' → Stp S μ H S' μ' H' → Rep K S' v d → DD.rt d μ' → D.rt v H'
  bk : ∀ S' μ' H' σ' ρ', OK K S' μ' H' → Stp S μ H S' μ' H' → RepE K S' σ' ρ' → DD.bk ρ' μ' → D.bk σ' H'
  ct : ∀ S' μ' H' σ' ρ', OK K S' μ' H' → Stp S μ H S' μ' H' → RepE K S' σ' ρ' → DD.ct ρ' μ' → D.ct σ' H'
theorem Lk.stp {K : PySem.W.Frag} {S S' H H' : Hp} {μ μ' : MH} {D : Ends} {DD : Ed} (l : Lk K S μ H D DD) (s : Stp S μ H S' μ' H') : Lk K S' μ' H' D DD :=
  ⟨fun _ _ _ _ _ k s2 => l.nx _ _ _ _ _ k (s.trans s2), fun _ _ _ _ _ k s2 => l.rt _ _ _ _ _ k (s.trans s2), fun _ _ _ _ _ k s2 => l.bk _ _ _ _ _ k (s.trans s2), fun _ _ _ _ _ k s2 => l.ct _ _ _ _ _ k (s.trans s2)⟩
def upS (K : PySem.W.Frag) (f : RS) : TS := fun D σ H => ∃ S μ ρ DD, OK K S μ H ∧ RepE K S σ ρ ∧ f DD ρ μ ∧ Lk K S μ H D DD
abbrev DE (X : Cx) (e : Expr) (f : RX) : Prop := PE X e (up X.K f)
abbrev DT (X : Cx) (e : Expr) (f : RT) : Prop := PT X e (upT X.K f)
abbrev DW (X : Cx) (e : Expr) (f : RT) : Prop := PW X e (upT X.K f)
abbrev DA (X : Cx) (es : List Expr) (f : RA) : Prop := PA X es (upA X.K f)
abbrev DS (X : Cx) (s : Stmt) (f : RS) : Prop := PS X s (upS X.K f)
abbrev DSs (X : Cx) (s : List Stmt) (f : RS) : Prop := PSs X s (upS X.K f)
section
variable {X : Cx}
theorem pe_imp {e : Expr} {t u : TE} (h : PE X e t) (i : ∀ σ H Q, u σ H Q → t σ H Q) : PE X e u := ⟨fun pins s σ H Q I q => h.run pins s σ H Q I (i σ H Q q)⟩
theorem pt_imp {e : Expr} {t u : TT} (h : PT X e t) (i : ∀ σ H Q, u σ H Q → t σ H Q) : PT X e u := ⟨fun pins s σ H Q I q => h.run pins s σ H Q I (i σ H Q q)⟩
theorem pw_imp {e : Expr} {t u : TT} (h : PW X e t) (i : ∀ σ H Q, u σ H Q → t σ H Q) : PW X e u := ⟨fun w pins s σ H Q I q => h.run w pins s σ H Q I (i σ H Q q)⟩
theorem pa_imp {es : List Expr} {t u : TA} (h : PA X es t) (i : ∀ σ H Q, u σ H Q → t σ H Q) : PA X es u := ⟨fun pos pins s σ H Q I q => h.run pos pins s σ H Q I (i σ H Q q)⟩
theorem ps_imp {st : Stmt} {t u : TS} (h : PS X st t) (i : ∀ D σ H, u D σ H → t D σ H) : PS X st u := ⟨fun pins s σ H D I q => h.run pins s σ H D I (i D σ H q)⟩
theorem pss_imp {st : List Stmt} {t u : TS} (h : PSs X st t) (i : ∀ D σ H, u D σ H → t D σ H) : PSs X st u := ⟨fun pins s σ H D I q => h.run pins s σ H D I (i D σ H q)⟩
end
end L3

/-! ## L3b -/
set_option Elab.async false
set_option linter.all false
set_option maxRecDepth 100000
set_option maxHeartbeats 4000000
namespace L3
open PySem PySem.Spec PyProof.Rows L2

/-! ### sizes -/
/-- below 2 ^ n in size -/
def Bt (n : Nat) (i : Int) : Prop := i.natAbs < 2 ^ n
abbrev big : Nat := 8000
theorem Bt.log2 {n : Nat} {i : Int} (h : Bt n i) (h0 : 0 < n) : i.natAbs.log2 < n := PySem.Flt.log2_lt_of h0 h
def CBig (i j : Int) : Prop := Bt big i ∧ Bt big j
def CDivX (_ j : Int) : Prop := j ≠ 0 ∧ Bt big j
theorem op_mulX {X : Cx} : OpR X (binaryOp .Mult) (rI CBig fun i j => .int (i * j)) := opI fun i j _ _ _ _ _ hc q => mul_int q (CMulW.ok (by
  have h1 := hc.1.log2 (by decide)
  have h2 := hc.2.log2 (by decide)
  have h3 : big = 8000 := rfl
  unfold CMulW
  omega))
theorem op_fdivX {X : Cx} : OpR X (binaryOp .FloorDiv) (rI CDivX fun i j => .int (i.fdiv j)) := opI fun i j _ _ _ _ _ hc q => floordiv_int hc.1 q (.inl (PyProof.noPylong_of_log2 (Nat.lt_trans (hc.2.log2 (by decide)) (by decide))))

/-! ### what is seen through a changeable list -/
def res (μ : MH) : D → D
  | .ref p => match μ p with
    | some (.lst ds) => .lst ds
    | _ => .ref p
  | d => d
section
variable {K : PySem.W.Frag} {S H : Hp} {μ : MH}
/-- the data d as the value v has it now, in H -/
theorem res_lst {v : V} {d : D} {ds : List D} (k : OK K S μ H) (r : Rep K S v d) (e : res μ d = .lst ds) : ∃ p vs, v = .ref p ∧ H p = some (.lst vs) ∧ Reps K S vs ds := by
  cases r with
  | ref p =>
    unfold res at e
    dsimp only at e
    cases q : μ p with
    | none => rw [q] at e; cases e
    | some m =>
      rw [q] at e
      cases m with
      | lst es =>
        cases e
        obtain ⟨_, vs, h, r⟩ := k.mts p _ q
        exact ⟨p, vs, rfl, h, r⟩
      | ins C fs => cases e
      | tab _ => cases e
      | dk _ => cases e
      | dct _ _ => cases e
      | dkl _ _ _ => cases e
  | lst h r => cases e; exact ⟨_, _, rfl, k.sub _ _ h, r⟩
  | _ => cases e
theorem res_tup {v : V} {d : D} {ds : List D} (r : Rep K S v d) (e : res μ d = .tup ds) : d = .tup ds := by
  cases r with
  | ref p =>
    unfold res at e
    dsimp only at e
    cases q : μ p with
    | none => rw [q] at e; cases e
    | some m =>
      rw [q] at e
      cases m <;> cases e
  | _ => exact e
theorem Rep.toTup {v : V} {ds : List D} (r : Rep K S v (.tup ds)) : ∃ p vs, v = .ref p ∧ SqT K S p vs ∧ Reps K S vs ds := by
  cases r with
  | tup h r => exact ⟨_, _, rfl, h, r⟩
theorem Rep.toInt {v : V} {i : Int} (r : Rep K S v (.int i)) : v = .int i := by cases r; rfl
theorem Rep.toBl {v : V} {i : Bool} (r : Rep K S v (.bl i)) : v = .bl i := by cases r; rfl
theorem Rep.toStr {v : V} {i : Str} (r : Rep K S v (.str i)) : v = .str i := by cases r; rfl
theorem Rep.toNon {v : V} (r : Rep K S v .non) : v = .non := by cases r; rfl
theorem Rep.toRef {v : V} {a : Addr} (r : Rep K S v (.ref a)) : v = .ref a := by cases r; rfl
/-- a list or tuple that may be read: its items -/
def seqD : D → Option (List D)
  | .lst ds => some ds
  | .tup ds => some ds
  | _ => none
theorem seq_rep {v : V} {d : D} {ds : List D} (k : OK K S μ H) (r : Rep K S v d) (e : seqD (res μ d) = some ds) : ∃ p vs, v = .ref p ∧ (SqL K H p vs ∨ SqT K H p vs) ∧ Reps K S vs ds := by
  cases q : res μ d with
  | lst es =>
    rw [q] at e; cases e
    obtain ⟨p, vs, h1, h2, h3⟩ := res_lst k r q
    exact ⟨p, vs, h1, .inl (.of h2), h3⟩
  | tup es =>
    rw [q] at e; cases e
    have z := res_tup r q
    subst z
    obtain ⟨p, vs, h1, h2, h3⟩ := r.toTup
    exact ⟨p, vs, h1, .inr (sqT_same k.sub h2), h3⟩
  | _ => rw [q] at e; cases e
end

/-! ### pure data: == -/
mutual
def toPy : D → PyData
  | .bl b => .bool b
  | .int i => .int i
  | .str x => .str x
  | .tup ds => .tuple (toPys ds)
  | .lst ds => .list (toPys ds)
  | _ => .none
def toPys : List D → List PyData
  | [] => []
  | d :: r => toPy d :: toPys r
end
def pureN : Nat → D → Bool
  | _, .non => true
  | _, .bl _ => true
  | _, .int _ => true
  | _, .str x => PyData.strOk x
  | n + 1, .tup ds => ds.all (pureN n)
  | n + 1, .lst ds => ds.all (pureN n)
  | _, _ => false
/-- == of pure data -/
def deq (a b : D) : Bool := PyData.eqv (toPy a) (toPy b)
theorem deq_int (i j : Int) : deq (.int i) (.int j) = (i == j) := rfl
theorem deq_bl (i j : Bool) : deq (.bl i) (.bl j) = (i == j) := rfl
theorem deq_str (i j : Str) : deq (.str i) (.str j) = (i == j) := rfl
theorem deq_non : deq .non .non = true := rfl
theorem deq_tt (a b : D) (as bs : List D) : deq (.tup (a :: as)) (.tup (b :: bs)) = (deq a b && deq (.tup as) (.tup bs)) := rfl
theorem deq_t0 : deq (.tup []) (.tup []) = true := rfl
section
variable {K : PySem.W.Frag} {S H : Hp}
theorem pure_laid : ∀ (n : Nat) (d : D), pureN n d = true → (toPy d).canLay0 = true ∧ (toPy d).depth ≤ n := by
  intro n
  induction n with
  | zero =>
    intro d h
    cases d <;> first | exact ⟨rfl, Nat.le_refl _⟩ | exact ⟨h, Nat.le_refl _⟩ | cases h
  | succ n ih =>
    have all : ∀ ds : List D, ds.all (pureN n) = true → PyData.canLayAll0 (toPys ds) = true ∧ PyData.depthAll (toPys ds) ≤ n := by
      intro ds
      induction ds with
      | nil => intro _; exact ⟨rfl, Nat.zero_le _⟩
      | cons d r ihr =>
        intro h
        rw [List.all_cons, Bool.and_eq_true] at h
        obtain ⟨a1, a2⟩ := ih d h.1
        obtain ⟨b1, b2⟩ := ihr h.2
        refine ⟨?_, ?_⟩
        · show (PyData.canLay0 (toPy d) && PyData.canLayAll0 (toPys r)) = true
          rw [a1, b1]; rfl
        · show max (PyData.depth (toPy d)) (PyData.depthAll (toPys r)) ≤ n
          omega
    intro d h
    cases d with
    | tup ds =>
      obtain ⟨h1, h2⟩ := all ds h
      exact ⟨h1, Nat.succ_le_succ h2⟩
    | lst ds =>
      obtain ⟨h1, h2⟩ := all ds h
      exact ⟨h1, Nat.succ_le_succ h2⟩
    | non => exact ⟨rfl, Nat.zero_le _⟩
    | bl b => exact ⟨rfl, Nat.zero_le _⟩
    | int i => exact ⟨rfl, Nat.zero_le _⟩
    | str x => exact ⟨h, Nat.zero_le _⟩
    | _ => cases h
theorem pure_shaped {n : Nat} {d : D} (h : pureN n d = true) (hn : n ≤ 64) : SeqAt.shaped (toPy d) = true := by
  obtain ⟨h1, h2⟩ := pure_laid n d h
  exact Bool.and_eq_true_iff.mpr ⟨h1, decide_eq_true (Nat.le_trans h2 hn)⟩
mutual
theorem Rep.dp : ∀ {n : Nat} {v : V} {d : D}, Rep K S v d → pureN n d = true → Dp K S v (toPy d)
  | _, _, _, .non, _ => .non
  | _, _, _, .bl b, _ => .bl b
  | _, _, _, .int i, _ => .int i
  | _, _, _, .str x, _ => .str x
  | n + 1, _, _, .tup h r, p => .tup h (Reps.dp (n := n) r p)
  | n + 1, _, _, .lst h r, p => .lst (.of h) (Reps.dp (n := n) r p)
  | 0, _, _, .tup h r, p => by cases p
  | 0, _, _, .lst h r, p => by cases p
  | 0, _, _, .ins h r, p => by cases p
  | n + 1, _, _, .ins h r, p => by cases p
  | 0, _, _, .scr h r, p => by cases p
  | n + 1, _, _, .scr h r, p => by cases p
  | 0, _, _, .ref a, p => by cases p
  | n + 1, _, _, .ref a, p => by cases p
  | 0, _, _, .ty a, p => by cases p
  | n + 1, _, _, .ty a, p => by cases p
theorem Reps.dp : ∀ {n : Nat} {vs : List V} {ds : List D}, Reps K S vs ds → ds.all (pureN n) = true → DpAll K S vs (toPys ds)
  | _, _, _, .nil, _ => .nil
  | n, _, _, .cons h r, p => by
    rw [List.all_cons, Bool.and_eq_true] at p
    exact .cons (Rep.dp h p.1) (Reps.dp r p.2)
end
mutual
theorem Dp.same {S' : Hp} (e : Same S S') : ∀ {v : V} {d : PyData}, Dp K S v d → Dp K S' v d
  | _, _, .non => .non
  | _, _, .bl b => .bl b
  | _, _, .int b => .int b
  | _, _, .str b => .str b
  | _, _, .lst h r => .lst (sqL_same e h) (DpAll.same e r)
  | _, _, .tup h r => .tup (sqT_same e h) (DpAll.same e r)
theorem DpAll.same {S' : Hp} (e : Same S S') : ∀ {v : List V} {d : List PyData}, DpAll K S v d → DpAll K S' v d
  | _, _, .nil => .nil
  | _, _, .cons h r => .cons (Dp.same e h) (DpAll.same e r)
end
theorem res_dp {μ : MH} {n : Nat} {v : V} {d : D} (k : OK K S μ H) (r : Rep K S v d) (p : pureN n (res μ d) = true) : Dp K H v (toPy (res μ d)) := by
  cases q : res μ d with
  | lst ds =>
    obtain ⟨a, vs, rfl, h, r2⟩ := res_lst k r q
    rw [q] at p
    cases n with
    | zero => cases p
    | succ n => exact .lst (.of h) (DpAll.same k.sub (Reps.dp (n := n) r2 p))
  | _ =>
    rw [← q]
    have e : res μ d = d := by
      cases d with
      | ref a =>
        unfold res at q ⊢
        dsimp only at q ⊢
        cases w : μ a with
        | none => rfl
        | some m => rw [w] at q; cases m <;> first | rfl | cases q
      | _ => rfl
    rw [e] at p ⊢
    exact Dp.same k.sub (r.dp p)
end

/-! ### values by values -/
abbrev G2 := D → D → MH → (D → MH → Prop) → Prop
abbrev G1 := D → MH → (D → MH → Prop) → Prop
abbrev GN := List D → MH → (D → MH → Prop) → Prop
abbrev Pst (K : PySem.W.Frag) (S : Hp) (μ : MH) (H : Hp) (R : D → MH → Prop) (Q : VK) : Prop := ∀ S' μ' H' v d, OK K S' μ' H' → Stp S μ H S' μ' H' → Rep K S' v d → R d μ' → Q v H'
def Snd2 (K : PySem.W.Frag) (r : R2) (g : G2) : Prop := ∀ S μ H x y dx dy R Q, OK K S μ H → Rep K S x dx → Rep K S y dy → g dx dy μ R → Pst K S μ H R Q → r x y H Q
def Snd1 (K : PySem.W.Frag) (r : V → Hp → VK → Prop) (g : G1) : Prop := ∀ S μ H x dx R Q, OK K S μ H → Rep K S x dx → g dx μ R → Pst K S μ H R Q → r x H Q
def SndN (K : PySem.W.Frag) (r : List V → Hp → VK → Prop) (g : GN) : Prop := ∀ S μ H xs dxs R Q, OK K S μ H → Reps K S xs dxs → g dxs μ R → Pst K S μ H R Q → r xs H Q
def rOp (g : G2) (fa fb : RX) : RX := fun ρ μ R => fa ρ μ fun x μ1 => fb ρ μ1 fun y μ2 => g x y μ2 R
def rUn (g : G1) (fa : RX) : RX := fun ρ μ R => fa ρ μ fun x μ1 => g x μ1 R
def rCl (g : GN) (fa : RA) : RX := fun ρ μ R => fa ρ μ fun xs μ1 => g xs μ1 R
section
variable {K : PySem.W.Frag}
theorem up_op {r : R2} {g : G2} (s : Snd2 K r g) {fa fb : RX} : ∀ σ H Q, up K (rOp g fa fb) σ H Q → tOp r (up K fa) (up K fb) σ H Q := by
  rintro σ H Q ⟨S, μ, ρ, R, k, e, h, post⟩
  refine ⟨S, μ, ρ, _, k, e, h, fun S1 μ1 H1 v1 d1 k1 s1 r1 h1 => ?_⟩
  refine ⟨S1, μ1, ρ, _, k1, e.mono s1.same, h1, fun S2 μ2 H2 v2 d2 k2 s2 r2 h2 => ?_⟩
  exact s S2 μ2 H2 v1 v2 d1 d2 R Q k2 (r1.mono s2.same) r2 h2 fun S3 μ3 H3 v d k3 s3 r3 h3 => post S3 μ3 H3 v d k3 ((s1.trans s2).trans s3) r3 h3
theorem up_un {r : V → Hp → VK → Prop} {g : G1} (s : Snd1 K r g) {fa : RX} : ∀ σ H Q, up K (rUn g fa) σ H Q → tUn r (up K fa) σ H Q := by
  rintro σ H Q ⟨S, μ, ρ, R, k, e, h, post⟩
  refine ⟨S, μ, ρ, _, k, e, h, fun S1 μ1 H1 v1 d1 k1 s1 r1 h1 => ?_⟩
  exact s S1 μ1 H1 v1 d1 R Q k1 r1 h1 fun S3 μ3 H3 v d k3 s3 r3 h3 => post S3 μ3 H3 v d k3 (s1.trans s3) r3 h3
theorem up_cl {r : List V → Hp → VK → Prop} {g : GN} (s : SndN K r g) {fa : RA} : ∀ σ H Q, up K (rCl g fa) σ H Q → tCB r (upA K fa) σ H Q := by
  rintro σ H Q ⟨S, μ, ρ, R, k, e, h, post⟩
  refine ⟨S, μ, ρ, _, k, e, h, fun S1 μ1 H1 v1 d1 k1 s1 r1 h1 => ?_⟩
  exact s S1 μ1 H1 v1 d1 R Q k1 r1 h1 fun S3 μ3 H3 v d k3 s3 r3 h3 => post S3 μ3 H3 v d k3 (s1.trans s3) r3 h3
end

/-! ### names, constants -/
def rVar (i : Nat) : RX := fun ρ μ R => match gt ρ i with
  | some d => R d μ
  | none => False
def rC (d : D) : RX := fun _ μ R => R d μ
/-- the list in slot i becomes data -/
def frz (d : D) (μ : MH) (R : D → MH → Prop) : Prop := match d with
  | .ref p => (match μ p with
    | some (.lst ds) => R (.lst ds) (delM μ p)
    | _ => R d μ)
  | _ => R d μ
def rFrz (f : RX) : RX := fun ρ μ R => f ρ μ fun d μ1 => frz d μ1 R
section
variable {X : Cx}
theorem de_var (i : Nat) {x : Str} {pos : Pos} (hN : X.N[i]? = some x := by rfl) (hv : Vis X.env.scope x := by first | exact Or.inl rfl | exact Or.inr (Or.inl rfl) | exact Or.inr (Or.inr rfl)) (hd : (x == ("__debug__" : Str)) = false := by decide)
    (hcd : (x == ("__classdict__" : Str)) = false := by decide) : DE X (.Name x pos) (rVar i) := pe_imp (pe_var hN hv hd hcd) fun σ H Q ⟨S, μ, ρ, R, k, e, h, post⟩ => by
  unfold rVar at h
  cases q : gt ρ i with
  | none => rw [q] at h; exact h.elim
  | some d =>
    rw [q] at h
    obtain ⟨v, h1, h2⟩ := e.get q
    exact ⟨v, h1, post S μ H v d k .refl h2 h⟩
theorem up_c {K : PySem.W.Frag} {v : V} {d : D} (r : ∀ S, Rep K S v d) : ∀ σ H Q, up K (rC d) σ H Q → tC v σ H Q := fun σ H Q ⟨S, μ, ρ, R, k, e, h, post⟩ => post S μ H v d k .refl (r S) h
theorem de_int {i j pos} : DE X (.Constant (.int i) j pos) (rC (.int i)) := pe_imp pe_int (up_c fun _ => .int i)
theorem de_bl {b j pos} : DE X (.Constant (.bool b) j pos) (rC (.bl b)) := pe_imp pe_bl (up_c fun _ => .bl b)
theorem de_non {j pos} : DE X (.Constant .none j pos) (rC .non) := pe_imp pe_non (up_c fun _ => .non)
theorem de_str {x j pos} : DE X (.Constant (.str x) j pos) (rC (.str x)) := pe_imp pe_str (up_c fun _ => .str x)
theorem de_glob {x : Str} {v : V} {d : D} {u : Value} {pos : Pos} (hg : Gl X x) (hm : X.mg x = some u) (r : RelV v u) (q : ∀ S, Rep X.K S v d) (hd : (x == ("__debug__" : Str)) = false := by decide) : DE X (.Name x pos) (rC d) :=
  pe_imp (pe_glob hg hm r hd) (up_c q)
theorem de_ty {x : Str} {n : String} {pos : Pos} (hg : Gl X x) (hm : X.mg x = none) (hv : bootBuiltins x = some (.type n)) (hn : x ≠ "__name__" := by decide) (hd : (x == ("__debug__" : Str)) = false := by decide) : DE X (.Name x pos) (rC (.ty n)) :=
  pe_imp (pe_bltn (v := .ty n) hg hm hv rfl hn hd) (up_c fun _ => .ty n)
theorem de_frz {e : Expr} {f : RX} (h : DE X e f) : DE X e (rFrz f) := pe_imp h fun σ H Q ⟨S, μ, ρ, R, k, e, h, post⟩ => by
  refine ⟨S, μ, ρ, _, k, e, h, fun S1 μ1 H1 v1 d1 k1 s1 r1 h1 => ?_⟩
  cases d1 with
  | ref p =>
    cases q : μ1 p with
    | none =>
      have h1 : R (.ref p) μ1 := by
        unfold frz at h1; dsimp only at h1; rw [q] at h1; exact h1
      exact post S1 μ1 H1 v1 _ k1 s1 r1 h1
    | some m =>
      cases m with
      | lst ds =>
        have h1 : R (.lst ds) (delM μ1 p) := by
          unfold frz at h1; dsimp only at h1; rw [q] at h1; exact h1
        obtain ⟨_, vs, e1, r2⟩ := k1.mts p _ q
        obtain ⟨k2, s2⟩ := k1.freeze q e1
        cases r1.toRef
        exact post _ _ H1 _ _ k2 (s1.trans s2) (.lst upd_same (r2.mono s2.same)) h1
      | ins C fs =>
        have h1 : R (.ref p) μ1 := by
          unfold frz at h1; dsimp only at h1; rw [q] at h1; exact h1
        exact post S1 μ1 H1 v1 _ k1 s1 r1 h1
      | tab _ =>
        have h1 : R (.ref p) μ1 := by
          unfold frz at h1; dsimp only at h1; rw [q] at h1; exact h1
        exact post S1 μ1 H1 v1 _ k1 s1 r1 h1
      | dk _ =>
        have h1 : R (.ref p) μ1 := by
          unfold frz at h1; dsimp only at h1; rw [q] at h1; exact h1
        exact post S1 μ1 H1 v1 _ k1 s1 r1 h1
      | dct _ _ =>
        have h1 : R (.ref p) μ1 := by
          unfold frz at h1; dsimp only at h1; rw [q] at h1; exact h1
        exact post S1 μ1 H1 v1 _ k1 s1 r1 h1
      | dkl _ _ _ =>
        have h1 : R (.ref p) μ1 := by
          unfold frz at h1; dsimp only at h1; rw [q] at h1; exact h1
        exact post S1 μ1 H1 v1 _ k1 s1 r1 h1
  | _ => exact post S1 μ1 H1 v1 _ k1 s1 r1 h1
end

/-! ### operators -/
def gI (c : Int → Int → Prop) (f : Int → Int → D) : G2 := fun x y μ R => match x, y with
  | .int i, .int j => c i j ∧ R (f i j) μ
  | _, _ => False
def gI0 (f : Int → Int → D) : G2 := fun x y μ R => match x, y with
  | .int i, .int j => R (f i j) μ
  | _, _ => False
def gU (f : Int → D) : G1 := fun x μ R => match x with
  | .int i => R (f i) μ
  | _ => False
theorem snd_I {K : PySem.W.Frag} {c : Int → Int → Prop} {f : Int → Int → D} {g : Int → Int → V} (h : ∀ i j S, Rep K S (g i j) (f i j)) : Snd2 K (rI c g) (gI c f) := by
  intro S μ H x y dx dy R Q k rx ry q post
  cases dx <;> cases dy <;> first | exact False.elim q | skip
  cases rx.toInt
  cases ry.toInt
  exact ⟨_, _, rfl, rfl, q.1, post S μ H _ _ k .refl (h _ _ S) q.2⟩
theorem snd_I0 {K : PySem.W.Frag} {f : Int → Int → D} {g : Int → Int → V} (h : ∀ i j S, Rep K S (g i j) (f i j)) : Snd2 K (rI0 g) (gI0 f) := by
  intro S μ H x y dx dy R Q k rx ry q post
  cases dx <;> cases dy <;> first | exact False.elim q | skip
  cases rx.toInt
  cases ry.toInt
  exact ⟨_, _, rfl, rfl, post S μ H _ _ k .refl (h _ _ S) q⟩
def gAdd : G2 := fun x y μ R => match x, y with
  | .int i, .int j => R (.int (i + j)) μ
  | .str i, .str j => i.length + j.length ≤ sizeLine ∧ R (.str (i ++ j)) μ
  | .tup a, .tup b => a.length + b.length ≤ sizeLine ∧ R (.tup (a ++ b)) μ
  | _, _ => match res μ x, res μ y with
    | .lst a, .lst b => a.length + b.length ≤ sizeLine ∧ R (.lst (a ++ b)) μ
    | _, _ => False
/-- the new list may be changed later -/
def gAddM : G2 := fun x y μ R => match res μ x, res μ y with
    | .lst a, .lst b => a.length + b.length ≤ sizeLine ∧ ∀ p, μ p = none → R (.ref p) (updM μ p (.lst (a ++ b)))
    | _, _ => False
section
variable {K : PySem.W.Frag} {X : Cx} {a b : Expr} {fa fb : RX} {pos : Pos}
theorem snd_cat : Snd2 K (rCatA K) (fun x y μ R => match x, y with
  | .tup a, .tup b => a.length + b.length ≤ sizeLine ∧ R (.tup (a ++ b)) μ
  | _, _ => False) := by
  intro S μ H x y dx dy R Q k rx ry q post
  cases dx <;> cases dy <;> first | exact False.elim q | skip
  obtain ⟨a, vs, rfl, h1, r1⟩ := rx.toTup
  obtain ⟨b, ws, rfl, h2, r2⟩ := ry.toTup
  obtain ⟨q1, q⟩ := q
  refine ⟨a, b, vs, ws, rfl, rfl, sqT_same k.sub h1, sqT_same k.sub h2, by rw [r1.length, r2.length]; exact q1, fun e => ?_, fun _ e => ?_, fun _ _ p hp => ?_⟩
  · subst e
    cases r1
    exact post S μ H _ _ k .refl ry q
  · subst e
    cases r2
    rw [List.append_nil] at q
    exact post S μ H _ _ k .refl rx q
  · obtain ⟨k2, s2⟩ := k.alloc (o := .tup (vs ++ ws)) hp
    exact post _ μ _ _ _ k2 s2 (.tup (.of upd_same) ((r1.append r2).mono s2.same)) q
theorem snd_catL : Snd2 K rCat (fun x y μ R => match res μ x, res μ y with
    | .lst a, .lst b => a.length + b.length ≤ sizeLine ∧ R (.lst (a ++ b)) μ
    | _, _ => False) := by
  intro S μ H x y dx dy R Q k rx ry q post
  cases e1 : res μ dx <;> rw [e1] at q <;> first | exact False.elim q | skip
  cases e2 : res μ dy <;> rw [e2] at q <;> first | exact False.elim q | skip
  obtain ⟨a, vs, rfl, h1, r1⟩ := res_lst k rx e1
  obtain ⟨b, ws, rfl, h2, r2⟩ := res_lst k ry e2
  obtain ⟨q1, q⟩ := q
  refine ⟨a, b, vs, ws, rfl, rfl, h1, h2, by rw [r1.length, r2.length]; exact q1, fun p hp => ?_⟩
  obtain ⟨k2, s2⟩ := k.alloc (o := .lst (vs ++ ws)) hp
  exact post _ μ _ _ _ k2 s2 (.lst upd_same ((r1.append r2).mono s2.same)) q
/-- a new changeable list -/
theorem OK.newM {S H : Hp} {μ : MH} {p : Addr} {vs : List V} {ds : List D} (k : OK K S μ H) (hp : H p = none) (r : Reps K S vs ds) : OK K S (updM μ p (.lst ds)) (upd H p (.lst vs)) ∧ Stp S μ H S (updM μ p (.lst ds)) (upd H p (.lst vs)) := by
  obtain ⟨hS, hM⟩ := k.free hp
  refine ⟨k.put hS ⟨vs, upd_same, r⟩, fun _ _ h => h, fun _ _ h => .inl h, fun b o e _ _ => ?_, fun b m e => ?_⟩
  · rw [upd_ne (ne_of_none e hp)]; exact e
  · by_cases q : b = p
    · exact .inl (q ▸ free_none hp)
    · rw [updM_ne q] at e; exact .inr ⟨m, e⟩
theorem snd_catLM : Snd2 K rCat gAddM := by
  intro S μ H x y dx dy R Q k rx ry q post
  unfold gAddM at q
  cases e1 : res μ dx <;> rw [e1] at q <;> first | exact False.elim q | skip
  cases e2 : res μ dy <;> rw [e2] at q <;> first | exact False.elim q | skip
  obtain ⟨a, vs, rfl, h1, r1⟩ := res_lst k rx e1
  obtain ⟨b, ws, rfl, h2, r2⟩ := res_lst k ry e2
  obtain ⟨q1, q⟩ := q
  refine ⟨a, b, vs, ws, rfl, rfl, h1, h2, by rw [r1.length, r2.length]; exact q1, fun p hp => ?_⟩
  obtain ⟨k2, s2⟩ := k.newM hp (r1.append r2)
  exact post _ _ _ _ _ k2 s2 (.ref p) (q p (k.free hp).2)
theorem snd_addstr : Snd2 K (fun x y H Q => ∃ i j, x = .str i ∧ y = .str j ∧ i.length + j.length ≤ sizeLine ∧ Q (.str (i ++ j)) H) (fun x y μ R => match x, y with
  | .str i, .str j => i.length + j.length ≤ sizeLine ∧ R (.str (i ++ j)) μ
  | _, _ => False) := by
  intro S μ H x y dx dy R Q k rx ry q post
  cases dx <;> cases dy <;> first | exact False.elim q | skip
  cases rx.toStr
  cases ry.toStr
  exact ⟨_, _, rfl, rfl, q.1, post S μ H _ _ k .refl (.str _) q.2⟩
theorem de_op {op : Operator} {r : R2} {g : G2} (ho : OpR X (binaryOp op) r) (s : Snd2 X.K r g) (ha : DE X a fa) (hb : DE X b fb) : DE X (.BinOp a op b pos) (rOp g fa fb) := pe_imp (pe_op ho ha hb) (up_op s)
theorem snd_add : Snd2 K (fun x y H Q => rI0 (fun i j => .int (i + j)) x y H Q ∨ (∃ i j, x = .str i ∧ y = .str j ∧ i.length + j.length ≤ sizeLine ∧ Q (.str (i ++ j)) H) ∨ rCatA K x y H Q ∨ rCat x y H Q) gAdd := by
  intro S μ H x y dx dy R Q k rx ry q post
  cases dx with
  | int i =>
    cases dy with
    | int j => exact .inl (snd_I0 (fun i j S => .int (i + j)) S μ H x y _ _ R Q k rx ry q post)
    | _ => exact .inr (.inr (.inr (snd_catL S μ H x y _ _ R Q k rx ry q post)))
  | str i =>
    cases dy with
    | str j => exact .inr (.inl (snd_addstr S μ H x y _ _ R Q k rx ry q post))
    | _ => exact .inr (.inr (.inr (snd_catL S μ H x y _ _ R Q k rx ry q post)))
  | tup i =>
    cases dy with
    | tup j => exact .inr (.inr (.inl (snd_cat S μ H x y _ _ R Q k rx ry q post)))
    | _ => exact .inr (.inr (.inr (snd_catL S μ H x y _ _ R Q k rx ry q post)))
  | _ => exact .inr (.inr (.inr (snd_catL S μ H x y _ _ R Q k rx ry q post)))
theorem de_add (ha : DE X a fa) (hb : DE X b fb) : DE X (.BinOp a .Add b pos) (rOp gAdd fa fb) := de_op (op_add.or (op_add_str.or (op_catA.or op_cat))) snd_add ha hb
theorem de_addM (ha : DE X a fa) (hb : DE X b fb) : DE X (.BinOp a .Add b pos) (rOp gAddM fa fb) := de_op op_cat snd_catLM ha hb
abbrev gSub : G2 := gI0 fun i j => .int (i - j)
abbrev gMul : G2 := gI CBig fun i j => .int (i * j)
abbrev gDiv : G2 := gI CDivX fun i j => .int (i.fdiv j)
abbrev gMod : G2 := gI (fun _ j => j ≠ 0) fun i j => .int (i.fmod j)
abbrev gPow : G2 := gI CPow fun i j => .int (i ^ j.toNat)
theorem de_sub (ha : DE X a fa) (hb : DE X b fb) : DE X (.BinOp a .Sub b pos) (rOp gSub fa fb) := de_op op_sub (snd_I0 fun i j S => .int _) ha hb
theorem de_mul (ha : DE X a fa) (hb : DE X b fb) : DE X (.BinOp a .Mult b pos) (rOp gMul fa fb) := de_op op_mulX (snd_I fun i j S => .int _) ha hb
theorem de_div (ha : DE X a fa) (hb : DE X b fb) : DE X (.BinOp a .FloorDiv b pos) (rOp gDiv fa fb) := de_op op_fdivX (snd_I fun i j S => .int _) ha hb
theorem de_mod (ha : DE X a fa) (hb : DE X b fb) : DE X (.BinOp a .Mod b pos) (rOp gMod fa fb) := de_op op_modN (snd_I fun i j S => .int _) ha hb
theorem de_pow (ha : DE X a fa) (hb : DE X b fb) : DE X (.BinOp a .Pow b pos) (rOp gPow fa fb) := de_op op_pow (snd_I fun i j S => .int _) ha hb
theorem snd_U {f : Int → D} {g : Int → V} (h : ∀ i S, Rep K S (g i) (f i)) : Snd1 K (rU g) (gU f) := by
  intro S μ H x dx R Q k rx q post
  cases dx <;> first | exact False.elim q | skip
  cases rx.toInt
  exact ⟨_, rfl, post S μ H _ _ k .refl (h _ S) q⟩
theorem de_neg (ha : DE X a fa) : DE X (.UnaryOp .USub a pos) (rUn (gU fun i => .int (-i)) fa) := pe_imp (pe_un un_neg ha) (up_un (snd_U fun i S => .int _))
end

/-! ### comparisons -/
abbrev gLt : G2 := gI0 fun i j => .bl (decide (i < j))
abbrev gLe : G2 := gI0 fun i j => .bl (decide (i ≤ j))
abbrev gGt : G2 := gI0 fun i j => .bl (decide (j < i))
abbrev gGe : G2 := gI0 fun i j => .bl (decide (j ≤ i))
def gEq : G2 := fun x y μ R => pureN 20 (res μ x) = true ∧ pureN 20 (res μ y) = true ∧ R (.bl (deq (res μ x) (res μ y))) μ
def gNe : G2 := fun x y μ R => pureN 20 (res μ x) = true ∧ pureN 20 (res μ y) = true ∧ R (.bl (!deq (res μ x) (res μ y))) μ
/-- two ints, two texts, two bools: no stack is asked -/
def isNonD : D → Bool
  | .non => true
  | _ => false
def gIsN : G2 := fun x y μ R => match y with
  | .non => R (.bl (isNonD x)) μ
  | _ => False
def gNotN : G2 := fun x y μ R => match y with
  | .non => R (.bl (!isNonD x)) μ
  | _ => False
section
variable {K : PySem.W.Frag} {X : Cx} {a b c : Expr} {fa fb fc : RX} {pos : Pos}
theorem snd_eq : Snd2 K (rEqD K) gEq := by
  intro S μ H x y dx dy R Q k rx ry q post
  obtain ⟨p1, p2, q⟩ := q
  exact ⟨_, _, res_dp k rx p1, res_dp k ry p2, pure_shaped p1 (by decide), pure_shaped p2 (by decide), post S μ H _ _ k .refl (.bl _) q⟩
theorem snd_ne : Snd2 K (rNeD K) gNe := by
  intro S μ H x y dx dy R Q k rx ry q post
  obtain ⟨p1, p2, q⟩ := q
  exact ⟨_, _, res_dp k rx p1, res_dp k ry p2, pure_shaped p1 (by decide), pure_shaped p2 (by decide), post S μ H _ _ k .refl (.bl _) q⟩
theorem isNon_iff {S : Hp} {x : V} {d : D} (r : Rep K S x d) : decide (x = .non) = isNonD d := by
  cases r <;> first | rfl | exact decide_eq_false (fun h => nomatch h)
theorem snd_isN : Snd2 K (fun x y H Q => y = .non ∧ Q (.bl (decide (x = .non))) H) gIsN := by
  intro S μ H x y dx dy R Q k rx ry q post
  unfold gIsN at q
  cases dy <;> first | exact False.elim q | skip
  cases ry.toNon
  exact ⟨rfl, by rw [isNon_iff rx]; exact post S μ H _ _ k .refl (.bl _) q⟩
theorem snd_notN : Snd2 K (fun x y H Q => y = .non ∧ Q (.bl (!decide (x = .non))) H) gNotN := by
  intro S μ H x y dx dy R Q k rx ry q post
  unfold gNotN at q
  cases dy <;> first | exact False.elim q | skip
  cases ry.toNon
  exact ⟨rfl, by rw [isNon_iff rx]; exact post S μ H _ _ k .refl (.bl _) q⟩
theorem de_cmp {op : CmpOp} {r : R2} {g : G2} (ho : OpR X (compareOp op) r) (s : Snd2 X.K r g) (ha : DE X a fa) (hb : DE X b fb) (hm : behindInMarks op b = false) : DE X (.Compare a [op] [b] pos) (rOp g fa fb) := pe_imp (pe_cmpR ho ha hb hm) (up_op s)
theorem de_lt (ha : DE X a fa) (hb : DE X b fb) : DE X (.Compare a [.Lt] [b] pos) (rOp gLt fa fb) := de_cmp op_lt (snd_I0 fun i j S => .bl _) ha hb (nomark _)
theorem de_gt (ha : DE X a fa) (hb : DE X b fb) : DE X (.Compare a [.Gt] [b] pos) (rOp gGt fa fb) := de_cmp op_gt (snd_I0 fun i j S => .bl _) ha hb (nomark _)
theorem de_eq (hu : X.A.units + 64 < cLine) (ha : DE X a fa) (hb : DE X b fb) : DE X (.Compare a [.Eq] [b] pos) (rOp gEq fa fb) := de_cmp (op_eqD hu) snd_eq ha hb (nomark _)
theorem de_ne (hu : X.A.units + 64 < cLine) (ha : DE X a fa) (hb : DE X b fb) : DE X (.Compare a [.NotEq] [b] pos) (rOp gNe fa fb) := de_cmp (op_neD hu) snd_ne ha hb (nomark _)
theorem de_isN (ha : DE X a fa) (hb : DE X b fb) : DE X (.Compare a [.Is] [b] pos) (rOp gIsN fa fb) := de_cmp op_isN snd_isN ha hb (nomark _)
end

/-! ### tests -/
def rB (f : RX) : RT := fun ρ μ R => f ρ μ fun d μ1 => match d with
  | .bl b => R b μ1
  | _ => False
def rAnd (f g : RT) : RT := fun ρ μ R => f ρ μ fun b μ1 => if b = true then g ρ μ1 R else R false μ1
def rOr (f g : RT) : RT := fun ρ μ R => f ρ μ fun b μ1 => if b = true then R true μ1 else g ρ μ1 R
def rNot (f : RT) : RT := fun ρ μ R => f ρ μ fun b μ1 => R (!b) μ1
def rIfE (t : RT) (f g : RX) : RX := fun ρ μ R => t ρ μ fun b μ1 => if b = true then f ρ μ1 R else g ρ μ1 R
def rAndV (f g : RX) : RX := fun ρ μ R => f ρ μ fun d μ1 => match d with
  | .bl b => if b = true then g ρ μ1 R else R (.bl false) μ1
  | _ => False
def rOrV (f g : RX) : RX := fun ρ μ R => f ρ μ fun d μ1 => match d with
  | .bl b => if b = true then R (.bl true) μ1 else g ρ μ1 R
  | _ => False
def rNotV (f : RX) : RX := fun ρ μ R => f ρ μ fun d μ1 => match d with
  | .bl b => R (.bl (!b)) μ1
  | _ => False
section
variable {X : Cx} {a b c : Expr} {rest : List Expr} {fa fb : RX} {ta tb tc : RT} {pos : Pos}
theorem dt_cmp {op : CmpOp} {r : R2} {g : G2} (ho : OpR X (compareOp op) r) (s : Snd2 X.K r g) (ha : DE X a fa) (hb : DE X b fb) (hm : behindInMarks op b = false) : DT X (.Compare a [op] [b] pos) (rB (rOp g fa fb)) := pt_imp (pt_cmpR ho ha hb hm) fun σ H Q ⟨S, μ, ρ, R, k, e, h, post⟩ => by
  refine up_op s σ H (fun x H' => ∃ k, x = .bl k ∧ Q k H') ⟨S, μ, ρ, _, k, e, h, fun S1 μ1 H1 v1 d1 k1 s1 r1 h1 => ?_⟩
  cases d1 <;> first | exact False.elim h1 | skip
  cases r1.toBl
  exact ⟨_, rfl, post S1 μ1 H1 _ k1 s1 h1⟩
theorem dt_le (ha : DE X a fa) (hb : DE X b fb) : DT X (.Compare a [.LtE] [b] pos) (rB (rOp gLe fa fb)) := dt_cmp op_le (snd_I0 fun i j S => .bl _) ha hb (nomark _)
theorem dt_gt (ha : DE X a fa) (hb : DE X b fb) : DT X (.Compare a [.Gt] [b] pos) (rB (rOp gGt fa fb)) := dt_cmp op_gt (snd_I0 fun i j S => .bl _) ha hb (nomark _)
theorem dt_ge (ha : DE X a fa) (hb : DE X b fb) : DT X (.Compare a [.GtE] [b] pos) (rB (rOp gGe fa fb)) := dt_cmp op_ge (snd_I0 fun i j S => .bl _) ha hb (nomark _)
theorem dt_eq (hu : X.A.units + 64 < cLine) (ha : DE X a fa) (hb : DE X b fb) : DT X (.Compare a [.Eq] [b] pos) (rB (rOp gEq fa fb)) := dt_cmp (op_eqD hu) snd_eq ha hb (nomark _)
theorem dt_ne (hu : X.A.units + 64 < cLine) (ha : DE X a fa) (hb : DE X b fb) : DT X (.Compare a [.NotEq] [b] pos) (rB (rOp gNe fa fb)) := dt_cmp (op_neD hu) snd_ne ha hb (nomark _)
theorem dt_isN (ha : DE X a fa) (hb : DE X b fb) : DT X (.Compare a [.Is] [b] pos) (rB (rOp gIsN fa fb)) := dt_cmp op_isN snd_isN ha hb (nomark _)
theorem dt_notN (ha : DE X a fa) (hb : DE X b fb) : DT X (.Compare a [.IsNot] [b] pos) (rB (rOp gNotN fa fb)) := dt_cmp op_notN snd_notN ha hb (nomark _)
theorem dt_val (h : DE X a fa) (he : ∀ whole, isTrue a X.env whole = (do let v ← whole; standAt a.pos; holding [v] (truthy v)) := by intro _; rfl) : DT X a (rB fa) := pt_imp (pt_val h he) fun σ H Q ⟨S, μ, ρ, R, k, e, h, post⟩ => by
  refine ⟨S, μ, ρ, _, k, e, h, fun S1 μ1 H1 v1 d1 k1 s1 r1 h1 => ?_⟩
  cases d1 <;> first | exact False.elim h1 | skip
  exact ⟨_, r1.toBl, post S1 μ1 H1 _ k1 s1 h1⟩
theorem dw_and1 (ha : DT X a ta) : DW X (.BoolOp .And [a] pos) ta := pw_and1 ha
theorem dw_or1 (ha : DT X a ta) : DW X (.BoolOp .Or [a] pos) ta := pw_or1 ha
theorem dw_and (ha : DT X a ta) (hb : DW X (.BoolOp .And (b :: rest) pos) tb) : DW X (.BoolOp .And (a :: b :: rest) pos) (rAnd ta tb) := pw_imp (pw_and ha hb) fun σ H Q ⟨S, μ, ρ, R, k, e, h, post⟩ => by
  refine ⟨S, μ, ρ, _, k, e, h, fun S1 μ1 H1 b1 k1 s1 h1 => ?_⟩
  cases b1 with
  | true => rw [if_pos rfl] at h1 ⊢; exact ⟨S1, μ1, ρ, _, k1, e.mono s1.same, h1, fun S2 μ2 H2 b2 k2 s2 h2 => post S2 μ2 H2 b2 k2 (s1.trans s2) h2⟩
  | false => rw [if_neg Bool.false_ne_true] at h1 ⊢; exact post S1 μ1 H1 _ k1 s1 h1
theorem dw_or (ha : DT X a ta) (hb : DW X (.BoolOp .Or (b :: rest) pos) tb) : DW X (.BoolOp .Or (a :: b :: rest) pos) (rOr ta tb) := pw_imp (pw_or ha hb) fun σ H Q ⟨S, μ, ρ, R, k, e, h, post⟩ => by
  refine ⟨S, μ, ρ, _, k, e, h, fun S1 μ1 H1 b1 k1 s1 h1 => ?_⟩
  cases b1 with
  | true => rw [if_pos rfl] at h1 ⊢; exact post S1 μ1 H1 _ k1 s1 h1
  | false => rw [if_neg Bool.false_ne_true] at h1 ⊢; exact ⟨S1, μ1, ρ, _, k1, e.mono s1.same, h1, fun S2 μ2 H2 b2 k2 s2 h2 => post S2 μ2 H2 b2 k2 (s1.trans s2) h2⟩
theorem dt_w (h : DW X a ta) : DT X a ta := PW.pt h
theorem dt_not (ha : DT X a ta) : DT X (.UnaryOp .Not a pos) (rNot ta) := pt_imp (pt_not ha) fun σ H Q ⟨S, μ, ρ, R, k, e, h, post⟩ =>
  ⟨S, μ, ρ, _, k, e, h, fun S1 μ1 H1 b1 k1 s1 h1 => post S1 μ1 H1 _ k1 s1 h1⟩
theorem de_if (hc : DT X c tc) (ha : DE X a fa) (hb : DE X b fb) : DE X (.IfExp c a b pos) (rIfE tc fa fb) := pe_imp (pe_ifExp hc ha hb) fun σ H Q ⟨S, μ, ρ, R, k, e, h, post⟩ => by
  refine ⟨S, μ, ρ, _, k, e, h, fun S1 μ1 H1 b1 k1 s1 h1 => ?_⟩
  cases b1 with
  | true => rw [if_pos rfl] at h1 ⊢; exact ⟨S1, μ1, ρ, _, k1, e.mono s1.same, h1, fun S2 μ2 H2 v d k2 s2 r2 h2 => post S2 μ2 H2 v d k2 (s1.trans s2) r2 h2⟩
  | false => rw [if_neg Bool.false_ne_true] at h1 ⊢; exact ⟨S1, μ1, ρ, _, k1, e.mono s1.same, h1, fun S2 μ2 H2 v d k2 s2 r2 h2 => post S2 μ2 H2 v d k2 (s1.trans s2) r2 h2⟩
theorem de_one {op} {f : RX} (h : DE X a f) : DE X (.BoolOp op [a] pos) f := pe_one h
theorem de_and (ha : DE X a fa) (hb : DE X (.BoolOp .And (b :: rest) pos) fb) : DE X (.BoolOp .And (a :: b :: rest) pos) (rAndV fa fb) := pe_imp (pe_and ha hb) fun σ H Q ⟨S, μ, ρ, R, k, e, h, post⟩ => by
  refine ⟨S, μ, ρ, _, k, e, h, fun S1 μ1 H1 v1 d1 k1 s1 r1 h1 => ?_⟩
  cases d1 with
  | bl b1 =>
    refine ⟨b1, r1.toBl, ?_⟩
    have h1 : (if b1 = true then fb ρ μ1 R else R (.bl false) μ1) := h1
    cases b1 with
    | true => rw [if_pos rfl] at h1 ⊢; exact ⟨S1, μ1, ρ, _, k1, e.mono s1.same, h1, fun S2 μ2 H2 v d k2 s2 r2 h2 => post S2 μ2 H2 v d k2 (s1.trans s2) r2 h2⟩
    | false => rw [if_neg Bool.false_ne_true] at h1 ⊢; exact post S1 μ1 H1 _ _ k1 s1 (.bl _) h1
  | _ => exact False.elim h1
theorem de_not (ha : DE X a fa) : DE X (.UnaryOp .Not a pos) (rNotV fa) := pe_imp (pe_not ha) fun σ H Q ⟨S, μ, ρ, R, k, e, h, post⟩ => by
  refine ⟨S, μ, ρ, _, k, e, h, fun S1 μ1 H1 v1 d1 k1 s1 r1 h1 => ?_⟩
  cases d1 <;> first | exact False.elim h1 | skip
  exact ⟨_, r1.toBl, post S1 μ1 H1 _ _ k1 s1 (.bl _) h1⟩
end
end L3

/-! ## L3c -/
set_option Elab.async false
set_option linter.all false
set_option maxRecDepth 100000
set_option maxHeartbeats 4000000
namespace L3
open PySem PySem.Spec PyProof.Rows L2

/-! ### arguments, displays -/
def rNil : RA := fun _ μ R => R [] μ
def rCons (fa : RX) (fr : RA) : RA := fun ρ μ R => fa ρ μ fun d μ1 => fr ρ μ1 fun ds μ2 => R (d :: ds) μ2
def rStar (fa : RX) (fr : RA) : RA := fun ρ μ R => fa ρ μ fun d μ1 => match seqD (res μ1 d) with
  | some xs => fr ρ μ1 fun ds μ2 => R (xs ++ ds) μ2
  | none => False
def rTup (fa : RA) : RX := fun ρ μ R => fa ρ μ fun ds μ1 => ds.length ≤ sizeLine ∧ R (.tup ds) μ1
def rLst (fa : RA) : RX := fun ρ μ R => fa ρ μ fun ds μ1 => ds.length ≤ sizeLine ∧ R (.lst ds) μ1
def rLstM (fa : RA) : RX := fun ρ μ R => fa ρ μ fun ds μ1 => ds.length ≤ sizeLine ∧ ∀ p, μ1 p = none → R (.ref p) (updM μ1 p (.lst ds))
section
variable {X : Cx} {e : Expr} {es : List Expr} {fe : RX} {fa : RA} {pos p : Pos}
theorem da_nil : DA X [] rNil := pa_imp pa_nil fun σ H Q ⟨S, μ, ρ, R, k, e, h, post⟩ => post S μ H [] [] k .refl .nil h
theorem da_cons (ha : DE X e fe) (hr : DA X es fa) (hs : starEach (e :: es) X.env = (false, eval e X.env) :: starEach es X.env := by rfl) : DA X (e :: es) (rCons fe fa) := pa_imp (pa_cons ha hr hs) fun σ H Q ⟨S, μ, ρ, R, k, e, h, post⟩ => by
  refine ⟨S, μ, ρ, _, k, e, h, fun S1 μ1 H1 v1 d1 k1 s1 r1 h1 => ?_⟩
  exact ⟨S1, μ1, ρ, _, k1, e.mono s1.same, h1, fun S2 μ2 H2 vs ds k2 s2 r2 h2 => post S2 μ2 H2 _ _ k2 (s1.trans s2) (.cons (r1.mono s2.same) r2) h2⟩
theorem da_star (ha : DE X e fe) (hr : DA X es fa) (hs : starEach (.Starred e p :: es) X.env = (true, eval e X.env) :: starEach es X.env := by rfl) : DA X (.Starred e p :: es) (rStar fe fa) := pa_imp (StX.pa_star ha hr hs) fun σ H Q ⟨S, μ, ρ, R, k, e, h, post⟩ => by
  refine ⟨S, μ, ρ, _, k, e, h, fun S1 μ1 H1 v1 d1 k1 s1 r1 h1 => ?_⟩
  cases q : seqD (res μ1 d1) with
  | none => rw [q] at h1; exact h1.elim
  | some xs =>
    rw [q] at h1
    obtain ⟨a, vs, e1, h2, r2⟩ := seq_rep k1 r1 q
    refine ⟨a, vs, e1, h2.symm, S1, μ1, ρ, _, k1, e.mono s1.same, h1, fun S2 μ2 H2 ws ds k2 s2 r3 h3 => post S2 μ2 H2 _ _ k2 (s1.trans s2) ((r2.mono s2.same).append r3) h3⟩
theorem de_tup {x1} (h : DA X es fa) : DE X (.Tuple es x1 pos) (rTup fa) := pe_imp (pe_tup h) fun σ H Q ⟨S, μ, ρ, R, k, e, h, post⟩ => by
  refine ⟨S, μ, ρ, _, k, e, h, fun S1 μ1 H1 vs ds k1 s1 r1 h1 => ⟨by rw [r1.length]; exact h1.1, fun p hp => ?_⟩⟩
  obtain ⟨k2, s2⟩ := k1.alloc (o := .tup vs) hp
  exact post _ _ _ _ _ k2 (s1.trans s2) (.tup (.of upd_same) (r1.mono s2.same)) h1.2
theorem de_lst (h : DA X es fa) : DE X (.List es pos) (rLst fa) := pe_imp (pe_lst h) fun σ H Q ⟨S, μ, ρ, R, k, e, h, post⟩ => by
  refine ⟨S, μ, ρ, _, k, e, h, fun S1 μ1 H1 vs ds k1 s1 r1 h1 => ⟨by rw [r1.length]; exact h1.1, fun p hp => ?_⟩⟩
  obtain ⟨k2, s2⟩ := k1.alloc (o := .lst vs) hp
  exact post _ _ _ _ _ k2 (s1.trans s2) (.lst upd_same (r1.mono s2.same)) h1.2
theorem de_lstM (h : DA X es fa) : DE X (.List es pos) (rLstM fa) := pe_imp (pe_lst h) fun σ H Q ⟨S, μ, ρ, R, k, e, h, post⟩ => by
  refine ⟨S, μ, ρ, _, k, e, h, fun S1 μ1 H1 vs ds k1 s1 r1 h1 => ⟨by rw [r1.length]; exact h1.1, fun p hp => ?_⟩⟩
  obtain ⟨k2, s2⟩ := k1.newM hp r1
  exact post _ _ _ _ _ k2 (s1.trans s2) (.ref p) (h1.2 p (k1.free hp).2)
end

/-! ### items, slices -/
theorem atI_rep {K : PySem.W.Frag} {S : Hp} {vs : List V} {ds : List D} {i : Int} {d : D} (r : Reps K S vs ds) (e : atI ds i = some d) : ∃ v, atI vs i = some v ∧ Rep K S v d := by
  unfold atI at e ⊢
  rw [r.length]
  cases q : ixN ds.length i with
  | none => rw [q] at e; cases e
  | some j =>
    rw [q] at e
    exact r.get (show ds[j]? = some d from e)
def gIx : G2 := fun x y μ R => match y with
  | .int i => (match seqD (res μ x) with
    | some ds => (match atI ds i with
      | some d => R d μ
      | none => False)
    | none => False)
  | _ => False
theorem atI_lit {α : Type} (l : List α) (n : Nat) : atI l (n : Int) = l[n]? := by
  cases q : l[n]? with
  | some v => exact atI_nat q
  | none =>
    unfold atI ixN
    have h := List.getElem?_eq_none_iff.mp q
    rw [if_pos (by omega), if_neg (by omega)]
    rfl
theorem atI_0 {α : Type} (l : List α) : atI l 0 = l[0]? := atI_lit l 0
theorem atI_1 {α : Type} (l : List α) : atI l 1 = l[1]? := atI_lit l 1
theorem atI_2 {α : Type} (l : List α) : atI l 2 = l[2]? := atI_lit l 2
theorem atI_3 {α : Type} (l : List α) : atI l 3 = l[3]? := atI_lit l 3
theorem atI_4 {α : Type} (l : List α) : atI l 4 = l[4]? := atI_lit l 4
section
variable {K : PySem.W.Frag} {X : Cx} {a b : Expr} {fa fb : RX} {pos : Pos}
theorem snd_ix : Snd2 K (rIx K) gIx := by
  intro S μ H x y dx dy R Q k rx ry q post
  unfold gIx at q
  cases dy <;> first | exact False.elim q | skip
  rename_i i
  dsimp only at q
  cases q1 : seqD (res μ dx) with
  | none => rw [q1] at q; exact q.elim
  | some ds =>
    rw [q1] at q
    dsimp only at q
    cases q2 : atI ds i with
    | none => rw [q2] at q; exact q.elim
    | some d =>
      rw [q2] at q
      obtain ⟨p, vs, rfl, h1, r1⟩ := seq_rep k rx q1
      obtain ⟨v, h2, r2⟩ := atI_rep r1 q2
      cases ry.toInt
      rcases h1 with h1 | h1
      · exact .inl ⟨p, vs, i, v, rfl, rfl, h1, h2, post S μ H _ _ k .refl r2 q⟩
      · exact .inr (.inl ⟨p, vs, i, v, rfl, rfl, h1, h2, post S μ H _ _ k .refl r2 q⟩)
theorem de_ix (ha : DE X a fa) (hb : DE X b fb) (hs : PlainIx b := by exact fun _ _ => rfl) : DE X (.Subscript a b pos) (rOp gIx fa fb) := pe_imp (pe_ix ix_seq ha hb hs) (up_op snd_ix)
end
def cutD (xs : List D) (lo hi : Option Int) : List D := (xs.drop (HT.sIx xs.length 0 lo)).take (HT.sIx xs.length xs.length hi - HT.sIx xs.length 0 lo)
theorem cut_rep {K : PySem.W.Frag} {S : Hp} {vs : List V} {ds : List D} (r : Reps K S vs ds) (lo hi : Option Int) : Reps K S (cutV vs lo hi) (cutD ds lo hi) := by
  unfold cutV cutD
  rw [r.length]
  exact (r.drop _).take _
abbrev RO := EV → MH → (Option Int → MH → Prop) → Prop
def upO (K : PySem.W.Frag) (f : RO) : TO := fun σ H Q => ∃ S μ ρ R, OK K S μ H ∧ RepE K S σ ρ ∧ f ρ μ R ∧ ∀ S' μ' H' o, OK K S' μ' H' → Stp S μ H S' μ' H' → R o μ' → Q o H'
def rNoPart : RO := fun _ μ R => R none μ
def rPart (f : RX) : RO := fun ρ μ R => f ρ μ fun d μ1 => match d with
  | .int i => R (some i) μ1
  | _ => False
def gSl (x : D) (lo hi : Option Int) (μ : MH) (R : D → MH → Prop) : Prop := match res μ x with
  | .tup ds => R (.tup (cutD ds lo hi)) μ
  | .lst ds => R (.lst (cutD ds lo hi)) μ
  | _ => False
def rSl (fe : RX) (fl fh : RO) : RX := fun ρ μ R => fe ρ μ fun x μ1 => fl ρ μ1 fun lo μ2 => fh ρ μ2 fun hi μ3 => gSl x lo hi μ3 R
section
variable {X : Cx} {e : Expr} {fe : RX} {lo hi : Option Expr} {fl fh : RO} {pos p2 : Pos}
theorem po_imp {t u : TO} {e : Option Expr} (h : PO X e t) (i : ∀ σ H Q, u σ H Q → t σ H Q) : PO X e u := ⟨fun pins s σ H Q I q => h.run pins s σ H Q I (i σ H Q q)⟩
theorem do_none : PO X none (upO X.K rNoPart) := po_imp po_none fun σ H Q ⟨S, μ, ρ, R, k, e, h, post⟩ => post S μ H _ k .refl h
theorem do_some (h : DE X e fe) : PO X (some e) (upO X.K (rPart fe)) := po_imp (po_some h) fun σ H Q ⟨S, μ, ρ, R, k, e, h, post⟩ => by
  refine ⟨S, μ, ρ, _, k, e, h, fun S1 μ1 H1 v1 d1 k1 s1 r1 h1 => ?_⟩
  cases d1 <;> first | exact False.elim h1 | skip
  exact ⟨_, r1.toInt, post S1 μ1 H1 _ k1 s1 h1⟩
theorem de_slice (he : DE X e fe) (hl : PO X lo (upO X.K fl)) (hu : PO X hi (upO X.K fh)) : DE X (.Subscript e (.Slice lo hi none p2) pos) (rSl fe fl fh) := pe_imp (pe_slice (sl_tupA.or sl_list) he hl hu) fun σ H Q ⟨S, μ, ρ, R, k, e, h, post⟩ => by
  refine ⟨S, μ, ρ, _, k, e, h, fun S1 μ1 H1 v1 d1 k1 s1 r1 h1 => ?_⟩
  refine ⟨S1, μ1, ρ, _, k1, e.mono s1.same, h1, fun S2 μ2 H2 o2 k2 s2 h2 => ?_⟩
  refine ⟨S2, μ2, ρ, _, k2, (e.mono s1.same).mono s2.same, h2, fun S3 μ3 H3 o3 k3 s3 h3 => ?_⟩
  have r3 := r1.mono (s2.trans s3).same
  have s13 := (s1.trans s2).trans s3
  unfold gSl at h3
  cases q : res μ3 d1 with
  | tup ds =>
    rw [q] at h3
    have z := res_tup r3 q
    subst z
    obtain ⟨p, vs, rfl, a1, a2⟩ := r3.toTup
    refine .inl ⟨p, vs, rfl, sqT_same k3.sub a1, fun w => ?_, fun w p' hp => ?_⟩
    · have ec : cutD ds o2 o3 = ds := by
        unfold cutD
        rw [a2.length] at w
        rw [w.1, w.2]
        simp
      have h3 : R (.tup (cutD ds o2 o3)) μ3 := h3
      rw [ec] at h3
      exact post S3 μ3 H3 _ _ k3 s13 r3 h3
    · obtain ⟨k4, s4⟩ := k3.alloc (o := .tup (cutV vs o2 o3)) hp
      exact post _ _ _ _ _ k4 (s13.trans s4) (.tup (.of upd_same) ((cut_rep a2 o2 o3).mono s4.same)) h3
  | lst ds =>
    rw [q] at h3
    obtain ⟨p, vs, rfl, a1, a2⟩ := res_lst k3 r3 q
    refine .inr ⟨p, vs, rfl, .of a1, fun p' hp => ?_⟩
    obtain ⟨k4, s4⟩ := k3.alloc (o := .lst (cutV vs o2 o3)) hp
    exact post _ _ _ _ _ k4 (s13.trans s4) (.lst upd_same ((cut_rep a2 o2 o3).mono s4.same)) h3
  | _ => rw [q] at h3; exact h3.elim
end

/-! ### own defs -/
def spD (K : PySem.W.Frag) (s : GN) : Sp := fun vs H Q _ => ∃ S μ ds R, OK K S μ H ∧ Reps K S vs ds ∧ s ds μ R ∧ Pst K S μ H R Q
/-- the module's name x is a def that keeps s, with every parameter given -/
structure FnG (P : Program) (w : World) (K : PySem.W.Frag) (mg : Str → Option Value) (base : Heap) (k : Nat) (x : Str) (s : GN) : Prop where
  ex : ∃ f fd ps, FnOk P w K mg base CX0 k f fd ps (spD K s) ∧ mg x = some (.ref f) ∧ PySem.W.keepIn K (.ref f) = true ∧ Binds K fd ps []
theorem FnG.mono {P : Program} {w : World} {K : PySem.W.Frag} {mg : Str → Option Value} {base : Heap} {j k : Nat} {x : Str} {s : GN} (F : FnG P w K mg base j x s) (h : j ≤ k) : FnG P w K mg base k x s :=
  let ⟨f, fd, ps, a, b, c, d⟩ := F.ex; ⟨f, fd, ps, a.mono h, b, c, d⟩
theorem spD_imp {K : PySem.W.Frag} {s s' : GN} (h : ∀ ds μ R, s' ds μ R → s ds μ R) : ∀ vs H Q E, spD K s' vs H Q E → spD K s vs H Q E := fun vs H Q E ⟨S, μ, ds, R, a, b, c, d⟩ => ⟨S, μ, ds, R, a, b, h _ _ _ c, d⟩
theorem FnG.imp {P : Program} {w : World} {K : PySem.W.Frag} {mg : Str → Option Value} {base : Heap} {k : Nat} {x : Str} {s s' : GN} (F : FnG P w K mg base k x s) (h : ∀ ds μ R, s' ds μ R → s ds μ R) : FnG P w K mg base k x s' :=
  let ⟨f, fd, ps, a, b, c, d⟩ := F.ex; ⟨f, fd, ps, a.imp (spD_imp h), b, c, d⟩
section
variable {X : Cx} {k : Nat} {x : Str} {s : GN} {e : Expr} {es : List Expr} {fa : RA} {fe : RX} {p pos p2 : Pos}
theorem de_call (F : FnG X.prog X.w X.K X.mg X.base k x s) (hr : Room k X.A) (hg : Gl X x) (ha : DA X (e :: es) fa) (hdb : (x == ("__debug__" : Str)) = false := by decide)
    (he : starEach (e :: es) X.env = (false, eval e X.env) :: starEach es X.env := by rfl) (hpl : (backTo pos (starEach es X.env)).any (·.1) = false := by rfl) : DE X (.Call (.Name x p) (e :: es) [] pos) (rCl s fa) := by
  obtain ⟨f, fd, ps, a, b, c, d⟩ := F.ex
  refine pe_imp (pe_call a hr hg b c d .nil pass0 ha hdb he hpl) fun σ H Q ⟨S, μ, ρ, R, k, e, h, post⟩ => ?_
  refine ⟨S, μ, ρ, _, k, e, h, fun S1 μ1 H1 vs ds k1 s1 r1 h1 => ?_⟩
  show spD X.K s (vs ++ []) H1 Q E0
  rw [List.append_nil]
  exact ⟨S1, μ1, ds, R, k1, r1, h1, fun S3 μ3 H3 v d k3 s3 r3 h3 => post S3 μ3 H3 v d k3 (s1.trans s3) r3 h3⟩
end

/-! ### built-ins -/
section
variable {K : PySem.W.Frag} {X : Cx} {r : List V → Hp → VK → Prop} {g : GN} {id T : String} {x : Str} {e : Expr} {es : List Expr} {fa : RA} {p pos : Pos}
theorem de_callB (hc : CallR X (.builtin id) r) (s : SndN X.K r g) (hg : Gl X x) (hm : X.mg x = none) (hv : bootBuiltins x = some (.builtin id)) (ha : DA X (e :: es) fa) (hn : x ≠ "__name__" := by decide) (hdb : (x == ("__debug__" : Str)) = false := by decide)
    (he : starEach (e :: es) X.env = (false, eval e X.env) :: starEach es X.env := by rfl) (hpl : (backTo pos (starEach es X.env)).any (·.1) = false := by rfl) : DE X (.Call (.Name x p) (e :: es) [] pos) (rCl g fa) :=
  pe_imp (pe_callB hc hg hm hv ha hn hdb he hpl) (up_cl s)
theorem de_callTy (hc : CallR X (.type T) r) (s : SndN X.K r g) (hg : Gl X x) (hm : X.mg x = none) (hv : bootBuiltins x = some (.type T)) (ha : DA X (e :: es) fa) (hn : x ≠ "__name__" := by decide) (hdb : (x == ("__debug__" : Str)) = false := by decide)
    (he : starEach (e :: es) X.env = (false, eval e X.env) :: starEach es X.env := by rfl) (hpl : (backTo pos (starEach es X.env)).any (·.1) = false := by rfl) : DE X (.Call (.Name x p) (e :: es) [] pos) (rCl g fa) :=
  pe_imp (pe_callTy hc hg hm hv ha hn hdb he hpl) (up_cl s)
theorem reps1 {S : Hp} {xs : List V} {d : D} (r : Reps K S xs [d]) : ∃ v, xs = [v] ∧ Rep K S v d := by
  cases r with
  | cons h r => cases r; exact ⟨_, rfl, h⟩
theorem reps2 {S : Hp} {xs : List V} {d d2 : D} (r : Reps K S xs [d, d2]) : ∃ v w, xs = [v, w] ∧ Rep K S v d ∧ Rep K S w d2 := by
  cases r with
  | cons h r =>
    cases r with
    | cons h2 r => cases r; exact ⟨_, _, rfl, h, h2⟩
def gAbs : GN := fun ds μ R => match ds with
  | [.int i] => R (.int (if i < 0 then -i else i)) μ
  | _ => False
theorem snd_abs : SndN K (fun xs H Q => ∃ i, xs = [.int i] ∧ Q (.int (if i < 0 then -i else i)) H) gAbs := by
  intro S μ H xs dxs R Q k r q post
  unfold gAbs at q
  split at q
  · obtain ⟨v, rfl, r1⟩ := reps1 r
    cases r1.toInt
    exact ⟨_, rfl, post S μ H _ _ k .refl (.int _) q⟩
  · exact q.elim
def gLen : GN := fun ds μ R => match ds with
  | [d] => (match seqD (res μ d) with
    | some xs => R (.int xs.length) μ
    | none => False)
  | _ => False
theorem snd_len : SndN K (fun xs H Q => ∃ p ys, xs = [.ref p] ∧ (SqL K H p ys ∨ SqT K H p ys) ∧ Q (.int ys.length) H) gLen := by
  intro S μ H xs dxs R Q k r q post
  unfold gLen at q
  split at q
  · rename_i d
    obtain ⟨v, rfl, r1⟩ := reps1 r
    cases q1 : seqD (res μ d) with
    | none => rw [q1] at q; exact q.elim
    | some ds =>
      rw [q1] at q
      obtain ⟨p, vs, rfl, h1, r2⟩ := seq_rep k r1 q1
      exact ⟨p, vs, rfl, h1, post S μ H _ _ k .refl (by rw [r2.length]; exact .int _) q⟩
  · exact q.elim
/-- all(..), any(..) of a list of truth values -/
def bools : List D → Option (List Bool)
  | [] => some []
  | .bl b :: r => (bools r).map (b :: ·)
  | _ :: _ => none
theorem bools_rep {S : Hp} : ∀ {ds : List D} {vs : List V} {bs : List Bool}, Reps K S vs ds → bools ds = some bs → vs = bs.map V.bl
  | [], _, _, .nil, e => by cases e; rfl
  | .bl b :: r, _, bs, .cons h t, e => by
    unfold bools at e
    cases q : bools r with
    | none => rw [q] at e; cases e
    | some cs =>
      rw [q] at e
      cases e
      rw [h.toBl, bools_rep t q]
      rfl
  | .non :: r, _, bs, _, e => by cases e
  | .int _ :: r, _, bs, _, e => by cases e
  | .str _ :: r, _, bs, _, e => by cases e
  | .tup _ :: r, _, bs, _, e => by cases e
  | .lst _ :: r, _, bs, _, e => by cases e
  | .scr _ :: r, _, bs, _, e => by cases e
  | .ins _ _ :: r, _, bs, _, e => by cases e
  | .ref _ :: r, _, bs, _, e => by cases e
  | .ty _ :: r, _, bs, _, e => by cases e
def gAll : GN := fun ds μ R => match ds with
  | [d] => (match res μ d with
    | .lst xs => (match bools xs with
      | some bs => R (.bl (bs.all _root_.id)) μ
      | none => False)
    | _ => False)
  | _ => False
def gAny : GN := fun ds μ R => match ds with
  | [d] => (match res μ d with
    | .lst xs => (match bools xs with
      | some bs => R (.bl (bs.any _root_.id)) μ
      | none => False)
    | _ => False)
  | _ => False
theorem snd_all : SndN K (rAll K) gAll := by
  intro S μ H xs dxs R Q k r q post
  unfold gAll at q
  split at q
  · rename_i d
    obtain ⟨v, rfl, r1⟩ := reps1 r
    cases q1 : res μ d <;> rw [q1] at q <;> first | exact False.elim q | skip
    rename_i ds
    dsimp only at q
    cases q2 : bools ds with
    | none => rw [q2] at q; exact q.elim
    | some bs =>
      rw [q2] at q
      obtain ⟨p, vs, rfl, h1, r2⟩ := res_lst k r1 q1
      cases bools_rep r2 q2
      exact ⟨p, bs, rfl, .of h1, post S μ H _ _ k .refl (.bl _) q⟩
  · exact q.elim
theorem snd_any : SndN K (rAny K) gAny := by
  intro S μ H xs dxs R Q k r q post
  unfold gAny at q
  split at q
  · rename_i d
    obtain ⟨v, rfl, r1⟩ := reps1 r
    cases q1 : res μ d <;> rw [q1] at q <;> first | exact False.elim q | skip
    rename_i ds
    dsimp only at q
    cases q2 : bools ds with
    | none => rw [q2] at q; exact q.elim
    | some bs =>
      rw [q2] at q
      obtain ⟨p, vs, rfl, h1, r2⟩ := res_lst k r1 q1
      cases bools_rep r2 q2
      exact ⟨p, bs, rfl, .of h1, post S μ H _ _ k .refl (.bl _) q⟩
  · exact q.elim
/-- tuple(xs), list(xs) -/
def gTuple : GN := fun ds μ R => match ds with
  | [d] => (match seqD (res μ d) with
    | some xs => R (.tup xs) μ
    | none => False)
  | _ => False
theorem snd_tuple : SndN K (fun xs H Q => ∃ p ys, xs = [.ref p] ∧ ((SqL K H p ys ∧ ∀ l, H l = none → Q (.ref l) (upd H l (.tup ys))) ∨ (SqT K H p ys ∧ Q (.ref p) H))) gTuple := by
  intro S μ H xs dxs R Q k r q post
  unfold gTuple at q
  split at q
  · rename_i d
    obtain ⟨v, rfl, r1⟩ := reps1 r
    cases q0 : res μ d with
    | lst ds =>
      rw [q0] at q
      obtain ⟨p, vs, rfl, h1, r2⟩ := res_lst k r1 q0
      refine ⟨p, vs, rfl, .inl ⟨.of h1, fun l hl => ?_⟩⟩
      obtain ⟨k2, s2⟩ := k.alloc (o := .tup vs) hl
      exact post _ _ _ _ _ k2 s2 (.tup (.of upd_same) (r2.mono s2.same)) q
    | tup ds =>
      rw [q0] at q
      have z := res_tup r1 q0
      subst z
      obtain ⟨p, vs, rfl, a1, a2⟩ := r1.toTup
      exact ⟨p, vs, rfl, .inr ⟨sqT_same k.sub a1, post S μ H _ _ k .refl r1 q⟩⟩
    | _ => rw [q0] at q; exact q.elim
  · exact q.elim
/-- isinstance(x, T), T a built-in class -/
def isiD (T : String) : D → Option Bool
  | .non => some false
  | .bl _ => some (T == "bool" || T == "int")
  | .int _ => some (T == "int")
  | .str _ => some (T == "str")
  | .tup _ => some (T == "tuple")
  | .lst _ => some (T == "list")
  | _ => none
def tyOK (T : String) : Bool := T == "bool" || T == "int" || T == "str" || T == "tuple" || T == "list"
def gIsi : GN := fun ds μ R => match ds with
  | [d, .ty T] => tyOK T = true ∧ (match isiD T (res μ d) with
    | some b => R (.bl b) μ
    | none => False)
  | _ => False
theorem sqT_ty {H : Hp} {a : Addr} {xs : List V} (h : SqT K H a xs) : TyX K H (.ref a) (.type "tuple") := by
  rcases h with (h | ⟨o, h⟩) | ⟨o, its, n, e, c, _⟩
  · exact .base (.tup h)
  · exact .fTuple h
  · exact .kTuple e c
theorem snd_isi : SndN K (rIsi K) gIsi := by
  intro S μ H xs dxs R Q k r q post
  unfold gIsi at q
  split at q
  · rename_i d T
    obtain ⟨v, w, rfl, r1, r2⟩ := reps2 r
    obtain ⟨ht, q⟩ := q
    cases r2
    have kk : ∀ t : String, (t = "NoneType" ∨ t = "bool" ∨ t = "int" ∨ t = "str" ∨ t = "tuple" ∨ t = "list") → kitB t T = some (t == T || (t == "bool" && T == "int")) := by
      intro t h
      unfold tyOK at ht
      simp only [Bool.or_eq_true, beq_iff_eq] at ht
      rcases ht with (((rfl | rfl) | rfl) | rfl) | rfl <;> rcases h with rfl | rfl | rfl | rfl | rfl | rfl <;> decide +kernel
    have fin : ∀ (t : String) (b : Bool), TyX K H v (.type t) → (t = "NoneType" ∨ t = "bool" ∨ t = "int" ∨ t = "str" ∨ t = "tuple" ∨ t = "list") → (t == T || (t == "bool" && T == "int")) = b → R (.bl b) μ → rIsi K [v, .ty T] H Q := fun t b h1 h2 h3 h4 =>
      ⟨v, .ty T, .type t, .type T, b, rfl, .ty T, h1, kit_ty (by rw [kk t h2, h3]), post S μ H _ _ k .refl (.bl _) h4⟩
    cases q0 : res μ d with
    | lst ds =>
      rw [q0] at q
      obtain ⟨p, vs, rfl, h1, _⟩ := res_lst k r1 q0
      exact fin "list" _ (.base (.lst h1)) (by simp) (by rw [show ("list" == "bool") = false by decide, Bool.false_and, Bool.or_false]; exact Bool.beq_comm) q
    | tup ds =>
      rw [q0] at q
      have z := res_tup r1 q0
      subst z
      obtain ⟨p, vs, rfl, a1, a2⟩ := r1.toTup
      exact fin "tuple" _ (sqT_ty (sqT_same k.sub a1)) (by simp) (by rw [show ("tuple" == "bool") = false by decide, Bool.false_and, Bool.or_false]; exact Bool.beq_comm) q
    | non =>
      have z : d = .non := by
        cases d with
        | ref a =>
          unfold res at q0
          dsimp only at q0
          cases w : μ a with
          | none => rw [w] at q0; cases q0
          | some m => rw [w] at q0; cases m <;> cases q0
        | _ => exact q0
      subst z
      cases r1.toNon
      rw [q0] at q
      refine fin "NoneType" _ (.base .non) (by simp) ?_ q
      unfold tyOK at ht
      simp only [Bool.or_eq_true, beq_iff_eq] at ht
      rcases ht with (((rfl | rfl) | rfl) | rfl) | rfl <;> decide
    | bl b =>
      have z : d = .bl b := by
        cases d with
        | ref a =>
          unfold res at q0
          dsimp only at q0
          cases w : μ a with
          | none => rw [w] at q0; cases q0
          | some m => rw [w] at q0; cases m <;> cases q0
        | _ => exact q0
      subst z
      cases r1.toBl
      rw [q0] at q
      refine fin "bool" _ (.base (.bl _)) (by simp) ?_ q
      unfold tyOK at ht
      simp only [Bool.or_eq_true, beq_iff_eq] at ht
      rcases ht with (((rfl | rfl) | rfl) | rfl) | rfl <;> decide
    | int b =>
      have z : d = .int b := by
        cases d with
        | ref a =>
          unfold res at q0
          dsimp only at q0
          cases w : μ a with
          | none => rw [w] at q0; cases q0
          | some m => rw [w] at q0; cases m <;> cases q0
        | _ => exact q0
      subst z
      cases r1.toInt
      rw [q0] at q
      exact fin "int" _ (.base (.int _)) (by simp) (by rw [show ("int" == "bool") = false by decide, Bool.false_and, Bool.or_false]; exact Bool.beq_comm) q
    | str b =>
      have z : d = .str b := by
        cases d with
        | ref a =>
          unfold res at q0
          dsimp only at q0
          cases w : μ a with
          | none => rw [w] at q0; cases q0
          | some m => rw [w] at q0; cases m <;> cases q0
        | _ => exact q0
      subst z
      cases r1.toStr
      rw [q0] at q
      exact fin "str" _ (.base (.str _)) (by simp) (by rw [show ("str" == "bool") = false by decide, Bool.false_and, Bool.or_false]; exact Bool.beq_comm) q
    | _ => rw [q0] at q; exact q.elim
  · exact q.elim
end
section
variable {X : Cx} {e e2 : Expr} {fa : RA} {p pos : Pos}
theorem de_abs (hg : Gl X "abs") (hm : X.mg "abs" = none) (ha : DA X [e] fa) (he : starEach [e] X.env = (false, eval e X.env) :: starEach [] X.env := by rfl) : DE X (.Call (.Name "abs" p) [e] [] pos) (rCl gAbs fa) := de_callB call_abs snd_abs hg hm (by decide +kernel) ha (he := he)
theorem de_len (hg : Gl X "len") (hm : X.mg "len" = none) (ha : DA X [e] fa) (he : starEach [e] X.env = (false, eval e X.env) :: starEach [] X.env := by rfl) : DE X (.Call (.Name "len" p) [e] [] pos) (rCl gLen fa) := de_callB call_len_seq snd_len hg hm (by decide +kernel) ha (he := he)
theorem de_all (hg : Gl X "all") (hm : X.mg "all" = none) (ha : DA X [e] fa) (hc : X.calm = true := by rfl) (he : starEach [e] X.env = (false, eval e X.env) :: starEach [] X.env := by rfl) : DE X (.Call (.Name "all" p) [e] [] pos) (rCl gAll fa) := de_callB (cr_all hc) snd_all hg hm (by decide +kernel) ha (he := he)
theorem de_any (hg : Gl X "any") (hm : X.mg "any" = none) (ha : DA X [e] fa) (hc : X.calm = true := by rfl) (he : starEach [e] X.env = (false, eval e X.env) :: starEach [] X.env := by rfl) : DE X (.Call (.Name "any" p) [e] [] pos) (rCl gAny fa) := de_callB (cr_any hc) snd_any hg hm (by decide +kernel) ha (he := he)
theorem de_isi (hg : Gl X "isinstance") (hm : X.mg "isinstance" = none) (ha : DA X [e, e2] fa) (he : starEach [e, e2] X.env = (false, eval e X.env) :: starEach [e2] X.env := by rfl) (hpl : (backTo pos (starEach [e2] X.env)).any (·.1) = false := by rfl) :
    DE X (.Call (.Name "isinstance" p) [e, e2] [] pos) (rCl gIsi fa) := de_callB call_isi snd_isi hg hm (by decide +kernel) ha (he := he) (hpl := hpl)
theorem de_tuple (hg : Gl X "tuple") (hm : X.mg "tuple" = none) (ha : DA X [e] fa) (he : starEach [e] X.env = (false, eval e X.env) :: starEach [] X.env := by rfl) : DE X (.Call (.Name "tuple" p) [e] [] pos) (rCl gTuple fa) := de_callTy call_tuple_of snd_tuple hg hm (by decide +kernel) ha (he := he)
end
end L3

/-! ## L3d -/
set_option Elab.async false
set_option linter.all false
set_option maxRecDepth 100000
set_option maxHeartbeats 4000000
namespace L3
open PySem PySem.Spec PyProof.Rows L2

/-! ### instances -/
/-- an instance: data, or a changeable one -/
def insD (μ : MH) : D → Option (Addr × List (Str × D))
  | .ins C fs => some (C, fs)
  | .ref p => (match μ p with
    | some (.ins C fs) => some (C, fs)
    | _ => none)
  | _ => none
theorem insD_rep {K : PySem.W.Frag} {S H : Hp} {μ : MH} {v : V} {d : D} {C : Addr} {fs : List (Str × D)} (k : OK K S μ H) (r : Rep K S v d) (e : insD μ d = some (C, fs)) : ∃ a dx vfs, v = .ref a ∧ H a = some (.ins C dx vfs) ∧ RepF K S vfs fs := by
  cases r with
  | ins h r => cases e; exact ⟨_, _, _, rfl, k.sub _ _ h, r⟩
  | ref p =>
    unfold insD at e
    dsimp only at e
    cases q : μ p with
    | none => rw [q] at e; cases e
    | some m =>
      rw [q] at e
      cases m with
      | lst ds => cases e
      | tab _ => cases e
      | dk _ => cases e
      | dct _ _ => cases e
      | dkl _ _ _ => cases e
      | ins C' fs' =>
        cases e
        obtain ⟨_, dx, vfs, h, r⟩ := k.mts p _ q
        exact ⟨p, dx, vfs, rfl, h, r⟩
  | _ => cases e
def rFld (C : Addr) (f : Str) (fo : RX) : RX := fun ρ μ R => fo ρ μ fun d μ1 => match insD μ1 d with
  | some (C', fs) => C' = C ∧ (match fs.lookup f with
    | some z => R z μ1
    | none => False)
  | none => False
def rMeth (C : Addr) (m : Str) (s : GN) (fo : RX) (fa : RA) : RX := fun ρ μ R => fo ρ μ fun d μ1 => match insD μ1 d with
  | some (C', fs) => C' = C ∧ fs.lookup m = none ∧ fa ρ μ1 fun ds μ2 => s (d :: ds) μ2 R
  | none => False
/-- a property, a call of an instance: s of the instance and the arguments -/
def rOwn (C : Addr) (s : GN) (fo : RX) (fa : RA) : RX := fun ρ μ R => fo ρ μ fun d μ1 => match insD μ1 d with
  | some (C', _) => C' = C ∧ fa ρ μ1 fun ds μ2 => (insD μ2 d).map (·.1) = some C ∧ s (d :: ds) μ2 R
  | none => False
/-- the class at C: the def f of it keeps s -/
structure MtG (P : Program) (w : World) (K : PySem.W.Frag) (mg : Str → Option Value) (base : Heap) (k : Nat) (C f : Addr) (s : GN) : Prop where
  ex : ∃ fd ps, FnOk P w K mg base CX0 k f fd ps (spD K s) ∧ Binds K fd ps []
theorem MtG.raw {P : Program} {w : World} {K : PySem.W.Frag} {mg : Str → Option Value} {base : Heap} {k : Nat} {C f : Addr} {s : GN} (F : MtG P w K mg base k C f s) : FnR P w K mg base CX0 k f (spD K s) := by
  obtain ⟨fd, ps, a, b⟩ := F.ex
  have z := a.raw b (dvs := []) .nil
  simp only [List.append_nil] at z
  exact z
theorem MtG.imp {P : Program} {w : World} {K : PySem.W.Frag} {mg : Str → Option Value} {base : Heap} {k : Nat} {C f : Addr} {s s' : GN} (F : MtG P w K mg base k C f s) (h : ∀ ds μ R, s' ds μ R → s ds μ R) : MtG P w K mg base k C f s' :=
  let ⟨fd, ps, a, d⟩ := F.ex; ⟨fd, ps, a.imp (spD_imp h), d⟩
section
variable {X : Cx} {k : Nat} {C g pr : Addr} {f m : Str} {s : GN} {e o : Expr} {es : List Expr} {fo : RX} {fa : RA} {p pos apos : Pos}
theorem de_fld (he : DE X e fo) (c : Cls X.K C) (n : NoAttr X.K C f) (hb : attributeBase e f X.env (eval e X.env) = eval e X.env := by rfl) : DE X (.Attribute e f pos) (rFld C f fo) := pe_imp (pe_fld he hb) fun σ H Q ⟨S, μ, ρ, R, k, e, h, post⟩ => by
  refine ⟨S, μ, ρ, _, k, e, h, fun S1 μ1 H1 v1 d1 k1 s1 r1 h1 => ?_⟩
  cases q : insD μ1 d1 with
  | none => rw [q] at h1; exact h1.elim
  | some z =>
    obtain ⟨C', fs⟩ := z
    rw [q] at h1
    obtain ⟨rfl, h1⟩ := h1
    cases q2 : fs.lookup f with
    | none => rw [q2] at h1; exact h1.elim
    | some d =>
      rw [q2] at h1
      obtain ⟨a, dx, vfs, rfl, e1, r2⟩ := insD_rep k1 r1 q
      obtain ⟨v, e2, r3⟩ := r2.lookup q2
      exact ⟨a, C', dx, vfs, v, rfl, e1, c, n, e2, post S1 μ1 H1 v d k1 s1 r3 h1⟩
theorem de_meth {pl : Sem Bool} (F : MtG X.prog X.w X.K X.mg X.base k C g s) (hr : Room k X.A) (c : Cls X.K C) (hm : Meth X.K C m g) (ho : DE X o fo) (ha : DA X (e :: es) fa)
    (hst : starEach (e :: es) X.env = (false, eval e X.env) :: starEach es X.env := by rfl) (hpl : (backTo pos (starEach es X.env)).any (·.1) = false := by rfl)
    (ht : eval (.Call (.Attribute o m apos) (e :: es) [] pos) X.env = (do
      let ov ← eval o X.env
      standAt apos.atName
      let (f, first) ← holding [ov] (getMethod ov m pl)
      callWith pos f first (backTo pos (starEach (e :: es) X.env)) (backToKw pos (keywordEach [] X.env))) := by rfl) :
    DE X (.Call (.Attribute o m apos) (e :: es) [] pos) (rMeth C m s fo fa) := by
  obtain ⟨fd, ps, a, b⟩ := F.ex
  refine pe_imp (pe_meth (pl := pl) ho c hm a hr b .nil pass0 ha hst hpl ht) fun σ H Q ⟨S, μ, ρ, R, k, e, h, post⟩ => ?_
  refine ⟨S, μ, ρ, _, k, e, h, fun S1 μ1 H1 v1 d1 k1 s1 r1 h1 => ?_⟩
  cases q : insD μ1 d1 with
  | none => rw [q] at h1; exact h1.elim
  | some z =>
    obtain ⟨C', fs⟩ := z
    rw [q] at h1
    obtain ⟨rfl, hl, h1⟩ := h1
    obtain ⟨a, dx, vfs, rfl, e1, r2⟩ := insD_rep k1 r1 q
    refine ⟨a, dx, vfs, rfl, e1, r2.lookup_none hl, S1, μ1, ρ, _, k1, e.mono s1.same, h1, fun S2 μ2 H2 vs ds k2 s2 r3 h3 => ?_⟩
    show spD X.K s (V.ref a :: (vs ++ [])) H2 Q E0
    rw [List.append_nil]
    exact ⟨S2, μ2, d1 :: ds, R, k2, .cons (r1.mono s2.same) r3, h3, fun S3 μ3 H3 v d k3 s3 r3 h3 => post S3 μ3 H3 v d k3 ((s1.trans s2).trans s3) r3 h3⟩
theorem de_prop (F : MtG X.prog X.w X.K X.mg X.base k C g s) (hr : Room (k + 1) X.A) (c : Cls X.K C) (hp : PropOf X.K C f pr g) (ho : DE X e fo) (hab : attributeBase e f X.env (eval e X.env) = eval e X.env := by rfl) : DE X (.Attribute e f pos) (rOwn C s fo rNil) := by
  obtain ⟨fd, ps, a, b⟩ := F.ex
  refine pe_imp (pe_prop ho c hp a hr b .nil pass0 hab) fun σ H Q ⟨S, μ, ρ, R, k, e, h, post⟩ => ?_
  refine ⟨S, μ, ρ, _, k, e, h, fun S1 μ1 H1 v1 d1 k1 s1 r1 h1 => ?_⟩
  cases q : insD μ1 d1 with
  | none => rw [q] at h1; exact h1.elim
  | some z =>
    obtain ⟨C', fs⟩ := z
    rw [q] at h1
    obtain ⟨rfl, _, h1⟩ := h1
    obtain ⟨a, dx, vfs, rfl, e1, r2⟩ := insD_rep k1 r1 q
    exact ⟨a, dx, vfs, rfl, e1, S1, μ1, [d1], R, k1, .cons r1 .nil, h1, fun S3 μ3 H3 v d k3 s3 r3 h3 => post S3 μ3 H3 v d k3 (s1.trans s3) r3 h3⟩
end

/-! ### a new instance -/
/-- s: __init__'s; behind it the instance is data -/
def gMake (C : Addr) (s : GN) : GN := fun ds μ R => ∀ x, μ x = none → s (.ref x :: ds) (updM μ x (.ins C [])) fun v μ2 => v = .non ∧ (match μ2 x with
  | some (.ins C' fs) => R (.ins C' fs) (delM μ2 x)
  | _ => False)
section
variable {K : PySem.W.Frag} {S H : Hp} {μ : MH} {C : Addr} {s : GN}
theorem OK.newI {x dx : Addr} (k : OK K S μ H) (hx : H x = none) (hd : H dx = none) (hn : dx ≠ x) :
    OK K S (updM μ x (.ins C [])) (upd (upd H dx (.own x)) x (.ins C dx [])) ∧ Stp S μ H S (updM μ x (.ins C [])) (upd (upd H dx (.own x)) x (.ins C dx [])) := by
  have k1 := k.hide (o := .own x) hd
  have hx1 : upd H dx (.own x) x = none := by rw [upd_ne hn.symm]; exact hx
  obtain ⟨hS, hM⟩ := k1.free hx1
  refine ⟨k1.put hS ⟨dx, [], upd_same, .nil⟩, fun _ _ h => h, fun _ _ h => .inl h, fun b o e _ _ => ?_, fun b m e => ?_⟩
  · rw [upd_ne (ne_of_none e hx), upd_ne (ne_of_none e hd)]; exact e
  · by_cases q : b = x
    · exact .inl (q ▸ free_none hx)
    · rw [updM_ne q] at e; exact .inr ⟨m, e⟩
theorem make_snd {R : D → MH → Prop} {Q : VK} {vs : List V} {ds : List D} {x dx : Addr} {E : XK} (k : OK K S μ H) (r : Reps K S vs ds) (q : gMake C s ds μ R) (post : Pst K S μ H R Q) (hx : H x = none) (hd : H dx = none) (hn : dx ≠ x) :
    spD K s (.ref x :: vs) (upd (upd H dx (.own x)) x (.ins C dx [])) (fun v H2 => v = .non ∧ Q (.ref x) H2) E := by
  obtain ⟨k1, s1⟩ := k.newI (C := C) hx hd hn
  refine ⟨S, _, .ref x :: ds, _, k1, .cons (.ref x) r, q x (k.free hx).2, fun S2 μ2 H2 v d k2 s2 r2 h2 => ?_⟩
  obtain ⟨rfl, h2⟩ := h2
  refine ⟨r2.toNon, ?_⟩
  cases e : μ2 x with
  | none => rw [e] at h2; exact h2.elim
  | some m =>
    cases m with
    | lst _ => rw [e] at h2; exact h2.elim
    | tab _ => rw [e] at h2; exact h2.elim
    | dk _ => rw [e] at h2; exact h2.elim
    | dct _ _ => rw [e] at h2; exact h2.elim
    | dkl _ _ _ => rw [e] at h2; exact h2.elim
    | ins C' fs =>
      rw [e] at h2
      obtain ⟨_, dx', vfs, e2, r3⟩ := k2.mts x _ e
      obtain ⟨k3, s3⟩ := k2.freeze e e2
      exact post _ _ _ _ _ k3 ((s1.trans s2).trans s3) (.ins upd_same (r3.mono s3.same)) h2
end
abbrev DK (X : Cx) (kws : List Keyword) (f : RA) : Prop := PK X kws (upA X.K f)
/-- the class x: g, what making it from all parameters' values asks; n: how many of the call's are positional, kw: the others' order -/
structure MkG (P : Program) (w : World) (K : PySem.W.Frag) (mg : Str → Option Value) (base : Heap) (k : Nat) (x : Str) (C : Addr) (s : GN) : Prop where
  ex : ∃ f fd ps, FnOk P w K mg base CX0 k f fd ps (spD K s) ∧ mg x = some (.ref C) ∧ Mk K C f ∧ Binds K fd ps []
def rMakeK (g : GN) (n m : Nat) (gD : List D → List D → List D) (fa fk : RA) : RX := fun ρ μ R => fa ρ μ fun ds μ1 => fk ρ μ1 fun zs μ2 => ds.length = n ∧ zs.length = m ∧ g (gD ds zs) μ2 R
section
variable {X : Cx} {k n : Nat} {C f : Addr} {x : Str} {fd : FuncData} {ps ks : List Str} {s : GN} {e : Expr} {es : List Expr} {kws : List Keyword} {fe : RX} {fa fk : RA} {p pos kpos : Pos} {nm : Option Str}
theorem dk_nil : DK X [] rNil := ⟨fun pos pins s σ H Q I ⟨S, μ, ρ, R, k, e, h, post⟩ => pk_nil.run pos pins s σ H Q I (post S μ H [] [] k .refl .nil h)⟩
theorem dk_cons (ha : DE X e fe) (hr : DK X kws fa) : DK X (⟨nm, e, kpos⟩ :: kws) (rCons fe fa) := ⟨fun pos pins s σ H Q I ⟨S, μ, ρ, R, k, e, h, post⟩ => (pk_cons ha hr).run pos pins s σ H Q I (by
  refine ⟨S, μ, ρ, _, k, e, h, fun S1 μ1 H1 v1 d1 k1 s1 r1 h1 => ?_⟩
  exact ⟨S1, μ1, ρ, _, k1, e.mono s1.same, h1, fun S2 μ2 H2 vs ds k2 s2 r2 h2 => post S2 μ2 H2 _ _ k2 (s1.trans s2) (.cons (r1.mono s2.same) r2) h2⟩)⟩
/-- how a keyword call of a class binds: dw, the defaults' values that fill up -/
structure MkK (P : Program) (w : World) (K : PySem.W.Frag) (mg : Str → Option Value) (base : Heap) (k : Nat) (x : Str) (C : Addr) (s : GN) (n : Nat) (ks : List Str) (gD : List D → List D → List D) : Prop where
  ex : ∃ f fd ps g gV, FnOk P w K mg base CX0 k f fd ps (spD K s) ∧ mg x = some (.ref C) ∧ Mk K C f ∧ KBn K fd ps (n + 1) ks g gV ∧
    ∀ (y : V) (b : D) (vs zs : List V) (ds es : List D) (S : Hp), Rep K S y b → Reps K S vs ds → Reps K S zs es → Reps K S (gV (y :: vs) zs) (b :: gD ds es)
theorem de_makeK {m : Nat} {gD : List D → List D → List D} (F : MkK X.prog X.w X.K X.mg X.base k x C s n ks gD) (hr : Room (k + 1) X.A) (hg : Gl X x) (ha : DA X (e :: es) fa) (hkw : DK X kws fk)
    (hall : (backToKw pos (keywordEach kws X.env)).all (·.1.isSome) = true := by rfl) (hks : (backToKw pos (keywordEach kws X.env)).filterMap (·.1) = ks := by rfl) (hdb : (x == ("__debug__" : Str)) = false := by decide)
    (he : starEach (e :: es) X.env = (false, eval e X.env) :: starEach es X.env := by rfl) (hpl : ((backTo pos (starEach (e :: es) X.env)).any (·.1) || (backToKw pos (keywordEach kws X.env)).any (·.1.isNone)) = false := by rfl) (hm : ks.length = m := by rfl) :
    DE X (.Call (.Name x p) (e :: es) kws pos) (rMakeK (gMake C s) n m gD fa fk) := by
  subst hm
  obtain ⟨f, fd, ps, g, gV, a, b, c, d, rel⟩ := F.ex
  refine pe_imp (pe_makeK c a hr hg b d pass0 ha hkw hall hks hdb he hpl) fun σ H Q ⟨S, μ, ρ, R, k, e, h, post⟩ => ?_
  refine ⟨S, μ, ρ, _, k, e, h, fun S1 μ1 H1 vs ds k1 s1 r1 h1 => ?_⟩
  refine ⟨S1, μ1, ρ, _, k1, e.mono s1.same, h1, fun S2 μ2 H2 zs es k2 s2 r2 h2 => ?_⟩
  obtain ⟨l1, l2, h2⟩ := h2
  refine ⟨by rw [r1.length]; exact l1, by rw [r2.length]; exact l2, fun y dx hx hd hn => ?_⟩
  obtain ⟨k3, s3⟩ := k2.newI (C := C) hx hd hn
  have z := rel (.ref y) (.ref y) vs zs ds es S2 (.ref y) (r1.mono s2.same) r2
  refine ⟨S2, _, _, _, k3, z, h2 y (k2.free hx).2, fun S4 μ4 H4 v d k4 s4 r4 h4 => ?_⟩
  obtain ⟨rfl, h4⟩ := h4
  refine ⟨r4.toNon, ?_⟩
  cases e : μ4 y with
  | none => rw [e] at h4; exact h4.elim
  | some m =>
    cases m with
    | lst _ => rw [e] at h4; exact h4.elim
    | tab _ => rw [e] at h4; exact h4.elim
    | dk _ => rw [e] at h4; exact h4.elim
    | dct _ _ => rw [e] at h4; exact h4.elim
    | dkl _ _ _ => rw [e] at h4; exact h4.elim
    | ins C' fs =>
      rw [e] at h4
      obtain ⟨_, dx', vfs, e2, r3⟩ := k4.mts y _ e
      obtain ⟨k5, s5⟩ := k4.freeze e e2
      exact post _ _ _ _ _ k5 (((s1.trans s2).trans s3).trans (s4.trans s5)) (.ins upd_same (r3.mono s5.same)) h4
end

/-! ### own operators -/
def gOwn2 (C : Addr) (s : GN) : G2 := fun x y μ R => (insD μ x).map (·.1) = some C ∧ (insD μ y).map (·.1) = some C ∧ s [x, y] μ R
def gOwn1 (C : Addr) (s : GN) : G1 := fun x μ R => (insD μ x).map (·.1) = some C ∧ s [x] μ R
section
variable {K : PySem.W.Frag} {X : Cx} {k : Nat} {C g : Addr} {s : GN} {a b : Expr} {fa fb : RX} {pos : Pos} {rc : Option Value}
theorem cmpBack_of {v : V} {u : Value} {Q : Value → Shared → Prop} {s' : Shared} (r : L2.RelV v u) (h : Q u s') : PySem.W.CmpBack Q u s' := by
  cases u <;> first | exact h | (exfalso; cases v <;> first | (cases r; done) | (obtain ⟨t, e⟩ := r; cases e))
/-- x op y, both instances of C -/
theorem op_own {op : Operator} (F : MtG X.prog X.w X.K X.mg X.base k C g s) (hr : Room k X.A) (hc : PySem.W.selfFirst X.K C = true) (hs : PySem.W.findIn X.K (.ref C) (PySem.dunder op.info.2) = some (some (.ref g))) (hf : PySem.W.isFn X.K (.ref g) = true) :
    OpR X (binaryOp op) (fun x y H Q => ∃ p q dx dy fs gs, x = .ref p ∧ y = .ref q ∧ H p = some (.ins C dx fs) ∧ H q = some (.ins C dy gs) ∧ spD X.K s [x, y] H Q E0) := by
  intro pins st0 σ H x y v u Q I rx ry h
  obtain ⟨p, q, dx, dy, fs, gs, rfl, rfl, h1, h2, hsp⟩ := h
  obtain ⟨mA, O, _⟩ := ins_get I.hok h1
  obtain ⟨mB, O2, _⟩ := ins_get I.hok h2
  obtain ⟨od, J, _⟩ := O.look
  obtain ⟨od2, J2, _⟩ := O2.look
  obtain ⟨m, hF⟩ := I.fr
  cases rx
  cases ry
  refine PySem.W.binop_K hF I.ok.mod.kin J J2.type hc hs hf ?_
  have r2 : Vals [V.ref p, V.ref q] [Value.ref p, Value.ref q] := .cons rfl (.cons rfl .nil)
  refine wpAny_call (codeAny_mono (run_fnR F.raw hr pass0 I r2 hsp) fun r s' z => ?_)
  cases r with
  | error e => exact z
  | ok fl =>
    cases fl with
    | ret u =>
      obtain ⟨v, H', I', rv, hq⟩ := z
      exact cmpBack_of rv ⟨v, H', I', rv, hq⟩
    | next => exact z.elim
    | brk => exact z.elim
    | cont => exact z.elim
/-- ~x -/
theorem un_own (F : MtG X.prog X.w X.K X.mg X.base k C g s) (hr : Room k X.A) (hs : PySem.W.findIn X.K (.ref C) "__invert__" = some (some (.ref g))) (hf : PySem.W.isFn X.K (.ref g) = true) :
    UnR X (unaryOp .Invert) (fun x H Q => ∃ p dx fs, x = .ref p ∧ H p = some (.ins C dx fs) ∧ spD X.K s [x] H Q E0) := by
  intro pins st0 σ H x v Q I rx h
  obtain ⟨p, dx, fs, rfl, h1, hsp⟩ := h
  obtain ⟨mA, O, _⟩ := ins_get I.hok h1
  obtain ⟨od, J, _⟩ := O.look
  obtain ⟨m, hF⟩ := I.fr
  cases rx
  refine PySem.W.ksp_inv hF I.ok.mod.kin J hs hf ?_
  have r2 : Vals [V.ref p] [Value.ref p] := .cons rfl .nil
  refine wpAny_call (codeAny_mono (run_fnR F.raw hr pass0 I r2 hsp) fun r s' z => ?_)
  cases r with
  | error e => exact z
  | ok fl =>
    cases fl with
    | ret u => exact z
    | next => exact z.elim
    | brk => exact z.elim
    | cont => exact z.elim
theorem insC_rep {S H : Hp} {μ : MH} {v : V} {d : D} (k : OK K S μ H) (r : Rep K S v d) (e : (insD μ d).map (·.1) = some C) : ∃ a dx vfs, v = .ref a ∧ H a = some (.ins C dx vfs) := by
  cases q : insD μ d with
  | none => rw [q] at e; cases e
  | some z =>
    obtain ⟨C', fs⟩ := z
    rw [q] at e
    have e : C' = C := Option.some.inj e
    subst e
    obtain ⟨a, dx, vfs, h1, h2, _⟩ := insD_rep k r q
    exact ⟨a, dx, vfs, h1, h2⟩
theorem snd_own2 : Snd2 K (fun x y H Q => ∃ p q dx dy fs gs, x = .ref p ∧ y = .ref q ∧ H p = some (.ins C dx fs) ∧ H q = some (.ins C dy gs) ∧ spD K s [x, y] H Q E0) (gOwn2 C s) := by
  intro S μ H x y dx dy R Q k rx ry q post
  obtain ⟨e1, e2, q⟩ := q
  obtain ⟨a, da, va, rfl, h1⟩ := insC_rep k rx e1
  obtain ⟨b, db, vb, rfl, h2⟩ := insC_rep k ry e2
  exact ⟨a, b, da, db, va, vb, rfl, rfl, h1, h2, S, μ, [dx, dy], R, k, .cons rx (.cons ry .nil), q, post⟩
theorem snd_own1 : Snd1 K (fun x H Q => ∃ p dx fs, x = .ref p ∧ H p = some (.ins C dx fs) ∧ spD K s [x] H Q E0) (gOwn1 C s) := by
  intro S μ H x dx R Q k rx q post
  obtain ⟨e1, q⟩ := q
  obtain ⟨a, da, va, rfl, h1⟩ := insC_rep k rx e1
  exact ⟨a, da, va, rfl, h1, S, μ, [dx], R, k, .cons rx .nil, q, post⟩
theorem de_opO {op : Operator} (F : MtG X.prog X.w X.K X.mg X.base k C g s) (hr : Room k X.A) (hc : PySem.W.selfFirst X.K C = true) (hs : PySem.W.findIn X.K (.ref C) (PySem.dunder op.info.2) = some (some (.ref g))) (hf : PySem.W.isFn X.K (.ref g) = true)
    (ha : DE X a fa) (hb : DE X b fb) : DE X (.BinOp a op b pos) (rOp (gOwn2 C s) fa fb) := de_op (op_own F hr hc hs hf) snd_own2 ha hb
theorem de_inv (F : MtG X.prog X.w X.K X.mg X.base k C g s) (hr : Room k X.A) (hs : PySem.W.findIn X.K (.ref C) "__invert__" = some (some (.ref g))) (hf : PySem.W.isFn X.K (.ref g) = true)
    (ha : DE X a fa) : DE X (.UnaryOp .Invert a pos) (rUn (gOwn1 C s) fa) := pe_imp (pe_un (un_own F hr hs hf) ha) (up_un snd_own1)
end
end L3

/-! ## L3e -/
set_option Elab.async false
set_option linter.all false
set_option maxRecDepth 100000
set_option maxHeartbeats 4000000
namespace L3
open PySem PySem.Spec PyProof.Rows L2

/-! ### targets -/
abbrev RG := D → EV → MH → (EV → MH → Prop) → Prop
/-- v is stored; the slots beside those in vs stay -/
def upG (K : PySem.W.Frag) (g : RG) (vs : List Nat) : TG := fun v σ H Q => ∃ S μ ρ d QQ, OK K S μ H ∧ RepE K S σ ρ ∧ Rep K S v d ∧ g d ρ μ QQ ∧
  ∀ S' μ' H' σ' ρ', OK K S' μ' H' → Stp S μ H S' μ' H' → RepE K S' σ' ρ' → wipe σ' vs = wipe σ vs → QQ ρ' μ' → Q σ' H'
abbrev RGs := List D → EV → MH → (EV → MH → Prop) → Prop
def upGs (K : PySem.W.Frag) (g : RGs) (vs : List Nat) : TGs := fun ws σ H Q => ∃ S μ ρ ds QQ, OK K S μ H ∧ RepE K S σ ρ ∧ Reps K S ws ds ∧ g ds ρ μ QQ ∧
  ∀ S' μ' H' σ' ρ', OK K S' μ' H' → Stp S μ H S' μ' H' → RepE K S' σ' ρ' → wipe σ' vs = wipe σ vs → QQ ρ' μ' → Q σ' H'
abbrev DG (X : Cx) (e : Expr) (g : RG) (vs : List Nat) : Prop := PG X e (upG X.K g vs)
abbrev DGs (X : Cx) (es : List Expr) (g : RGs) (vs : List Nat) : Prop := PGs X es (upGs X.K g vs)
def rGN (i : Nat) : RG := fun d ρ μ Q => Q (st ρ i d) μ
def rGTup (n : Nat) (g : RGs) : RG := fun d ρ μ Q => match d with
  | .tup ds => ds.length = n ∧ g ds ρ μ Q
  | _ => False
def rGNil : RGs := fun ds ρ μ Q => ds = [] ∧ Q ρ μ
def rGCons (g : RG) (gs : RGs) : RGs := fun ds ρ μ Q => match ds with
  | d :: r => g d ρ μ fun ρ1 μ1 => gs r ρ1 μ1 Q
  | [] => False
theorem pg_imp {X : Cx} {e : Expr} {t u : TG} (h : PG X e t) (i : ∀ v σ H Q, u v σ H Q → t v σ H Q) : PG X e u := ⟨fun pins s σ H v w Q I r q => h.run pins s σ H v w Q I r (i v σ H Q q)⟩
theorem pgs_imp {X : Cx} {es : List Expr} {t u : TGs} (h : PGs X es t) (i : ∀ v σ H Q, u v σ H Q → t v σ H Q) : PGs X es u := ⟨fun pins s σ H v w Q I r q => h.run pins s σ H v w Q I r (i v σ H Q q)⟩
theorem wipe_set {σ : L2.St} {v : Option V} {i : Nat} : ∀ {vs : List Nat}, i ∈ vs → wipe (σ.set i v) vs = wipe σ vs
  | j :: vs, h => by
    unfold wipe
    by_cases e : i = j
    · subst e
      by_cases m : i ∈ vs
      · rw [wipe_set m]
      · have key : ∀ vs : List Nat, i ∉ vs → wipe (σ.set i v) vs = (wipe σ vs).set i v := by
          intro vs
          induction vs with
          | nil => intro _; rfl
          | cons k ks ih =>
            intro hn
            simp only [List.mem_cons, not_or] at hn
            unfold wipe
            rw [ih hn.2, List.set_comm _ _ hn.1]
        rw [key vs m, List.set_set]
    · rw [wipe_set (List.mem_of_ne_of_mem e h)]
section
variable {X : Cx} {e : Expr} {es : List Expr} {g : RG} {gs : RGs} {vs : List Nat} {pos : Pos}
theorem dg_name {i : Nat} {x : Str} (hN : X.N.Nodup) (hi : X.N[i]? = some x := by rfl) (hx : Loc X.env.scope x := by first | exact Or.inl rfl | exact Or.inr rfl) (hf : X.fn x = true ∨ X.env.scope.names.lookup x = some .local := by first | exact .inl rfl | exact .inr rfl)
    (hm : i ∈ vs := by first | exact List.mem_cons_self .. | decide) : DG X (.Name x pos) (rGN i) vs := pg_imp (pg_name hN hi hx hf) fun v σ H Q ⟨S, μ, ρ, d, QQ, k, e, r, h, post⟩ =>
  post S μ H _ _ k .refl (e.set r i) (wipe_set hm) h
theorem dgs_nil : DGs X [] rGNil vs := pgs_imp pgs_nil fun v σ H Q ⟨S, μ, ρ, d, QQ, k, e, r, h, post⟩ => by
  obtain ⟨rfl, h⟩ := h
  cases r
  exact ⟨rfl, post S μ H σ ρ k .refl e rfl h⟩
theorem dgs_cons (h1 : DG X e g vs) (h2 : DGs X es gs vs) (hs : (assignEach (e :: es) X.env).map (·.2) = assign e X.env :: (assignEach es X.env).map (·.2) := by rfl) : DGs X (e :: es) (rGCons g gs) vs := pgs_imp (pgs_cons h1 h2 hs) fun v σ H Q ⟨S, μ, ρ, ds, QQ, k, e, r, h, post⟩ => by
  cases r with
  | nil => exact h.elim
  | cons r rr =>
    refine ⟨_, _, rfl, S, μ, ρ, _, _, k, e, r, h, fun S1 μ1 H1 σ1 ρ1 k1 s1 e1 w1 h1 => ?_⟩
    exact ⟨S1, μ1, ρ1, _, QQ, k1, e1, rr.mono s1.same, h1, fun S2 μ2 H2 σ2 ρ2 k2 s2 e2 w2 h2 => post S2 μ2 H2 σ2 ρ2 k2 (s1.trans s2) e2 (w2.trans w1) h2⟩
theorem dg_tup {k : Nat} {n : Nat} (h : DGs X es gs vs) (hc : X.calm = true := by rfl) (hn : (assignEach es X.env).length = n := by rfl) (hst : (assignEach es X.env).findIdx? (·.1) = none := by rfl) : DG X (.Tuple es k pos) (rGTup n gs) vs := pg_imp (pg_tup hc h hn hst) fun v σ H Q ⟨S, μ, ρ, d, QQ, k, e, r, h, post⟩ => by
  cases d <;> first | exact False.elim h | skip
  obtain ⟨a, ws, rfl, h1, r1⟩ := r.toTup
  obtain ⟨hl, h⟩ := h
  exact ⟨a, ws, rfl, sqT_same k.sub h1, by rw [r1.length]; exact hl, S, μ, ρ, _, QQ, k, e, r1, h, post⟩
/-- a, b, .. = a list -/
def rGLst (n : Nat) (g : RGs) : RG := fun d ρ μ Q => match res μ d with
  | .lst ds => ds.length = n ∧ g ds ρ μ Q
  | _ => False
end

/-! ### statements -/
def rNext : RS := fun D ρ μ => D.nx ρ μ
def rSeq (f g : RS) : RS := fun D ρ μ => f { D with nx := fun ρ1 μ1 => g D ρ1 μ1 } ρ μ
def rAsg (f : RX) (g : RG) : RS := fun D ρ μ => f ρ μ fun d μ1 => g d ρ μ1 D.nx
def rRet (f : RX) : RS := fun D ρ μ => f ρ μ D.rt
def rRetN : RS := fun D _ μ => D.rt .non μ
def rDrop (f : RX) : RS := fun D ρ μ => f ρ μ fun _ μ1 => D.nx ρ μ1
def rIf (t : RT) (f g : RS) : RS := fun D ρ μ => t ρ μ fun b μ1 => if b = true then f D ρ μ1 else g D ρ μ1
def rNever : RS := fun _ _ _ => False
def rPar (i j : Nat) (fa : RA) : RS := fun D ρ μ => fa ρ μ fun ds μ1 => match ds with
  | [a, b] => D.nx (st (st ρ i a) j b) μ1
  | _ => False
section
variable {X : Cx} {a b : Stmt} {as bs rest : List Stmt} {f g : RS} {fe : RX} {ft : RT} {e c tg : Expr} {gg : RG} {pos : Pos} {vs : List Nat}
theorem dss_nil : DSs X [] rNext := pss_imp pss_nil fun D σ H ⟨S, μ, ρ, DD, k, e, h, l⟩ => l.nx S μ H σ ρ k .refl e h
theorem dss_cons (h1 : DS X a f) (h2 : DSs X rest g) : DSs X (a :: rest) (rSeq f g) := pss_imp (pss_cons h1 h2) fun D σ H ⟨S, μ, ρ, DD, k, e, h, l⟩ =>
  ⟨S, μ, ρ, _, k, e, h, ⟨fun S1 μ1 H1 σ1 ρ1 k1 s1 e1 q1 => ⟨S1, μ1, ρ1, DD, k1, e1, q1, l.stp s1⟩, l.rt, l.bk, l.ct⟩⟩
theorem dss_one (h1 : DS X a f) : DSs X [a] f := pss_one h1
theorem ds_never : DS X a rNever := ps_imp ps_never fun D σ H ⟨S, μ, ρ, DD, k, e, h, l⟩ => h
theorem ds_expr (he : DE X e fe) (hs : swapsWith e none pos.line X.env = pure false := by rfl) : DS X (.Expr e pos) (rDrop fe) := ps_imp (ps_expr he hs) fun D σ H ⟨S, μ, ρ, DD, k, e, h, l⟩ =>
  ⟨S, μ, ρ, _, k, e, h, fun S1 μ1 H1 v d k1 s1 r1 q1 => l.nx S1 μ1 H1 σ ρ k1 s1 (e.mono s1.same) q1⟩
theorem ds_ret (he : DE X e fe) : DS X (.Return (some e) pos) (rRet fe) := ps_imp (ps_ret he) fun D σ H ⟨S, μ, ρ, DD, k, e, h, l⟩ => ⟨S, μ, ρ, _, k, e, h, l.rt⟩
theorem ds_if (hc : DT X c ft) (ha : DSs X as f) (hb : DSs X bs g) : DS X (.If c as bs pos) (rIf ft f g) := ps_imp (ps_if hc ha hb) fun D σ H ⟨S, μ, ρ, DD, k, e, h, l⟩ => by
  refine ⟨S, μ, ρ, _, k, e, h, fun S1 μ1 H1 b1 k1 s1 h1 => ?_⟩
  cases b1 with
  | true => rw [if_pos rfl] at h1 ⊢; exact ⟨S1, μ1, ρ, DD, k1, e.mono s1.same, h1, l.stp s1⟩
  | false => rw [if_neg Bool.false_ne_true] at h1 ⊢; exact ⟨S1, μ1, ρ, DD, k1, e.mono s1.same, h1, l.stp s1⟩
theorem up_asg : ∀ D σ H, upS X.K (rAsg fe gg) D σ H → tAsg (up X.K fe) (upG X.K gg vs) D σ H := fun D σ H ⟨S, μ, ρ, DD, k, e, h, l⟩ => by
  refine ⟨S, μ, ρ, _, k, e, h, fun S1 μ1 H1 v d k1 s1 r1 q1 => ?_⟩
  exact ⟨S1, μ1, ρ, d, _, k1, e.mono s1.same, r1, q1, fun S2 μ2 H2 σ2 ρ2 k2 s2 e2 _ q2 => l.nx S2 μ2 H2 σ2 ρ2 k2 (s1.trans s2) e2 q2⟩
theorem ds_asg (he : DE X e fe) (hg : DG X tg gg vs) (hs : swapsWithSole [tg] e pos.line X.env = pure false := by rfl) (hw : swappedStores [tg] e X.env = pure none := by rfl)
    (h1 : (assignEach [tg] X.env).map (·.2) = [assign tg X.env] := by rfl) : DS X (.Assign [tg] e pos) (rAsg fe gg) := ps_imp (ps_asg he hg hs hw h1) up_asg
theorem ds_set {i : Nat} {x : Str} {pos' : Pos} (hN : X.N.Nodup) (he : DE X e fe) (hi : X.N[i]? = some x := by rfl) (hx : Loc X.env.scope x := by first | exact Or.inl rfl | exact Or.inr rfl) (hs : swapsWith e (some (.Name x pos')) pos.line X.env = pure false := by rfl)
    (hf : X.fn x = true ∨ X.env.scope.names.lookup x = some .local := by first | exact .inl rfl | exact .inr rfl) : DS X (.Assign [.Name x pos'] e pos) (rAsg fe (rGN i)) := ps_imp (ps_set hN hi hx he hs hf) fun D σ H ⟨S, μ, ρ, DD, k, e, h, l⟩ =>
  ⟨S, μ, ρ, _, k, e, h, fun S1 μ1 H1 v d k1 s1 r1 q1 => l.nx S1 μ1 H1 _ _ k1 s1 ((e.mono s1.same).set r1 i) q1⟩
theorem ds_par {i j : Nat} {x y : Str} {a b : Expr} {fa : RA} {px py pt : Pos} {kt k2 pt2} (hN : X.N.Nodup) (ha : DA X [a, b] fa) (hij : i ≠ j := by decide) (hi : X.N[i]? = some x := by rfl) (hj : X.N[j]? = some y := by rfl)
    (hx : X.env.scope.names.lookup x = some .local := by rfl) (hy : X.env.scope.names.lookup y = some .local := by rfl) (hc : X.calm = true := by rfl)
    (hw : swappedStores [.Tuple [.Name x px, .Name y py] kt pt] (.Tuple [a, b] k2 pt2) X.env = pure (some [x, y]) := by rfl)
    (hs : swapsWithSole [.Tuple [.Name x px, .Name y py] kt pt] (.Tuple [a, b] k2 pt2) pos.line X.env = pure false := by rfl) :
    DS X (.Assign [.Tuple [.Name x px, .Name y py] kt pt] (.Tuple [a, b] k2 pt2) pos) (rPar i j fa) := ps_imp (ps_par hc hN hi hj hij hx hy ha hw hs) fun D σ H ⟨S, μ, ρ, DD, k, e, h, l⟩ => by
  refine ⟨S, μ, ρ, _, k, e, h, fun S1 μ1 H1 ws ds k1 s1 r1 q1 => ?_⟩
  unfold rPar at q1
  split at q1
  · obtain ⟨v, w, rfl, r2, r3⟩ := reps2 r1
    exact ⟨v, w, rfl, l.nx S1 μ1 H1 _ _ k1 s1 (((e.mono s1.same).set r2 i).set r3 j) q1⟩
  · exact q1.elim
end
section
variable {X : Cx} {e : Expr} {fe : RX} {pos : Pos} {i : Nat} {x : Str} {pos' : Pos}
end

/-! ### while -/
def rWhile (c : RT) (b : RS) : RS := fun D ρ μ => ∃ (W : EV → MH → Prop) (m : EV → MH → Nat), W ρ μ ∧ ∀ ρ μ, W ρ μ → c ρ μ fun k μ1 =>
  if k = true then b { D with nx := fun ρ' μ' => W ρ' μ' ∧ m ρ' μ' < m ρ μ, ct := fun ρ' μ' => W ρ' μ' ∧ m ρ' μ' < m ρ μ, bk := D.nx } ρ μ1 else D.nx ρ μ1
theorem ds_while {X : Cx} {c : Expr} {body : List Stmt} {fc : RT} {fb : RS} {pos : Pos} (hc : DT X c fc) (hb : DSs X body fb) (hp : PassesOwn (model X.prog X.w) X.A X.env X.xe := by exact PassesOwn.never) : DS X (.While c body [] pos) (rWhile fc fb) :=
  ps_imp (ps_while hp hc hb) fun D σ H ⟨S, μ, ρ, DD, k, e, h, l⟩ => by
    obtain ⟨W, m, w0, turn⟩ := h
    refine ⟨fun n σ' H' => ∃ S' μ' ρ', OK X.K S' μ' H' ∧ Stp S μ H S' μ' H' ∧ RepE X.K S' σ' ρ' ∧ W ρ' μ' ∧ n = m ρ' μ', ⟨_, S, μ, ρ, k, .refl, e, w0, rfl⟩, ?_⟩
    rintro n σ1 H1 ⟨S1, μ1, ρ1, k1, s1, e1, w1, rfl⟩
    refine ⟨S1, μ1, ρ1, _, k1, e1, turn ρ1 μ1 w1, fun S2 μ2 H2 b2 k2 s2 q2 => ?_⟩
    cases b2 with
    | false => rw [if_neg Bool.false_ne_true] at q2 ⊢; exact l.nx S2 μ2 H2 _ _ k2 (s1.trans s2) (e1.mono s2.same) q2
    | true =>
      rw [if_pos rfl] at q2 ⊢
      refine ⟨fun σ' H' => ∃ S' μ' ρ', OK X.K S' μ' H' ∧ Stp S μ H S' μ' H' ∧ RepE X.K S' σ' ρ' ∧ W ρ' μ' ∧ m ρ' μ' < m ρ1 μ1, fun σ' H' ⟨S', μ', ρ', a, b, c, d, f⟩ => ⟨_, f, S', μ', ρ', a, b, c, d, rfl⟩, ?_⟩
      refine ⟨S2, μ2, ρ1, _, k2, e1.mono s2.same, q2, ⟨fun S3 μ3 H3 σ3 ρ3 k3 s3 e3 q3 => ?_, fun S3 μ3 H3 v d k3 s3 r3 q3 => ?_, fun S3 μ3 H3 σ3 ρ3 k3 s3 e3 q3 => ?_, fun S3 μ3 H3 σ3 ρ3 k3 s3 e3 q3 => ?_⟩⟩
      · exact ⟨S3, μ3, ρ3, k3, (s1.trans s2).trans s3, e3, q3.1, q3.2⟩
      · exact l.rt S3 μ3 H3 v d k3 ((s1.trans s2).trans s3) r3 q3
      · exact l.nx S3 μ3 H3 σ3 ρ3 k3 ((s1.trans s2).trans s3) e3 q3
      · exact ⟨S3, μ3, ρ3, k3, (s1.trans s2).trans s3, e3, q3.1, q3.2⟩

/-! ### what is walked -/
/-- J gives the data ds, one by one, while C holds of the changeable objects -/
def ItOk (K : PySem.W.Frag) (S : Hp) (J : It) (ds : List D) (C : MH → Prop) : Prop :=
  ∀ S1 μ1 H1, OK K S1 μ1 H1 → Same S S1 → C μ1 → ∀ i,
    (∀ d, ds[i]? = some d → J.go i H1 ∧ ∀ x H', J.yld i H1 x H' → ∃ S2, OK K S2 μ1 H' ∧ Stp S1 μ1 H1 S2 μ1 H' ∧ Rep K S2 x d) ∧ (i = ds.length → J.stop i H1)
abbrev RI := EV → MH → (List D → (MH → Prop) → MH → Prop) → Prop
def upI (K : PySem.W.Frag) (f : RI) : TI := fun σ H R => ∃ S μ ρ RR, OK K S μ H ∧ RepE K S σ ρ ∧ f ρ μ RR ∧
  ∀ S' μ' H' J ds C, OK K S' μ' H' → Stp S μ H S' μ' H' → ItOk K S' J ds C → RR ds C μ' → R J H'
abbrev DI (X : Cx) (tg e : Expr) (f : RI) : Prop := PI X tg e (upI X.K f)
theorem pi_imp {X : Cx} {tg e : Expr} {t u : TI} (h : PI X tg e t) (i : ∀ σ H R, u σ H R → t σ H R) : PI X tg e u := ⟨fun pins s σ H R I q => h.run pins s σ H R I (i σ H R q)⟩
def tru : MH → Prop := fun _ => True
/-- a list: of data, or a changeable one that stays -/
def rILst (f : RX) : RI := fun ρ μ R => f ρ μ fun d μ1 => match d with
  | .lst ds => R ds tru μ1
  | .scr ds => R ds tru μ1
  | .ref p => (match μ1 p with
    | some (.lst ds) => R ds (fun μ => μ p = some (.lst ds)) μ1
    | _ => False)
  | _ => False
def rITup (f : RX) : RI := fun ρ μ R => f ρ μ fun d μ1 => match d with
  | .tup ds => R ds tru μ1
  | _ => False
def rangeD (lo : Int) : Nat → List D
  | 0 => []
  | n + 1 => .int lo :: rangeD (lo + 1) n
theorem rangeD_get : ∀ (n : Nat) (lo : Int) (i : Nat), (rangeD lo n)[i]? = if i < n then some (.int (lo + i)) else none
  | 0, _, _ => by simp [rangeD]
  | n + 1, lo, 0 => by simp [rangeD]
  | n + 1, lo, i + 1 => by
    show (rangeD (lo + 1) n)[i]? = _
    rw [rangeD_get n (lo + 1) i]
    by_cases h : i < n
    · rw [if_pos h, if_pos (by omega)]
      congr 2
      omega
    · rw [if_neg h, if_neg (by omega)]
theorem rangeD_len : ∀ (n : Nat) (lo : Int), (rangeD lo n).length = n
  | 0, _ => rfl
  | n + 1, lo => congrArg Nat.succ (rangeD_len n (lo + 1))
def inR (j : Int) : Prop := -(2 ^ 62) ≤ j ∧ j < 2 ^ 62
def rIRng1 (fa : RA) : RI := fun ρ μ R => fa ρ μ fun ds μ1 => match ds with
  | [.int j] => inR j ∧ R (rangeD 0 j.toNat) tru μ1
  | _ => False
def rIRng2 (fa : RA) : RI := fun ρ μ R => fa ρ μ fun ds μ1 => match ds with
  | [.int i, .int j] => inR i ∧ inR j ∧ R (rangeD i (j - i).toNat) tru μ1
  | _ => False
section
variable {X : Cx} {tg e a b : Expr} {fe : RX} {fa : RA} {p pos : Pos}
theorem itok_list {K : PySem.W.Frag} {S : Hp} {q : Addr} {vs : List V} {ds : List D} {C : MH → Prop} (h : ∀ S1 μ1 H1, OK K S1 μ1 H1 → Same S S1 → C μ1 → ∃ vs, SqL K H1 q vs ∧ Reps K S1 vs ds) : ItOk K S (Itl K q) ds C := fun S1 μ1 H1 k1 e1 c1 i => by
  obtain ⟨vs, hq, r⟩ := h S1 μ1 H1 k1 e1 c1
  refine ⟨fun d hd => ?_, fun hi => ⟨vs, hq, by rw [r.length]; exact Nat.le_of_eq hi.symm⟩⟩
  obtain ⟨v, hv, rv⟩ := r.get hd
  refine ⟨⟨vs, v, hq, hv⟩, fun x H' ⟨eH, fx⟩ => ?_⟩
  subst eH
  have ex : x = v := Option.some.inj ((fx vs hq).symm.trans hv)
  exact ⟨S1, k1, .refl, ex ▸ rv⟩
theorem itok_tup {K : PySem.W.Frag} {S : Hp} {q : Addr} {vs : List V} {ds : List D} {C : MH → Prop} (hq : SqT K S q vs) (r : Reps K S vs ds) : ItOk K S (Itt K q) ds C := fun S1 μ1 H1 k1 e1 c1 i => by
  have hq1 : SqT K H1 q vs := sqT_same k1.sub (sqT_same e1 hq)
  refine ⟨fun d hd => ?_, fun hi => ⟨vs, hq1, by rw [r.length]; exact Nat.le_of_eq hi.symm⟩⟩
  obtain ⟨v, hv, rv⟩ := r.get hd
  refine ⟨⟨vs, v, hq1, hv⟩, fun x H' ⟨eH, fx⟩ => ?_⟩
  subst eH
  have ex : x = v := Option.some.inj ((fx vs hq1).symm.trans hv)
  exact ⟨S1, k1, .refl, ex ▸ rv.mono e1⟩
theorem itok_range {K : PySem.W.Frag} {S : Hp} {lo : Int} {n : Nat} {C : MH → Prop} : ItOk K S (Itr lo n) (rangeD lo n) C := fun S1 μ1 H1 k1 e1 c1 i => by
  refine ⟨fun d hd => ?_, fun hi => ?_⟩
  · rw [rangeD_get] at hd
    by_cases h : i < n
    · rw [if_pos h] at hd
      cases hd
      refine ⟨h, fun x H' ⟨eH, ex⟩ => ?_⟩
      subst eH ex
      exact ⟨S1, k1, .refl, .int _⟩
    · rw [if_neg h] at hd; cases hd
  · rw [rangeD_len] at hi; exact Nat.le_of_eq hi.symm
theorem di_list (h : DE X e fe) : DI X tg e (rILst fe) := pi_imp (pi_list h) fun σ H R ⟨S, μ, ρ, RR, k, e, h, post⟩ => by
  refine ⟨S, μ, ρ, _, k, e, h, fun S1 μ1 H1 v d k1 s1 r1 q1 => ?_⟩
  cases d with
  | lst ds =>
    cases r1 with
    | lst a r =>
      exact ⟨_, rfl, ⟨_, .of (k1.sub _ _ a)⟩, post S1 μ1 H1 _ ds tru k1 s1 (itok_list (vs := []) fun S2 μ2 H2 k2 e2 _ => ⟨_, .of (k2.sub _ _ (e2 _ _ a)), r.mono e2⟩) q1⟩
  | scr ds =>
    cases r1 with
    | scr a r =>
      exact ⟨_, rfl, ⟨_, sqL_same k1.sub a⟩, post S1 μ1 H1 _ ds tru k1 s1 (itok_list (vs := []) fun S2 μ2 H2 k2 e2 _ => ⟨_, sqL_same k2.sub (sqL_same e2 a), r.mono e2⟩) q1⟩
  | ref p =>
    cases r1.toRef
    cases q : μ1 p with
    | none =>
      have q1 : (match μ1 p with | some (.lst ds) => RR ds (fun μ => μ p = some (.lst ds)) μ1 | _ => False) := q1
      rw [q] at q1; exact q1.elim
    | some m =>
      have q1 : (match μ1 p with | some (.lst ds) => RR ds (fun μ => μ p = some (.lst ds)) μ1 | _ => False) := q1
      rw [q] at q1
      cases m with
      | ins _ _ => exact q1.elim
      | tab _ => exact q1.elim
      | dk _ => exact q1.elim
      | dct _ _ => exact q1.elim
      | dkl _ _ _ => exact q1.elim
      | lst ds =>
        obtain ⟨_, vs, h2, r2⟩ := k1.mts p _ q
        exact ⟨p, rfl, ⟨vs, .of h2⟩, post S1 μ1 H1 _ ds _ k1 s1 (itok_list (vs := []) fun S2 μ2 H2 k2 e2 c2 => by
          obtain ⟨_, vs', h3, r3⟩ := k2.mts p _ c2
          exact ⟨vs', .of h3, r3⟩) q1⟩
  | _ => exact False.elim q1
theorem di_tup (h : DE X e fe) : DI X tg e (rITup fe) := pi_imp (pi_tup h) fun σ H R ⟨S, μ, ρ, RR, k, e, h, post⟩ => by
  refine ⟨S, μ, ρ, _, k, e, h, fun S1 μ1 H1 v d k1 s1 r1 q1 => ?_⟩
  cases d with
  | tup ds =>
    obtain ⟨a, vs, rfl, h2, r2⟩ := r1.toTup
    exact ⟨a, rfl, ⟨vs, sqT_same k1.sub h2⟩, post S1 μ1 H1 _ ds tru k1 s1 (itok_tup h2 r2) q1⟩
  | _ => exact False.elim q1
theorem di_range1 (hg : Gl X "range") (hm : X.mg "range" = none) (ha : DA X [a] fa) (hs : starEach [a] X.env = [(false, eval a X.env)] := by rfl) : DI X tg (.Call (.Name "range" p) [a] [] pos) (rIRng1 fa) := pi_imp (pi_range1 hg hm ha hs) fun σ H R ⟨S, μ, ρ, RR, k, e, h, post⟩ => by
  refine ⟨S, μ, ρ, _, k, e, h, fun S1 μ1 H1 ws ds k1 s1 r1 q1 => ?_⟩
  unfold rIRng1 at q1
  split at q1
  · obtain ⟨v, rfl, r2⟩ := reps1 r1
    cases r2.toInt
    obtain ⟨⟨a1, a2⟩, q1⟩ := q1
    exact ⟨_, rfl, a1, a2, post S1 μ1 H1 _ _ tru k1 s1 itok_range q1⟩
  · exact q1.elim
theorem di_range2 (hg : Gl X "range") (hm : X.mg "range" = none) (ha : DA X [a, b] fa) (hs : starEach [a, b] X.env = [(false, eval a X.env), (false, eval b X.env)] := by rfl) (hs2 : starEach [b] X.env = [(false, eval b X.env)] := by rfl) :
    DI X tg (.Call (.Name "range" p) [a, b] [] pos) (rIRng2 fa) := pi_imp (pi_range2 hg hm ha hs hs2) fun σ H R ⟨S, μ, ρ, RR, k, e, h, post⟩ => by
  refine ⟨S, μ, ρ, _, k, e, h, fun S1 μ1 H1 ws ds k1 s1 r1 q1 => ?_⟩
  unfold rIRng2 at q1
  split at q1
  · obtain ⟨v, w, rfl, r2, r3⟩ := reps2 r1
    cases r2.toInt
    cases r3.toInt
    obtain ⟨⟨a1, a2⟩, ⟨a3, a4⟩, q1⟩ := q1
    exact ⟨_, _, rfl, ⟨a1, a2, a3, a4⟩, post S1 μ1 H1 _ _ tru k1 s1 itok_range q1⟩
  · exact q1.elim
end

/-! ### for -/
def forD (g : RG) (b : RS) (C : MH → Prop) (D : Ed) : List L3.D → EV → MH → Prop
  | [], ρ, μ => C μ ∧ D.nx ρ μ
  | d :: r, ρ, μ => C μ ∧ g d ρ μ fun ρ1 μ1 => b { D with nx := forD g b C D r, ct := forD g b C D r, bk := D.nx } ρ1 μ1
def rFor (fi : RI) (g : RG) (b : RS) : RS := fun D ρ μ => fi ρ μ fun ds C μ1 => forD g b C D ds ρ μ1
theorem forD_c {g : RG} {b : RS} {C : MH → Prop} {D : Ed} {ds : List L3.D} {ρ : EV} {μ : MH} (h : forD g b C D ds ρ μ) : C μ := by
  cases ds with
  | nil => exact h.1
  | cons _ _ => exact h.1
theorem ds_for {X : Cx} {tg iter : Expr} {body : List Stmt} {fi : RI} {g : RG} {fb : RS} {vs : List Nat} {pos : Pos} (hi : DI X tg iter fi) (hg : DG X tg g vs) (hb : DSs X body fb) (hp : PassesOwn (model X.prog X.w) X.A X.env X.xe := by exact PassesOwn.never) (hc : X.calm = true := by rfl)
    (hs : ∀ x, foldedSetIterable iter X.env x = pure x := by intro _; rfl) : DS X (.For tg iter body [] pos) (rFor fi g fb) :=
  ps_imp (ps_for hp hc hi hg hb hs) fun D σ H ⟨S, μ, ρ, DD, k, e, h, l⟩ => by
    refine ⟨S, μ, ρ, _, k, e, h, fun S1 μ1 H1 J ds C k1 s1 it q1 => ?_⟩
    refine ⟨fun i m σ' H' => m = ds.length - i ∧ i ≤ ds.length ∧ ∃ S' μ' ρ', OK X.K S' μ' H' ∧ Stp S1 μ1 H1 S' μ' H' ∧ RepE X.K S' σ' ρ' ∧ forD g fb C DD (ds.drop i) ρ' μ', ⟨_, rfl, Nat.zero_le _, S1, μ1, ρ, k1, .refl, e.mono s1.same, by rw [List.drop_zero]; exact q1⟩, ?_⟩
    rintro i m σ2 H2 ⟨rfl, hi, S2, μ2, ρ2, k2, s2, e2, q2⟩
    have io := it S2 μ2 H2 k2 s2.same (forD_c q2) i
    by_cases hlt : i < ds.length
    · have hd : ds[i]? = some ds[i] := List.getElem?_eq_getElem hlt
      have ed : ds.drop i = ds[i] :: ds.drop (i + 1) := List.drop_eq_getElem_cons hlt
      rw [ed] at q2
      obtain ⟨hgo, hy⟩ := io.1 _ hd
      refine .inr ⟨hgo, fun σ' H' => ∃ S' μ' ρ', OK X.K S' μ' H' ∧ Stp S1 μ1 H1 S' μ' H' ∧ RepE X.K S' σ' ρ' ∧ forD g fb C DD (ds.drop (i + 1)) ρ' μ', fun σ' H' ⟨S', μ', ρ', a, b, c, d⟩ => ⟨ds.length - (i + 1), by omega, rfl, hlt, S', μ', ρ', a, b, c, d⟩, fun x H' y => ?_⟩
      obtain ⟨S3, k3, s3, r3⟩ := hy x H' y
      refine ⟨S3, μ2, ρ2, _, _, k3, e2.mono s3.same, r3, q2.2, fun S4 μ4 H4 σ4 ρ4 k4 s4 e4 _ q4 => ?_⟩
      have s14 := (s2.trans s3).trans s4
      refine ⟨S4, μ4, ρ4, _, k4, e4, q4, ⟨fun S5 μ5 H5 σ5 ρ5 k5 s5 e5 q5 => ?_, fun S5 μ5 H5 v d k5 s5 r5 q5 => ?_, fun S5 μ5 H5 σ5 ρ5 k5 s5 e5 q5 => ?_, fun S5 μ5 H5 σ5 ρ5 k5 s5 e5 q5 => ?_⟩⟩
      · exact ⟨S5, μ5, ρ5, k5, s14.trans s5, e5, q5⟩
      · exact l.rt S5 μ5 H5 v d k5 (s1.trans (s14.trans s5)) r5 q5
      · exact l.nx S5 μ5 H5 σ5 ρ5 k5 (s1.trans (s14.trans s5)) e5 q5
      · exact ⟨S5, μ5, ρ5, k5, s14.trans s5, e5, q5⟩
    · have ei : i = ds.length := by omega
      subst ei
      rw [List.drop_length] at q2
      exact .inl ⟨io.2 rfl, l.nx S2 μ2 H2 σ2 ρ2 k2 (s1.trans s2) e2 q2.2⟩

theorem Stp.aside {S S' H H' : Hp} {μ μ' : MH} {D : Addr} {o : HO} (s : Stp S μ H S' μ' H') (h : H D = none) : Stp S μ H S' μ' (upd H' D o) :=
  ⟨s.same, s.news, fun b x e1 e2 n => by rw [upd_ne (ne_of_none e1 h)]; exact s.keep b x e1 e2 n, s.mus⟩
theorem Stp.takeS {S S' H H' : Hp} {μ μ' : MH} {D : Addr} {o : HO} (s : Stp S μ H S' μ' H') (h : Free H D ∨ ∃ m, μ D = some m) (hS : S' D = none) : Stp S μ H (upd S' D o) μ' H' := by
  refine ⟨s.same.trans (same_updn hS), fun b x e => ?_, s.keep, s.mus⟩
  by_cases q : b = D
  · exact .inr (.inl (q ▸ h))
  · rw [upd_ne q] at e; exact s.news b x e
theorem Stp.put {S H : Hp} {μ : MH} {p : Addr} {m m' : MO} {o : HO} (h : μ p = some m) : Stp S μ H S (updM μ p m') (upd H p o) := by
  refine ⟨fun _ _ z => z, fun _ _ z => .inl z, fun b x e1 e2 _ => ?_, fun b x e => ?_⟩
  · have q : b ≠ p := fun z => by rw [z, h] at e2; cases e2
    rw [upd_ne q]; exact e1
  · by_cases q : b = p
    · exact .inr ⟨m, q ▸ h⟩
    · rw [updM_ne q] at e; exact .inr ⟨x, e⟩
theorem wipe_sub {ws : List Nat} : ∀ (vs : List Nat) (σ : L2.St), (∀ i ∈ vs, i ∈ ws) → wipe (wipe σ vs) ws = wipe σ ws
  | [], σ, _ => rfl
  | v :: vs, σ, s => by
    show wipe ((wipe σ vs).set v none) ws = _
    rw [wipe_set (s v (List.mem_cons_self ..)), wipe_sub vs σ fun i hi => s i (List.mem_cons_of_mem _ hi)]
theorem wipe_idem (vs : List Nat) (σ : L2.St) : wipe (wipe σ vs) vs = wipe σ vs := wipe_sub vs σ fun _ h => h

/-! ### comprehensions -/
def lcD (g : RG) (t : RT) (f : RX) (C : MH → Prop) (ρ : EV) : List L3.D → List L3.D → MH → (List L3.D → MH → Prop) → Prop
  | [], acc, μ, R => C μ ∧ R acc μ
  | d :: r, acc, μ, R => C μ ∧ g d ρ μ fun ρ1 μ1 => t ρ1 μ1 fun b μ2 => if b = true then f ρ1 μ2 fun y μ3 => lcD g t f C ρ r (acc ++ [y]) μ3 R else lcD g t f C ρ r acc μ2 R
theorem lcD_c {g : RG} {t : RT} {f : RX} {C : MH → Prop} {ρ : EV} {ds acc : List L3.D} {μ : MH} {R : List L3.D → MH → Prop} (h : lcD g t f C ρ ds acc μ R) : C μ := by
  cases ds with
  | nil => exact h.1
  | cons _ _ => exact h.1
def rLc (fi : RI) (g : RG) (t : RT) (f : RX) (vs : List Nat) : RX := fun ρ μ R => fi ρ μ fun ds C μ1 => ds.length ≤ sizeLine ∧ lcD g t f C (rms ρ vs) ds [] μ1 fun zs μ2 => R (.lst zs) μ2
def rLcM (fi : RI) (g : RG) (t : RT) (f : RX) (vs : List Nat) : RX := fun ρ μ R => fi ρ μ fun ds C μ1 => ds.length ≤ sizeLine ∧ lcD g t f C (rms ρ vs) ds [] μ1 fun zs μ2 => ∀ p, μ2 p = none → R (.ref p) (updM μ2 p (.lst zs))
def rTrue : RT := fun _ μ R => R true μ
abbrev DTs (X : Cx) (ifs : List Expr) (t : RT) : Prop := PTs X ifs (upT X.K t)
section
variable {X : Cx}
theorem pts_imp {es : List Expr} {t u : TT} (h : PTs X es t) (i : ∀ σ H Q, u σ H Q → t σ H Q) : PTs X es u := ⟨fun pins s σ H Q I q => h.run pins s σ H Q I (i σ H Q q)⟩
theorem dts_nil : DTs X [] rTrue := pts_imp pts_nil fun σ H Q ⟨S, μ, ρ, R, k, e, h, post⟩ => post S μ H _ k .refl h
theorem dts_one {c : Expr} {t : RT} (h : DT X c t) : DTs X [c] t := pts_one h
/-- the core: fin, what is wanted of the list at D -/
theorem up_lc {K : PySem.W.Frag} {fi : RI} {g : RG} {t : RT} {f : RX} {vs : List Nat} {S H : Hp} {μ : MH} {ρ : EV} {σ : L2.St} {Q : VK} {RR : List L3.D → MH → Prop} (k : OK K S μ H) (e : RepE K S σ ρ)
    (h : fi ρ μ fun ds C μ1 => ds.length ≤ sizeLine ∧ lcD g t f C (rms ρ vs) ds [] μ1 RR)
    (fin : ∀ S' μ' H' D zs ws, OK K S' μ' H' → Stp S μ H S' μ' H' → (Free H D ∨ ∃ m, μ D = some m) → S' D = none → μ' D = none → H' D = some (.lst ws) → Reps K S' ws zs → RR zs μ' → Q (.ref D) H') : tLc (upI K fi) (upG K g vs) (upT K t) (up K f) vs σ H Q := by
  refine ⟨S, μ, ρ, _, k, e, h, fun S1 μ1 H1 J ds C k1 s1 it q1 D hD => ?_⟩
  obtain ⟨hz, q1⟩ := q1
  obtain ⟨hSD, hMD⟩ := k1.free hD
  have HD : Free H D ∨ ∃ m, μ D = some m := by
    cases w : H D with
    | none => exact .inl (free_none w)
    | some o =>
      cases w2 : μ D with
      | none =>
        by_cases n : ∃ ps, o = .tbl ps
        · exact .inl fun o' e' => by rw [w] at e'; cases e'; exact n
        · rw [s1.keep D o w w2 fun ps z => n ⟨ps, z⟩] at hD; cases hD
      | some m => exact .inr ⟨m, rfl⟩
  refine ⟨fun i m H' => m = ds.length - i ∧ i ≤ ds.length ∧ ∃ S' μ' ws acc, OK K S' μ' H' ∧ Stp S1 μ1 H1 S' μ' H' ∧ S' D = none ∧ μ' D = none ∧ H' D = some (.lst ws) ∧ Reps K S' ws acc ∧ acc.length ≤ i ∧ lcD g t f C (rms ρ vs) (ds.drop i) acc μ' RR,
    ⟨_, rfl, Nat.zero_le _, S1, μ1, [], [], k1.hide hD, Stp.refl.aside hD, hSD, hMD, upd_same, .nil, Nat.le_refl _, by rw [List.drop_zero]; exact q1⟩, ?_⟩
  rintro i m H2 ⟨rfl, hi, S2, μ2, ws, acc, k2, s2, hS, hM, hL, ra, la, q2⟩
  have io := it S2 μ2 H2 k2 s2.same (lcD_c q2) i
  by_cases hlt : i < ds.length
  · have hd : ds[i]? = some ds[i] := List.getElem?_eq_getElem hlt
    have ed : ds.drop i = ds[i] :: ds.drop (i + 1) := List.drop_eq_getElem_cons hlt
    rw [ed] at q2
    obtain ⟨hgo, hy⟩ := io.1 _ hd
    -- what stays true of the list at D
    have st : ∀ {S3 μ3 H3}, OK K S3 μ3 H3 → Stp S2 μ2 H2 S3 μ3 H3 → S3 D = none ∧ μ3 D = none ∧ H3 D = some (.lst ws) ∧ Reps K S3 ws acc := fun {S3 μ3 H3} k3 z => by
      refine ⟨?_, ?_, z.keep _ _ hL hM (fun _ w => by cases w), ra.mono z.same⟩
      · cases w : S3 D with
        | none => rfl
        | some o =>
          rcases z.news D o w with a | (a | ⟨m, a⟩) | ⟨q, a⟩
          · rw [hS] at a; cases a
          · exact (free_no a hL fun _ w => by cases w).elim
          · rw [hM] at a; cases a
          · have a1 := k3.sub D o w
            rw [z.keep _ _ hL hM (fun _ w => by cases w), a] at a1
            unfold LamX.CodeO at a1
            cases a1
      · cases w : μ3 D with
        | none => rfl
        | some o =>
          rcases z.mus D o w with a | ⟨m, a⟩
          · exact (free_no a hL fun _ w => by cases w).elim
          · rw [hM] at a; cases a
    refine .inr ⟨hgo, fun H' => ∃ S' μ' ws acc, OK K S' μ' H' ∧ Stp S1 μ1 H1 S' μ' H' ∧ S' D = none ∧ μ' D = none ∧ H' D = some (.lst ws) ∧ Reps K S' ws acc ∧ acc.length ≤ i + 1 ∧ lcD g t f C (rms ρ vs) (ds.drop (i + 1)) acc μ' RR, fun H' z => ⟨ds.length - (i + 1), by omega, rfl, hlt, z⟩, fun x H' y => ?_⟩
    obtain ⟨S3, k3, s3, r3⟩ := hy x H' y
    have e3 : RepE K S3 (wipe σ vs) (rms ρ vs) := (((e.mono s1.same).mono s2.same).mono s3.same).wipe vs
    refine ⟨S3, μ2, rms ρ vs, _, _, k3, e3, r3, q2.2, fun S4 μ4 H4 σ4 ρ4 k4 s4 e4 w4 q4 => ?_⟩
    have s24 := s3.trans s4
    refine ⟨w4.trans (wipe_idem vs σ), S4, μ4, ρ4, _, k4, e4, q4, fun S5 μ5 H5 b5 k5 s5 q5 => ?_⟩
    have s25 := s24.trans s5
    cases b5 with
    | false =>
      rw [if_neg Bool.false_ne_true] at q5
      refine iteF ?_
      obtain ⟨a1, a2, a3, a4⟩ := st k5 s25
      exact ⟨S5, μ5, ws, acc, k5, s2.trans s25, a1, a2, a3, a4, by omega, q5⟩
    | true =>
      rw [if_pos rfl] at q5
      refine iteT ?_
      refine ⟨S5, μ5, ρ4, _, k5, e4.mono s5.same, q5, fun S6 μ6 H6 v6 d6 k6 s6 r6 q6 => ?_⟩
      have s26 := s25.trans s6
      obtain ⟨a1, a2, a3, a4⟩ := st k6 s26
      refine ⟨ws, a3, by rw [ra.length]; omega, S6, μ6, ws ++ [v6], acc ++ [d6], k6.aside a1 a2, (s2.trans s26).aside hD, a1, a2, upd_same, a4.append (.cons r6 .nil), by simp; omega, q6⟩
  · have ei : i = ds.length := by omega
    subst ei
    rw [List.drop_length] at q2
    exact .inl ⟨io.2 rfl, fin S2 μ2 H2 D acc ws k2 (s1.trans s2) HD hS hM hL ra q2.2⟩
theorem up_lcF {K : PySem.W.Frag} {fi : RI} {g : RG} {t : RT} {f : RX} {vs : List Nat} : ∀ σ H Q, up K (rLc fi g t f vs) σ H Q → tLc (upI K fi) (upG K g vs) (upT K t) (up K f) vs σ H Q := fun σ H Q ⟨S, μ, ρ, R, k, e, h, post⟩ =>
  up_lc k e h fun S' μ' H' D zs ws k' s' n1 n2 n3 n4 r q => post _ _ _ _ _ (k'.take n4 n2 n3) (s'.takeS n1 n2) (.lst upd_same (r.mono (same_updn n2))) q
theorem de_lc {elt tg iter : Expr} {ifs : List Expr} {scope : Scope} (own : List (Str × Nat)) {pos : Pos} {fi : RI} {g : RG} {t : RT} {f : RX} (hN : X.N.Nodup) (hi : DI X tg iter fi) (ok : blkC X.N X.env.scope scope own = true)
    (hg : ∀ (s : Shared) (H : Hp) (C : Addr) (cl : List (Str × Addr)) (fp : List Addr), DG (X.blk s H scope (compEnvC scope cl C X.env) fp) tg g (own.map (·.2))) (ht : ∀ (s : Shared) (H : Hp) (C : Addr) (cl : List (Str × Addr)) (fp : List Addr), DTs (X.blk s H scope (compEnvC scope cl C X.env) fp) ifs t)
    (he : ∀ (s : Shared) (H : Hp) (C : Addr) (cl : List (Str × Addr)) (fp : List Addr), DE (X.blk s H scope (compEnvC scope cl C X.env) fp) elt f) (hc : X.calm = true := by rfl) (hs : ∀ x, foldedSetIterable iter X.env x = pure x := by intro _; rfl) :
    DE X (.ListComp elt [⟨tg, iter, ifs, 0⟩] scope pos) (rLc fi g t f (own.map (·.2))) := pe_imp (pe_lc hc hN hi (blkOk_by ok) hg ht he hs) up_lcF
/-- name = [..] -/
theorem ds_setLc {i : Nat} {y : Str} {py : Pos} {elt tg iter : Expr} {ifs : List Expr} {scope : Scope} (own : List (Str × Nat)) {pos spos : Pos} {fi : RI} {g : RG} {t : RT} {f : RX} (hN : X.N.Nodup)
    (hsw : swapsWith (.ListComp elt [⟨tg, iter, ifs, 0⟩] scope pos) (some (.Name y py)) spos.line X.env = pure true) (hi : DI X tg iter fi) (ok : blkC X.N X.env.scope scope own = true)
    (hg : ∀ (s : Shared) (H : Hp) (C : Addr) (cl : List (Str × Addr)) (fp : List Addr), DG (X.blk s H scope (compEnvC scope cl C X.env) fp) tg g (own.map (·.2))) (ht : ∀ (s : Shared) (H : Hp) (C : Addr) (cl : List (Str × Addr)) (fp : List Addr), DTs (X.blk s H scope (compEnvC scope cl C X.env) fp) ifs t)
    (he : ∀ (s : Shared) (H : Hp) (C : Addr) (cl : List (Str × Addr)) (fp : List Addr), DE (X.blk s H scope (compEnvC scope cl C X.env) fp) elt f) (hy : X.N[i]? = some y := by rfl) (hyl : X.env.scope.names.lookup y = some .local := by rfl) (hc : X.calm = true := by rfl) (hs : ∀ x, foldedSetIterable iter X.env x = pure x := by intro _; rfl) :
    DS X (.Assign [.Name y py] (.ListComp elt [⟨tg, iter, ifs, 0⟩] scope pos) spos) (rAsg (rLc fi g t f (own.map (·.2))) (rGN i)) := ps_imp (ps_setLc hc hN hy hyl hsw hi (blkOk_by ok) hg ht he hs) fun D σ H ⟨S, μ, ρ, DD, k, e, h, l⟩ =>
  up_lcF σ H _ ⟨S, μ, ρ, _, k, e, h, fun S1 μ1 H1 v d k1 s1 r1 q1 => l.nx S1 μ1 H1 _ _ k1 s1 ((e.mono s1.same).set r1 i) q1⟩
end

/-! ### attributes set, lists changed -/
def rFldS (C : Addr) (f : Str) (fo fv : RX) : RS := fun D ρ μ => fv ρ μ fun z μ1 => fo ρ μ1 fun d μ2 => match d with
  | .ref p => (match μ2 p with
    | some (.ins C' fs) => C' = C ∧ fs.length < 1000 ∧ D.nx ρ (updM μ2 p (.ins C (putD f z fs)))
    | _ => False)
  | _ => False
section
variable {K : PySem.W.Frag} {X : Cx} {C : Addr} {f : Str} {o value : Expr} {fo fv : RX} {pos pos' : Pos}
theorem ds_fld (ho : DE X o fo) (hv : DE X value fv) (c : Cls X.K C) (n : NoAttr X.K C f) (hs : swapsWith value (some (.Attribute o f pos')) pos.line X.env = pure false := by rfl) : DS X (.Assign [.Attribute o f pos'] value pos) (rFldS C f fo fv) := ps_imp (ps_fld ho hv hs) fun D σ H ⟨S, μ, ρ, DD, k, e, h, l⟩ => by
  refine ⟨S, μ, ρ, _, k, e, h, fun S1 μ1 H1 v d k1 s1 r1 h1 => ?_⟩
  refine ⟨S1, μ1, ρ, _, k1, e.mono s1.same, h1, fun S2 μ2 H2 w d2 k2 s2 r2 h2 => ?_⟩
  cases d2 with
  | ref p =>
    cases r2.toRef
    have h2 : (match μ2 p with | some (.ins C' fs) => C' = C ∧ fs.length < 1000 ∧ DD.nx ρ (updM μ2 p (.ins C (putD f d fs))) | _ => False) := h2
    cases q : μ2 p with
    | none => rw [q] at h2; exact h2.elim
    | some m =>
      rw [q] at h2
      cases m with
      | lst _ => exact h2.elim
      | tab _ => exact h2.elim
      | dk _ => exact h2.elim
      | dct _ _ => exact h2.elim
      | dkl _ _ _ => exact h2.elim
      | ins C' fs =>
        obtain ⟨rfl, hl, h2⟩ := h2
        obtain ⟨hS, dx, vfs, e1, r3⟩ := k2.mts p _ q
        refine ⟨p, C', dx, vfs, rfl, e1, c, n, by rw [r3.length]; exact hl, ?_⟩
        have k3 : OK X.K S2 (updM μ2 p (.ins C' (putD f d fs))) (upd H2 p (.ins C' dx (putF f v vfs))) := k2.put hS ⟨dx, _, upd_same, r3.put (r1.mono s2.same) f⟩
        have s3 : Stp S2 μ2 H2 S2 (updM μ2 p (.ins C' (putD f d fs))) (upd H2 p (.ins C' dx (putF f v vfs))) := .put q
        exact l.nx _ _ _ _ _ k3 ((s1.trans s2).trans s3) ((e.mono s1.same).mono s2.same) h2
  | _ => exact False.elim h2
/-- xs.append(e) -/
def rMut (fo : RX) (fa : RA) (g : List L3.D → List L3.D → (L3.D → List L3.D → Prop) → Prop) : RX := fun ρ μ R => fo ρ μ fun d μ1 => match d with
  | .ref p => (match μ1 p with
    | some (.lst _) => fa ρ μ1 fun ds μ2 => (match μ2 p with
      | some (.lst xs) => g xs ds fun z ys => R z (updM μ2 p (.lst ys))
      | _ => False)
    | _ => False)
  | _ => False
def gAppend : List L3.D → List L3.D → (L3.D → List L3.D → Prop) → Prop := fun xs ds R => match ds with
  | [d] => xs.length < sizeLine ∧ R .non (xs ++ [d])
  | _ => False
def gPopAt : List L3.D → List L3.D → (L3.D → List L3.D → Prop) → Prop := fun xs ds R => match ds with
  | [.int i] => -(2 ^ 63) ≤ i ∧ i < 2 ^ 63 ∧ (match seqIndex? i xs.length with
    | some k => (match xs[k]? with
      | some d => R d (xs.eraseIdx k)
      | none => False)
    | none => False)
  | _ => False
def SndM (K : PySem.W.Frag) (r : V → List V → Hp → VK → Prop) (g : List L3.D → List L3.D → (L3.D → List L3.D → Prop) → Prop) : Prop :=
  ∀ S μ H p vs xs ws ds (R : L3.D → List L3.D → Prop) (Q : VK), OK K S μ H → H p = some (.lst vs) → Reps K S vs xs → Reps K S ws ds → g xs ds R → (∀ z ys v us, Rep K S v z → Reps K S us ys → R z ys → Q v (upd H p (.lst us))) → r (.ref p) ws H Q
theorem snd_append : SndM K rAppend gAppend := by
  intro S μ H p vs xs ws ds R Q k h r rs q post
  unfold gAppend at q
  split at q
  · obtain ⟨v, rfl, r1⟩ := reps1 rs
    exact ⟨p, vs, v, rfl, rfl, h, by rw [r.length]; exact q.1, post _ _ _ _ .non (r.append (.cons r1 .nil)) q.2⟩
  · exact q.elim
theorem snd_popAt : SndM K rPopAt gPopAt := by
  intro S μ H p vs xs ws ds R Q k h r rs q post
  unfold gPopAt at q
  split at q
  · rename_i i
    obtain ⟨v, rfl, r1⟩ := reps1 rs
    cases r1.toInt
    obtain ⟨q1, q2, q⟩ := q
    cases e1 : seqIndex? i xs.length with
    | none => rw [e1] at q; exact q.elim
    | some j =>
      rw [e1] at q
      dsimp only at q
      cases e2 : xs[j]? with
      | none => rw [e2] at q; exact q.elim
      | some d =>
        rw [e2] at q
        obtain ⟨v, hv, rv⟩ := r.get e2
        exact ⟨p, vs, i, j, v, rfl, rfl, h, q1, q2, by rw [r.length]; exact e1, hv, post _ _ _ _ rv (r.eraseIdx j) q⟩
  · exact q.elim
section
variable {T : String} {name id : Str} {idS : String} {r : V → List V → Hp → VK → Prop} {g : List L3.D → List L3.D → (L3.D → List L3.D → Prop) → Prop} {e : Expr} {es : List Expr} {fa : RA}
theorem up_mut (s : SndM K r g) : ∀ σ H Q, up K (rMut fo fa g) σ H Q → tBM K "list" r (up K fo) (upA K fa) σ H Q := fun σ H Q ⟨S, μ, ρ, R, k, e, h, post⟩ => by
  refine ⟨S, μ, ρ, _, k, e, h, fun S1 μ1 H1 v d k1 s1 r1 h1 => ?_⟩
  cases d with
  | ref p =>
    cases r1.toRef
    have h1 : (match μ1 p with | some (.lst _) => fa ρ μ1 fun ds μ2 => (match μ2 p with | some (.lst xs) => g xs ds fun z ys => R z (updM μ2 p (.lst ys)) | _ => False) | _ => False) := h1
    cases q : μ1 p with
    | none => rw [q] at h1; exact h1.elim
    | some m =>
      rw [q] at h1
      cases m with
      | ins _ _ => exact h1.elim
      | tab _ => exact h1.elim
      | dk _ => exact h1.elim
      | dct _ _ => exact h1.elim
      | dkl _ _ _ => exact h1.elim
      | lst xs0 =>
        obtain ⟨_, vs0, e0, _⟩ := k1.mts p _ q
        refine ⟨.inl ⟨rfl, _, .inl (.inl e0)⟩, S1, μ1, ρ, _, k1, e.mono s1.same, h1, fun S2 μ2 H2 ws ds k2 s2 r2 h2 => ?_⟩
        cases q2 : μ2 p with
        | none => rw [q2] at h2; exact h2.elim
        | some m2 =>
          rw [q2] at h2
          cases m2 with
          | ins _ _ => exact h2.elim
          | tab _ => exact h2.elim
          | dk _ => exact h2.elim
          | dct _ _ => exact h2.elim
          | dkl _ _ _ => exact h2.elim
          | lst xs =>
            obtain ⟨hS, vs, e3, r3⟩ := k2.mts p _ q2
            refine s S2 μ2 H2 p vs xs ws ds _ Q k2 e3 r3 r2 h2 fun z ys w us rz ry h3 => ?_
            exact post S2 _ _ _ _ (k2.put (m := .lst ys) hS ⟨us, upd_same, ry⟩) ((s1.trans s2).trans (.put q2)) rz h3
  | _ => exact False.elim h1
end
end
end L3

/-! ## L3f -/
set_option Elab.async false
set_option linter.all false
set_option maxRecDepth 100000
set_option maxHeartbeats 4000000
namespace L3
open PySem PySem.Spec PyProof.Rows L2

section
variable {X : Cx} {o e i : Expr} {fo fe fi : RX} {fa : RA} {pos apos : Pos}
theorem de_append (ho : DE X o fo) (ha : DA X [e] fa) (hbase : attributeBase o "append" X.env (eval o X.env) = eval o X.env := by rfl)
    (hfew : ((backTo pos (starEach [e] X.env)).all (fun x => !x.1) && (backToKw pos (keywordEach [] X.env)).all (fun x => x.1.isSome)
      && decide ([e].length + ([] : List Keyword).length + (if ([] : List Keyword).isEmpty then 0 else 1) < 30)) = true := by rfl)
    (hline : (apos.endLine == pos.line) = true := by rfl) (hst : starEach [e] X.env = (false, eval e X.env) :: starEach [] X.env := by rfl) : DE X (.Call (.Attribute o "append" apos) [e] [] pos) (rMut fo fa gAppend) :=
  pe_imp (pe_bm PySem.F.plainAttrs_list PySem.F.slot_list_append PySem.F.type_list_append mt_append ho ha hbase hfew hline hst) (up_mut snd_append)
theorem de_popAt (ho : DE X o fo) (ha : DA X [e] fa) (hbase : attributeBase o "pop" X.env (eval o X.env) = eval o X.env := by rfl)
    (hfew : ((backTo pos (starEach [e] X.env)).all (fun x => !x.1) && (backToKw pos (keywordEach [] X.env)).all (fun x => x.1.isSome)
      && decide ([e].length + ([] : List Keyword).length + (if ([] : List Keyword).isEmpty then 0 else 1) < 30)) = true := by rfl)
    (hline : (apos.endLine == pos.line) = true := by rfl) (hst : starEach [e] X.env = (false, eval e X.env) :: starEach [] X.env := by rfl) : DE X (.Call (.Attribute o "pop" apos) [e] [] pos) (rMut fo fa gPopAt) :=
  pe_imp (pe_bm PySem.F.plainAttrs_list PySem.F.slot_list_pop PySem.F.type_list_pop mt_popAt ho ha hbase hfew hline hst) (up_mut snd_popAt)
/-- o[i] = e -/
def rSetIx (fe fo fi : RX) : RS := fun D ρ μ => fe ρ μ fun v μ1 => fo ρ μ1 fun d μ2 => fi ρ μ2 fun j μ3 => match d, j with
  | .ref p, .int k => (match μ3 p with
    | some (.lst xs) => (match ixN xs.length k with
      | some n => D.nx ρ (updM μ3 p (.lst (xs.set n v)))
      | none => False)
    | _ => False)
  | _, _ => False
theorem ds_setIx (he : DE X e fe) (ho : DE X o fo) (hi : DE X i fi) (hs : swapsWithSole [.Subscript o i apos] e pos.line X.env = pure false := by rfl) (hw : swappedStores [.Subscript o i apos] e X.env = pure none := by rfl)
    (h1 : (assignEach [.Subscript o i apos] X.env).map (·.2) = [assign (.Subscript o i apos) X.env] := by rfl)
    (ha : ∀ v, assign (.Subscript o i apos) X.env v = (do
      let ov ← holding [v] (eval o X.env)
      let iv ← holding [v, ov] (eval i X.env)
      standAt apos
      holding [v, ov, iv] (setItem ov iv v)
      release [v, ov, iv] []) := by intro _; rfl) : DS X (.Assign [.Subscript o i apos] e pos) (rSetIx fe fo fi) := ps_imp (ps_asg he (pg_sub ho hi set_list ha) hs hw h1) fun D σ H ⟨S, μ, ρ, DD, k, e, h, l⟩ => by
  refine ⟨S, μ, ρ, _, k, e, h, fun S1 μ1 H1 v d k1 s1 r1 h1 => ?_⟩
  refine ⟨S1, μ1, ρ, _, k1, e.mono s1.same, h1, fun S2 μ2 H2 w d2 k2 s2 r2 h2 => ?_⟩
  refine ⟨S2, μ2, ρ, _, k2, (e.mono s1.same).mono s2.same, h2, fun S3 μ3 H3 j d3 k3 s3 r3 h3 => ?_⟩
  cases d2 <;> cases d3 <;> first | exact False.elim h3 | skip
  rename_i p z
  cases r2.toRef
  cases r3.toInt
  have h3 : (match μ3 p with | some (.lst xs) => (match ixN xs.length z with | some n => DD.nx ρ (updM μ3 p (.lst (xs.set n d))) | none => False) | _ => False) := h3
  cases q : μ3 p with
  | none => rw [q] at h3; exact h3.elim
  | some m =>
    rw [q] at h3
    cases m with
    | ins _ _ => exact h3.elim
    | tab _ => exact h3.elim
    | dk _ => exact h3.elim
    | dct _ _ => exact h3.elim
    | dkl _ _ _ => exact h3.elim
    | lst xs =>
      dsimp only at h3
      cases q2 : ixN xs.length z with
      | none => rw [q2] at h3; exact h3.elim
      | some n =>
        rw [q2] at h3
        obtain ⟨hS, vs, e1, r4⟩ := k3.mts p _ q
        refine ⟨p, vs, z, n, rfl, rfl, e1, by rw [r4.length]; exact q2, ?_⟩
        exact l.nx _ _ _ _ _ (k3.put (m := .lst (xs.set n d)) hS ⟨_, upd_same, r4.set (r1.mono (s2.trans s3).same) n⟩) (((s1.trans s2).trans s3).trans (.put q)) (((e.mono s1.same).mono s2.same).mono s3.same) h3
end

/-! ### a def keeps its promise -/
section
variable {P : Program} {w : World} {K : PySem.W.Frag} {mg : Str → Option Value} {base : Heap}
theorem fnD {x qual : Str} {params : Arguments} {bd : List Stmt} {scope : Scope} {dvs : List V} {kws : List (Str × V)} {f : Addr} {fd : FuncData} {N ps : List Str} {k : Nat} {s : GN} {body : RS} (F : FunD K x qual params bd scope dvs kws f fd) (Sc : FnScope N ps scope)
    (len : ∀ ds μ R, s ds μ R → ds.length = ps.length)
    (hb : ∀ (cdv : Value) (A : Around) (outer : List Env) (s0 : Shared) (H : Hp) (E : XK), Room k (A.deeper (envOfC qual scope s0.heap.objs.size f cdv)) → DSs (cxOf CX0 P w K mg base N qual scope f cdv A outer s0 H E).nox bd body)
    (hv : ∀ ds μ R, s ds μ R → body { nx := fun _ μ' => R .non μ', rt := R } (startD N.length ds) μ) : FnOk P w K mg base CX0 (k + 1) f fd ps (spD K s) := by
  refine F.ok Sc (fun vs H Q E h => ?_) fun cdv A outer s0 H vs Q E hr h => ⟨upS K body, PSs.nox (hb cdv A outer s0 H E hr), ?_⟩
  · obtain ⟨S, μ, ds, R, a, b, c, d⟩ := h
    rw [b.length]
    exact len ds μ R c
  · obtain ⟨S, μ, ds, R, a, b, c, d⟩ := h
    exact ⟨S, μ, _, _, a, repE_start b, hv ds μ R c, ⟨fun S' μ' H' σ' ρ' k' s' e' q' => d S' μ' H' _ _ k' s' .non q', fun S' μ' H' v z k' s' r' q' => d S' μ' H' v z k' s' r' q', fun _ _ _ _ _ _ _ _ q' => False.elim q', fun _ _ _ _ _ _ _ _ q' => False.elim q'⟩⟩
end

/-! ### the law -/
theorem reps_ints {K : PySem.W.Frag} {S : Hp} : ∀ ns : List Int, Reps K S (ns.map V.int) (ns.map D.int)
  | [] => .nil
  | n :: r => .cons (.int n) (reps_ints r)
/-- all but the tables -/
def noT (H : Hp) : Hp := fun b => match H b with
  | some (.tbl _) => none
  | x => x
theorem noT_sub {H : Hp} : Same (noT H) H := fun b o e => by
  unfold noT at e
  split at e
  · cases e
  · exact e
theorem noT_at {H : Hp} {b : Addr} {o : HO} (h : H b = some o) (n : ∀ ps, o ≠ .tbl ps) : noT H b = some o := by
  unfold noT
  rw [h]
  split
  · rename_i ps e
    exact absurd (Option.some.inj e) (n _)
  · rfl
theorem noT_nst {H : Hp} (b : Addr) (ps : Array Value) : noT H b ≠ some (.tbl ps) := fun e => by
  unfold noT at e
  split at e
  · cases e
  · rename_i n
    exact n ps e
theorem noT_seq {K : PySem.W.Frag} {H : Hp} {a : Addr} {xs : List V} (h : SqL K H a xs) : SqL K (noT H) a xs := by
  rcases h with (h | ⟨o, h⟩) | h
  · exact .inl (.inl (noT_at h fun _ z => by cases z))
  · exact .inl (.inr ⟨o, noT_at h fun _ z => by cases z⟩)
  · exact .inr h
end L3

/-! ## L3g -/
set_option Elab.async false
set_option linter.all false
set_option maxRecDepth 100000
set_option maxHeartbeats 4000000
namespace L3
open PySem PySem.Spec PyProof.Rows L2

/-! ### further rules -/
/-- a module's constant -/
structure ConstOk (K : PySem.W.Frag) (mg : Str → Option Value) (x : Str) (d : D) : Prop where
  ex : ∃ u v, mg x = some u ∧ RelV v u ∧ ∀ S, Rep K S v d
theorem ConstOk.de {X : Cx} {x : Str} {d : D} {pos : Pos} (c : ConstOk X.K X.mg x d) (hg : Gl X x := by rfl) (hd : (x == ("__debug__" : Str)) = false := by decide) : DE X (.Name x pos) (rC d) := by
  obtain ⟨u, v, a, b, r⟩ := c.ex
  exact de_glob hg a b r hd
theorem FnG.raw {P : Program} {w : World} {K : PySem.W.Frag} {mg : Str → Option Value} {base : Heap} {k : Nat} {x : Str} {s : GN} (F : FnG P w K mg base k x s) : ∃ f, FnR P w K mg base CX0 k f (spD K s) ∧ mg x = some (.ref f) ∧ PySem.W.keepIn K (.ref f) = true := by
  obtain ⟨f, fd, ps, a, b, c, d⟩ := F.ex
  have z := a.raw d (dvs := []) .nil
  simp only [List.append_nil] at z
  exact ⟨f, z, b, c⟩
section
variable {X : Cx} {k : Nat} {x : Str} {s : GN} {e : Expr} {es : List Expr} {fa : RA} {fe : RX} {p pos p2 : Pos}
/-- f(*xs) -/
theorem de_callS1 (F : FnG X.prog X.w X.K X.mg X.base k x s) (hr : Room k X.A) (hg : Gl X x) (he : DE X e fe) (hd : (x == ("__debug__" : Str)) = false := by decide)
    (hst : starEach [.Starred e p2] X.env = [(true, eval e X.env)] := by rfl) : DE X (.Call (.Name x p) [.Starred e p2] [] pos) (rCl s (rStar fe rNil)) := by
  obtain ⟨f, a, b, c⟩ := F.raw
  refine pe_imp (StX.pe_callS1 a hr c hg b pass0 he hd hst) fun σ H Q ⟨S, μ, ρ, R, k, e, h, post⟩ => ?_
  refine ⟨S, μ, ρ, _, k, e, h, fun S1 μ1 H1 v1 d1 k1 s1 r1 h1 => ?_⟩
  cases q : seqD (res μ1 d1) with
  | none => rw [q] at h1; exact h1.elim
  | some xs =>
    rw [q] at h1
    obtain ⟨y, vs, e1, h2, r2⟩ := seq_rep k1 r1 q
    have h1 : s (xs ++ []) μ1 R := h1
    rw [List.append_nil] at h1
    exact ⟨y, vs, e1, h2.symm, S1, μ1, xs, R, k1, r2, h1, fun S3 μ3 H3 v d k3 s3 r3 h3 => post S3 μ3 H3 v d k3 (s1.trans s3) r3 h3⟩
end
/-- C(e, ..) where the keyword-only defaults fill up: their data at the end -/
structure MkD (P : Program) (w : World) (K : PySem.W.Frag) (mg : Str → Option Value) (base : Heap) (k : Nat) (x : Str) (C : Addr) (s : GN) (dd : List D) : Prop where
  ex : ∃ f fd ps ds dvs, FnOk P w K mg base CX0 k f fd ps (spD K s) ∧ mg x = some (.ref C) ∧ Mk K C f ∧ Binds K fd ps ds ∧ Vals dvs ds ∧ ∀ S, Reps K S dvs dd
def rMakeD (g : GN) (dd : List D) (fa : RA) : RX := fun ρ μ R => fa ρ μ fun ds μ1 => g (ds ++ dd) μ1 R
section
variable {X : Cx} {k : Nat} {C : Addr} {x : Str} {s : GN} {dd : List D} {e : Expr} {es : List Expr} {fa : RA} {p pos : Pos}
theorem de_makeD (F : MkD X.prog X.w X.K X.mg X.base k x C s dd) (hr : Room (k + 1) X.A) (hg : Gl X x) (ha : DA X (e :: es) fa) (hdb : (x == ("__debug__" : Str)) = false := by decide)
    (he : starEach (e :: es) X.env = (false, eval e X.env) :: starEach es X.env := by rfl) (hpl : (backTo pos (starEach es X.env)).any (·.1) = false := by rfl) : DE X (.Call (.Name x p) (e :: es) [] pos) (rMakeD (gMake C s) dd fa) := by
  obtain ⟨f, fd, ps, ds, dvs, a, b, c, d, v, r⟩ := F.ex
  refine pe_imp (pe_make c a hr hg b d v pass0 ha hdb he hpl) fun σ H Q ⟨S, μ, ρ, R, k, e, h, post⟩ => ?_
  refine ⟨S, μ, ρ, _, k, e, h, fun S1 μ1 H1 vs ds k1 s1 r1 h1 y dx hx hd hn => ?_⟩
  exact make_snd k1 (r1.append (r S1)) h1 (fun S3 μ3 H3 v d k3 s3 r3 h3 => post S3 μ3 H3 v d k3 (s1.trans s3) r3 h3) hx hd hn
end
def rPar3 (i j l : Nat) (fa : RA) : RS := fun D ρ μ => fa ρ μ fun ds μ1 => match ds with
  | [a, b, c] => D.nx (st (st (st ρ i a) j b) l c) μ1
  | _ => False
/-! ### isinstance of an own class -/

structure IsiO (K : PySem.W.Frag) (C : Addr) : Prop where
  cls : Cls K C
  ha : PySem.W.findIn K (.ref C) "__class__" = some (some (.builtin "object.__class__"))
  hn : PySem.W.specialIn K (.builtin "object.__class__") "__get__" = some (some (.builtin "getset_descriptor.__get__"))
  ht : PySem.W.takesIn K (.builtin "object.__class__") = some true
  hm : PySem.W.mroIn K C (.type "object") = some true
  own : PySem.W.kitOne K (.ref C) (.ref C) = some true
  oth : ∀ t : String, t ∈ ["NoneType", "bool", "int", "str", "tuple", "list"] → PySem.W.kitOne K (.type t) (.ref C) = some false
section
variable {X : Cx} {C : Addr} {x : Str} {e : Expr} {fe : RX} {p p2 pos : Pos}
end
end L3

/-! ## L3h -/
set_option Elab.async false
set_option linter.all false
set_option maxRecDepth 100000
set_option maxHeartbeats 4000000
/-! What the head reads besides: properties' getters, own calls. -/
namespace L3
open PySem PySem.Spec PyProof.Rows L2

/-- the getter of a property -/


theorem propB_ok {K : PySem.W.Frag} {C : Addr} {m : Str} (h : propB K C m = true) : PropOf K C m (He.ma K C m) (gtA K C m) := by
  unfold propB at h
  obtain ⟨h1, h2⟩ := Bool.and_eq_true_iff.mp h
  obtain ⟨a, b, c⟩ := of_decide_eq_true h1
  refine ⟨a, b, c, ?_⟩
  unfold gtA
  split at h2
  · rename_i g r e
    exact ⟨r, by rw [e]⟩
  · cases h2
/-- a def at an address of one's own -/






theorem FnX.funD {K : PySem.W.Frag} {d : FnX} (e : d.obs K = d.val) (c : d.ok K = true) : ∃ fd, FunD K d.name d.qual d.params d.body d.scope [] [] (d.at_ K) fd := by
  have hk := (Bool.and_eq_true_iff.mp c).1
  have hc := (Bool.and_eq_true_iff.mp c).2
  obtain ⟨o, ho, hv⟩ := Option.bind_eq_some_iff.mp e
  rw [ho] at hc
  obtain ⟨oc, od, dt, sl⟩ := o
  cases dt <;> first | (exfalso; cases hv; done) | skip
  rename_i fd
  simp only [Option.any_some] at hc
  have z : fxOf fd = d.val := hv
  unfold fxOf FnX.val at z
  simp only [Option.some.injEq, Prod.mk.injEq] at z
  obtain ⟨⟨z1, z2, z3⟩, ⟨z4, z5⟩, ⟨z6, z7⟩, z8, z9⟩ := z
  refine ⟨fd, ⟨oc, od, fd.defaults, fd.kwdefaults, fd.doc, fd.pyModule, fd.annotations, fd.code, fd.closureTuple, sl, ?_, ho, hc, .inl ⟨rfl, z9⟩, .inl rfl⟩, hk⟩
  cases fd
  simp only at z1 z2 z3 z4 z5 z6 z7 z8 z9
  subst z1 z2 z3 z4 z5 z6 z7 z8 z9
  rfl
/-! ### the hook: facts, defs, checks of one's own, getters -/



section
variable {xb : List (PySem.W.Frag → Bool)} {fa : List He.Fa} {fn : List He.DefD} {fx : List FnX} {K : PySem.W.Frag}
theorem says_d (c : obsX xb fa fn fx K = valX fn fx) : He.SaysD fa fn K := congrArg (fun z : AlX => z.2.1) c
theorem says_b (c : obsX xb fa fn fx K = valX fn fx) (i : Nat) {b : PySem.W.Frag → Bool} (h : xb[i]? = some b := by rfl) : b K = true :=
  List.all_eq_true.mp (congrArg (fun z : AlX => z.1.1) c) b (List.mem_of_getElem? h)
theorem says_x (c : obsX xb fa fn fx K = valX fn fx) (i : Nat) {d : FnX} (h : fx[i]? = some d := by rfl) : ∃ fd, FunD K d.name d.qual d.params d.body d.scope [] [] (d.at_ K) fd := by
  have e : (fx.map fun d => d.obs K) = fx.map FnX.val := congrArg (fun z : AlX => z.2.2) c
  have e2 : (fx.map fun d => d.obs K)[i]? = (fx.map FnX.val)[i]? := by rw [e]
  rw [List.getElem?_map, List.getElem?_map, h] at e2
  exact FnX.funD (Option.some.inj e2) (List.all_eq_true.mp (congrArg (fun z : AlX => z.1.2) c) d (List.mem_of_getElem? h))
end
/-- a def that promises nothing -/
theorem FnOk.none {P : Program} {w : World} {K : PySem.W.Frag} {mg : Str → Option Value} {base : Heap} {f : Addr} {fd : FuncData} {ps : List Str} {k : Nat} : FnOk P w K mg base CX0 k f fd ps (spD K fun _ _ _ => False) :=
  ⟨fun _ _ _ _ ⟨_, _, _, _, _, _, h, _⟩ => h.elim, fun _ _ _ _ _ _ _ _ _ _ _ _ _ ⟨_, _, _, _, _, _, h, _⟩ => h.elim⟩
/-- a module's tuple -/
theorem constTup {K : PySem.W.Frag} {mg : Str → Option Value} {x : Str} {vs : List He.Dv} {ds : List D} (g : mg x = some (.ref (He.ga K x))) (h : He.tupB K x vs = true) (r : ∀ S, Reps K S (vs.map (He.Dv.v K)) ds) : ConstOk K mg x (.tup ds) :=
  ⟨.ref (He.ga K x), .ref (He.ga K x), g, rfl, fun S => .tup (He.tupB_ok h S) (r S)⟩
end L3

/-! ## L3i -/
set_option Elab.async false
set_option linter.all false
set_option maxRecDepth 100000
set_option maxHeartbeats 4000000
/-! More readings. -/
namespace L3
open PySem PySem.Spec PyProof.Rows L2
def rChain (g g' : G2) (fa fb fc : RX) : RX := fun ρ μ R => fa ρ μ fun x μ1 => fb ρ μ1 fun y μ2 => g x y μ2 fun d μ3 => match d with
  | .bl b => if b = true then fc ρ μ3 fun z μ4 => g' y z μ4 R else R (.bl false) μ3
  | _ => False
section
variable {K : PySem.W.Frag} {X : Cx} {a b c : Expr} {fa fb fc : RX} {pos : Pos}
theorem up_chain {r r' : R2} {g g' : G2} (s : Snd2 K r g) (s' : Snd2 K r' g') : ∀ σ H Q, up K (rChain g g' fa fb fc) σ H Q → tChain r r' (up K fa) (up K fb) (up K fc) σ H Q := by
  rintro σ H Q ⟨S, μ, ρ, R, k, e, h, post⟩
  refine ⟨S, μ, ρ, _, k, e, h, fun S1 μ1 H1 v1 d1 k1 s1 r1 h1 => ?_⟩
  refine ⟨S1, μ1, ρ, _, k1, e.mono s1.same, h1, fun S2 μ2 H2 v2 d2 k2 s2 r2 h2 => ?_⟩
  refine s S2 μ2 H2 v1 v2 d1 d2 _ _ k2 (r1.mono s2.same) r2 h2 fun S3 μ3 H3 v d k3 s3 r3 h3 => ?_
  cases d with
  | bl b =>
    refine ⟨b, r3.toBl, ?_⟩
    have h3 : (if b = true then fc ρ μ3 fun z μ4 => g' d2 z μ4 R else R (.bl false) μ3) := h3
    have s13 := (s1.trans s2).trans s3
    cases b with
    | true =>
      rw [if_pos rfl] at h3 ⊢
      refine ⟨S3, μ3, ρ, _, k3, e.mono s13.same, h3, fun S4 μ4 H4 v4 d4 k4 s4 r4 h4 => ?_⟩
      exact s' S4 μ4 H4 v2 v4 d2 d4 R Q k4 (r2.mono (s3.trans s4).same) r4 h4 fun S5 μ5 H5 v5 d5 k5 s5 r5 h5 => post S5 μ5 H5 v5 d5 k5 ((s13.trans s4).trans s5) r5 h5
    | false =>
      rw [if_neg Bool.false_ne_true] at h3 ⊢
      exact post S3 μ3 H3 _ _ k3 s13 (.bl _) h3
  | _ => exact False.elim h3
theorem de_chain {op op' : CmpOp} {r r' : R2} {g g' : G2} (ho : OpR X (compareOp op) r) (ho' : OpR X (compareOp op') r') (s : Snd2 X.K r g) (s' : Snd2 X.K r' g') (ha : DE X a fa) (hb : DE X b fb) (hc : DE X c fc)
    (hm : lastMarks [op, op'] [b, c] = false := by with_unfolding_all rfl) : DE X (.Compare a [op, op'] [b, c] pos) (rChain g g' fa fb fc) := pe_imp (pe_chain ho ho' ha hb hc hm) (up_chain s s')
theorem de_chain_le_le (ha : DE X a fa) (hb : DE X b fb) (hc : DE X c fc) (hm : lastMarks [.LtE, .LtE] [b, c] = false := by with_unfolding_all rfl) : DE X (.Compare a [.LtE, .LtE] [b, c] pos) (rChain gLe gLe fa fb fc) :=
  de_chain op_le op_le (snd_I0 fun i j S => .bl _) (snd_I0 fun i j S => .bl _) ha hb hc hm
theorem dt_chain {op op' : CmpOp} {r r' : R2} {g g' : G2} (ho : OpR X (compareOp op) r) (ho' : OpR X (compareOp op') r') (s : Snd2 X.K r g) (s' : Snd2 X.K r' g') (ha : DE X a fa) (hb : DE X b fb) (hc : DE X c fc)
    (hm : lastMarks [op, op'] [b, c] = false := by with_unfolding_all rfl) : DT X (.Compare a [op, op'] [b, c] pos) (rB (rChain g g' fa fb fc)) := pt_imp (pt_chain ho ho' ha hb hc hm) fun σ H Q ⟨S, μ, ρ, R, k, e, h, post⟩ => by
  refine up_chain s s' σ H (fun x H' => ∃ k, x = .bl k ∧ Q k H') ⟨S, μ, ρ, _, k, e, h, fun S1 μ1 H1 v1 d1 k1 s1 r1 h1 => ?_⟩
  cases d1 <;> first | exact False.elim h1 | skip
  cases r1.toBl
  exact ⟨_, rfl, post S1 μ1 H1 _ k1 s1 h1⟩
theorem dt_chain_le_le (ha : DE X a fa) (hb : DE X b fb) (hc : DE X c fc) (hm : lastMarks [.LtE, .LtE] [b, c] = false := by with_unfolding_all rfl) : DT X (.Compare a [.LtE, .LtE] [b, c] pos) (rB (rChain gLe gLe fa fb fc)) :=
  dt_chain op_le op_le (snd_I0 fun i j S => .bl _) (snd_I0 fun i j S => .bl _) ha hb hc hm
end
end L3

/-! ## L3j -/
set_option Elab.async false
set_option linter.all false
set_option maxRecDepth 100000
set_option maxHeartbeats 4000000
/-! Classes whose __init__ takes a star parameter. -/
namespace L3
open PySem PySem.Spec PyProof.Rows L2 StX
def starSp (sp : Sp) : Sp := fun vs H Q E => ∃ ws rest, vs = ws ++ rest ∧ ws.length = ([""] : List Str).length ∧ rest.length ≤ sizeLine ∧ ∀ p, H p = Option.none → sp (ws ++ [V.ref p]) (upd H p (.tup rest)) Q E
/-- the class x, its __init__(self, *v): s speaks of [self, the tuple] -/
structure MkS (P : Program) (w : World) (K : PySem.W.Frag) (mg : Str → Option Value) (base : Heap) (k : Nat) (x : Str) (C : Addr) (s : GN) : Prop where
  ex : ∃ f, FnR P w K mg base CX0 k f (starSp (spD K s)) ∧ mg x = some (.ref C) ∧ Mk K C f
def starG (s : GN) : GN := fun es μ R => match es with
  | d :: r => s [d, .tup r] μ R
  | [] => False
def gMakeS (C : Addr) (s : GN) : GN := fun ds μ R => ds.length ≤ sizeLine ∧ gMake C (starG s) ds μ R
section
variable {P : Program} {w : World} {K : PySem.W.Frag} {mg : Str → Option Value} {base : Heap}
theorem fnS {x qual : Str} {params : Arguments} {bd : List Stmt} {scope : Scope} {f : Addr} {fd : FuncData} {N : List Str} {p1 pv : Str} {k : Nat} {s : GN} {body : RS} (F : FunD K x qual params bd scope [] [] f fd) (Sc : FnScope N [p1, pv] scope)
    (hbind : ∀ (kV doc pm : Value) (an : Option Addr) (cdv ct : Value), (∀ a : Value, bindArgs (PySem.W.fnOf x qual params bd scope .none kV doc pm an cdv ct) ⟨[a], []⟩ = (newTuple [] >>= fun t => pure [(p1, a), (pv, t)])) ∧ (∀ (a r : Value) (rs : List Value), bindArgs (PySem.W.fnOf x qual params bd scope .none kV doc pm an cdv ct) ⟨a :: r :: rs, []⟩ = (newTuple (r :: rs) >>= fun t => pure [(p1, a), (pv, t)])))
    (hb : ∀ (cdv : Value) (A : Around) (outer : List Env) (s0 : Shared) (H : Hp) (E : XK), Room k (A.deeper (envOfC qual scope s0.heap.objs.size f cdv)) → DSs (cxOf CX0 P w K mg base N qual scope f cdv A outer s0 H E).nox bd body)
    (hv : ∀ ds μ R, s ds μ R → body { nx := fun _ μ' => R .non μ', rt := R } (startD N.length ds) μ) : FnR P w K mg base CX0 (k + 1) f (starSp (spD K s)) := by
  obtain ⟨oc, od, dV, kV, doc, pm, an, cdv, ct, osl, rfl, lk, hcd, hD, _⟩ := F.ex
  rcases hD with ⟨_, rfl⟩ | ⟨e, _⟩
  · have q := fn_star (ps := [p1]) (pv := pv) (P := P) (w := w) (mg := mg) (base := base) (sp := spD K s) lk hcd Sc cxUp_none (bind_star1 (B := fun us => bindArgs (PySem.W.fnOf x qual params bd scope .none kV doc pm an cdv ct) ⟨us, []⟩) (hbind kV doc pm an cdv ct).1 (hbind kV doc pm an cdv ct).2)
      (fun A outer s0 H vs Q E hr h => ⟨upS K body, PSs.nox (hb cdv A outer s0 H E hr), by
        obtain ⟨S, μ, ds, R, a, b, c, d⟩ := h
        exact ⟨S, μ, _, _, a, repE_start b, hv ds μ R c, ⟨fun S' μ' H' σ' ρ' k' s' e' q' => d S' μ' H' _ _ k' s' .non q', fun S' μ' H' v z k' s' r' q' => d S' μ' H' v z k' s' r' q', fun _ _ _ _ _ _ _ _ q' => False.elim q', fun _ _ _ _ _ _ _ _ q' => False.elim q'⟩⟩⟩)
    exact q
  · exact absurd rfl e
end
section
variable {K : PySem.W.Frag} {S H : Hp} {μ : MH} {C : Addr} {s : GN}
theorem make_sndS {R : D → MH → Prop} {Q : VK} {vs : List V} {ds : List D} {x dx : Addr} {E : XK} (k : OK K S μ H) (r : Reps K S vs ds) (q : gMakeS C s ds μ R) (post : Pst K S μ H R Q) (hx : H x = none) (hd : H dx = none) (hn : dx ≠ x) :
    starSp (spD K s) (.ref x :: vs) (upd (upd H dx (.own x)) x (.ins C dx [])) (fun v H2 => v = .non ∧ Q (.ref x) H2) E := by
  obtain ⟨hl, q⟩ := q
  obtain ⟨k1, s1⟩ := k.newI (C := C) hx hd hn
  refine ⟨[.ref x], vs, rfl, rfl, by rw [r.length]; exact hl, fun p hp => ?_⟩
  obtain ⟨k0, s0⟩ := k1.alloc (o := .tup vs) hp
  refine ⟨_, _, [.ref x, .tup ds], _, k0, .cons (.ref x) (.cons (.tup (.inl (.inl upd_same)) (r.mono s0.same)) .nil), q x (k.free hx).2, fun S2 μ2 H2 v d k2 s2 r2 h2 => ?_⟩
  obtain ⟨rfl, h2⟩ := h2
  refine ⟨r2.toNon, ?_⟩
  cases e : μ2 x with
  | none => rw [e] at h2; exact h2.elim
  | some m =>
    cases m with
    | lst _ => rw [e] at h2; exact h2.elim
    | tab _ => rw [e] at h2; exact h2.elim
    | dk _ => rw [e] at h2; exact h2.elim
    | dct _ _ => rw [e] at h2; exact h2.elim
    | dkl _ _ _ => rw [e] at h2; exact h2.elim
    | ins C' fs =>
      rw [e] at h2
      obtain ⟨_, dx', vfs, e2, r3⟩ := k2.mts x _ e
      obtain ⟨k3, s3⟩ := k2.freeze e e2
      exact post _ _ _ _ _ k3 (((s1.trans s0).trans s2).trans s3) (.ins upd_same (r3.mono s3.same)) h2
end
section
variable {X : Cx} {k : Nat} {C : Addr} {x : Str} {s : GN} {e : Expr} {es : List Expr} {fe : RX} {fa : RA} {p pos sp_ : Pos}
theorem de_makeS (F : MkS X.prog X.w X.K X.mg X.base k x C s) (hr : Room (k + 1) X.A) (hg : Gl X x) (ha : DA X (e :: es) fa) (hdb : (x == ("__debug__" : Str)) = false := by decide)
    (he : starEach (e :: es) X.env = (false, eval e X.env) :: starEach es X.env := by rfl) (hpl : (backTo pos (starEach es X.env)).any (·.1) = false := by rfl) : DE X (.Call (.Name x p) (e :: es) [] pos) (rCl (gMakeS C s) fa) := by
  obtain ⟨f, a, b, c⟩ := F.ex
  refine pe_imp (pe_makeR c a hr hg b pass0 ha hdb he hpl) fun σ H Q ⟨S, μ, ρ, R, k, e, h, post⟩ => ?_
  refine ⟨S, μ, ρ, _, k, e, h, fun S1 μ1 H1 vs ds k1 s1 r1 h1 y dx hx hd hn => ?_⟩
  exact make_sndS k1 r1 h1 (fun S3 μ3 H3 v d k3 s3 r3 h3 => post S3 μ3 H3 v d k3 (s1.trans s3) r3 h3) hx hd hn
theorem pe_makeR0 {CX : CXT} {sp : Sp} {E : XK} {f : Addr} (M : Mk X.K C f) (F : FnR X.prog X.w X.K X.mg X.base CX k f sp) (hr : Room (k + 1) X.A) (hg : Gl X x) (hm : X.mg x = some (.ref C)) (hx : Passes CX X E) (hdb : (x == ("__debug__" : Str)) = false := by decide) :
    PE X (.Call (.Name x p) [] [] pos) (fun σ H Q => ∀ x dx, H x = Option.none → H dx = Option.none → dx ≠ x → sp [V.ref x] (upd (upd H dx (.own x)) x (.ins C dx [])) (fun v H2 => v = .non ∧ Q (.ref x) H2) E) := by
  refine ⟨fun pins s σ H Q I h => ?_⟩
  refine wpAny_Call_Name_kw (ld_glob I hg hm ?_ hdb)
  exact PySem.W.callWith_K0 I.kIn M.kp (run_makeR M F hr hx I .nil h)
theorem de_makeS0 (F : MkS X.prog X.w X.K X.mg X.base k x C s) (hr : Room (k + 1) X.A) (hg : Gl X x) (hdb : (x == ("__debug__" : Str)) = false := by decide) : DE X (.Call (.Name x p) [] [] pos) (rCl (gMakeS C s) rNil) := by
  obtain ⟨f, a, b, c⟩ := F.ex
  refine pe_imp (pe_makeR0 c a hr hg b pass0 hdb) fun σ H Q ⟨S, μ, ρ, R, k, e, h, post⟩ y dx hx hd hn => ?_
  exact make_sndS k .nil h (fun S3 μ3 H3 v d k3 s3 r3 h3 => post S3 μ3 H3 v d k3 s3 r3 h3) hx hd hn
theorem pe_makeR1 {CX : CXT} {sp : Sp} {E : XK} {f : Addr} {te : TE} (M : Mk X.K C f) (F : FnR X.prog X.w X.K X.mg X.base CX k f sp) (hr : Room (k + 1) X.A) (hg : Gl X x) (hm : X.mg x = some (.ref C)) (hx : Passes CX X E) (he : PE X e te) (hdb : (x == ("__debug__" : Str)) = false := by decide)
    (hst : starEach [.Starred e sp_] X.env = [(true, eval e X.env)] := by rfl) :
    PE X (.Call (.Name x p) [.Starred e sp_] [] pos) (fun σ H Q => te σ H fun y H1 => ∃ a xs, y = V.ref a ∧ (SqT X.K H1 a xs ∨ SqL X.K H1 a xs) ∧ ∀ x dx, H1 x = Option.none → H1 dx = Option.none → dx ≠ x → sp (V.ref x :: xs) (upd (upd H1 dx (.own x)) x (.ins C dx [])) (fun v H2 => v = .non ∧ Q (.ref x) H2) E) := by
  refine ⟨fun pins s σ H Q I h => ?_⟩
  refine wpAny_Call_Name_kw (ld_glob I hg hm ?_ hdb)
  refine PySem.W.callWith_S (h₀ := X.base) I.ok.mod.kin M.kp (thn (he.run pins s σ H _ I h) fun v s1 ⟨y, H1, I1, ry, a, xs, ey, hxs, q⟩ => ?_) hst
  subst ey
  obtain rfl : v = Value.ref a := ry
  exact star_any I1 hxs fun us s2 I2 rv => ⟨I2.kIn, run_makeR M F hr hx I2 rv q⟩
theorem de_makeS1 (F : MkS X.prog X.w X.K X.mg X.base k x C s) (hr : Room (k + 1) X.A) (hg : Gl X x) (ha : DE X e fe) (hdb : (x == ("__debug__" : Str)) = false := by decide)
    (hst : starEach [.Starred e sp_] X.env = [(true, eval e X.env)] := by rfl) : DE X (.Call (.Name x p) [.Starred e sp_] [] pos) (rCl (gMakeS C s) (rStar fe rNil)) := by
  obtain ⟨f, a, b, c⟩ := F.ex
  refine pe_imp (pe_makeR1 c a hr hg b pass0 ha hdb hst) fun σ H Q ⟨S, μ, ρ, R, k, e, h, post⟩ => ?_
  refine ⟨S, μ, ρ, _, k, e, h, fun S1 μ1 H1 v d k1 s1 r1 h1 => ?_⟩
  cases e1 : seqD (res μ1 d) with
  | none => rw [e1] at h1; exact h1.elim
  | some ds =>
    rw [e1] at h1
    obtain ⟨a, xs, rfl, h2, r2⟩ := seq_rep k1 r1 e1
    have h1 : gMakeS C s (ds ++ []) μ1 R := h1
    rw [List.append_nil] at h1
    exact ⟨a, xs, rfl, h2.symm, fun y dx hx hd hn => make_sndS k1 r2 h1 (fun S3 μ3 H3 v d k3 s3 r3 h3 => post S3 μ3 H3 v d k3 (s1.trans s3) r3 h3) hx hd hn⟩
end
end L3

/-! ## L3k -/
set_option Elab.async false
set_option linter.all false
set_option maxRecDepth 100000
set_option maxHeartbeats 4000000
/-! zip of two rows, each a list or a tuple. -/
namespace L3
open PySem PySem.Spec PyProof.Rows L2
/-- a list (true) or a tuple (false) at a -/
def SqB (K : PySem.W.Frag) : Bool → Hp → Addr → List V → Prop
  | true, H, a, xs => SqL K H a xs
  | false, H, a, xs => SqT K H a xs
def ItIs (h : Heap) : Bool → Addr → Addr → Nat → Prop
  | true => h.IsListIter
  | false => h.IsTupleIter
def SqIs (h : Heap) : Bool → Addr → Array Value → Prop
  | true => h.IsList
  | false => h.IsTuple
theorem inv_sq {X : Cx} {pins : List (Addr × Obj)} {σ : L2.St} {H : Hp} {s : Shared} {a : Addr} {xs : List V} (I : Inv X pins σ H s) : ∀ (b : Bool), SqB X.K b H a xs → ∃ its : List Value, Vals xs its ∧ SqIs s.heap b a its.toArray
  | true, h => let ⟨its, rv, p, _⟩ := I.list h; ⟨its, rv, p.isList⟩
  | false, h => let ⟨its, rv, p, _⟩ := I.tuple h; ⟨its, rv, p⟩
theorem inj_sq {X : Cx} {pins : List (Addr × Obj)} {σ : L2.St} {H : Hp} {s : Shared} {a : Addr} {xs ys : List V} (I : Inv X pins σ H s) : ∀ (b : Bool), SqB X.K b H a xs → SqB X.K b H a ys → xs = ys
  | true, h, h' => I.list_inj h h'
  | false, h, h' => I.tuple_inj h h'
theorem sq_lt {h : Heap} {a : Addr} {its : Array Value} : ∀ (b : Bool), SqIs h b a its → a < h.objs.size
  | true, p => let ⟨_, e, _⟩ := p; Heap.lt_size e
  | false, p => let ⟨_, e, _⟩ := p; Heap.lt_size e
theorem it_obj {h : Heap} {i l : Addr} {k : Nat} : ∀ (b : Bool), ItIs h b i l k → ∃ o, h.get? i = some o ∧ ∀ v, o.data ≠ .cell v
  | true, ⟨o, e, _, d⟩ => ⟨o, e, fun v q => by rw [d] at q; cases q⟩
  | false, ⟨o, e, _, d⟩ => ⟨o, e, fun v q => by rw [d] at q; cases q⟩
theorem it_at {h h' : Heap} {i l : Addr} {k : Nat} : ∀ (b : Bool), ItIs h b i l k → (∀ o, h.get? i = some o → h'.get? i = some o) → ItIs h' b i l k
  | true, p, e => Heap.IsListIter.at p e
  | false, p, e => Heap.IsTupleIter.at p e
theorem draws_sq {prog : Program} {w : World} {A : Around} (hh : A.handled = none) (it l : Addr) (ne : l ≠ it) (its : Array Value) : ∀ b : Bool, Draws prog w A it [it, l] its.size (fun i v => its[i]? = some v) (fun i h => ItIs h b it l i ∧ SqIs h b l its)
  | true => Draws.list hh it l ne its
  | false => Draws.tuple hh it l ne its
theorem zip_sep {z TI TO i1 i2 a b : Addr} (D : ZipApart z TI TO i1 i2 a b) : ZipSep2 z TI TO i1 i2 [i1, a] [i2, b] := by
  refine ⟨D.TIz, D.TOz, D.TITO, D.TIi1, by simp, ?_, ?_, D.TIi2, by simp, ?_, ?_, ?_, ?_⟩ <;> simp
  · exact ⟨D.i1z.symm, D.l1z.symm⟩
  · exact ⟨D.TOi1, D.l1TO.symm⟩
  · exact ⟨D.i2z.symm, D.l2z.symm⟩
  · exact ⟨D.TOi2, D.l2TO.symm⟩
  · exact ⟨D.i12, D.l2i1.symm⟩
  · exact ⟨D.i12.symm, D.l1i2.symm⟩
/-- the rows at a and b as they stand at each turn, the items in new pairs -/
def ItzB (K : PySem.W.Frag) (ka kb : Bool) (a b : Addr) : It :=
  ⟨fun i H => ∃ (xs ys : List V) (x y : V), SqB K ka H a xs ∧ SqB K kb H b ys ∧ xs[i]? = some x ∧ ys[i]? = some y,
   fun i H v H' => ∃ T x y, v = .ref T ∧ H T = none ∧ H' = upd H T (.tup [x, y]) ∧ (∀ xs, SqB K ka H a xs → xs[i]? = some x) ∧ ∀ ys, SqB K kb H b ys → ys[i]? = some y,
   fun i H => ∃ xs ys : List V, SqB K ka H a xs ∧ SqB K kb H b ys ∧ i ≤ xs.length ∧ i ≤ ys.length ∧ (i = xs.length ∨ i = ys.length)⟩
theorem turn_zipB {P : Program} {w : World} {K : PySem.W.Frag} {elts : List Expr} {kk : Nat} {tpos : Pos} {ka kb : Bool} {a b z TI TO i1 i2 : Addr} (D : ZipApart z TI TO i1 i2 a b) :
    Turn P w K (.Tuple elts kk tpos) (ItzB K ka kb a b) [z, TI, TO, i1, i2] z (fun i h => IsZip h z TI TO .none ∧ IsPair h TI (.ref i1) (.ref i2) ∧ (∃ x y, IsPair h TO x y) ∧ ItIs h ka i1 a i ∧ ItIs h kb i2 b i) := by
  have five : ∀ {c : Addr}, c ∈ [z, TI, TO, i1, i2] → c = z ∨ c = TI ∨ c = TO ∨ c = i1 ∨ c = i2 := fun hc => by simpa using hc
  refine ⟨by simp, ?_, ?_, ?_, ?_, fun A i s Q E st h => wpAny_pyIter_zip st.1 h⟩
  · rintro i h ⟨sz, sI, ⟨x, y, sO⟩, j1, j2⟩ c hc
    rcases five hc with rfl | rfl | rfl | rfl | rfl
    · exact ⟨_, sz, fun v q => nomatch q⟩
    · exact ⟨_, sI, fun v q => nomatch q⟩
    · exact ⟨_, sO, fun v q => nomatch q⟩
    · exact it_obj ka j1
    · exact it_obj kb j2
  · rintro i h h' ⟨sz, sI, ⟨x, y, sO⟩, j1, j2⟩ kp
    exact ⟨kp z (by simp) _ sz, kp TI (by simp) _ sI, ⟨x, y, kp TO (by simp) _ sO⟩, it_at ka j1 fun o q => kp i1 (by simp) o q, it_at kb j2 fun o q => kp i2 (by simp) o q⟩
  · intro X hP hw hK hc i pins s σ H E I hf st hg
    subst hP hw hK
    obtain ⟨sz, sI, ⟨x0, y0, sO⟩, j1, j2⟩ := st
    obtain ⟨xs, ys, x, y, qa, qb, hx, hy⟩ := hg
    obtain ⟨its, rv, p⟩ := inv_sq I ka qa
    obtain ⟨jts, rw', p2⟩ := inv_sq I kb qb
    obtain ⟨u, hu, ru⟩ := rv.get hx
    obtain ⟨u2, hu2, ru2⟩ := rw'.get hy
    have hh : X.A.in1.handled = none := I.ok.hd hc
    have lz : z < s.heap.objs.size := Heap.lt_size sz
    have n1 : i < its.toArray.size := by
      have := (List.getElem?_eq_some_iff.mp hu).1
      simpa using this
    have n2 : i < jts.toArray.size := by
      have := (List.getElem?_eq_some_iff.mp hu2).1
      simpa using this
    refine wpAny_pyNext_zipD2_item (zip_sep D) (draws_sq hh i1 a D.l1i1 its.toArray ka) (draws_sq hh i2 b D.l2i2 jts.toArray kb) sz sI sO ⟨j1, p⟩ ⟨j2, p2⟩ n1 n2 fun w1 w2 h' tk b1 b2 z' o' k1 k2 hT hsz hk => ?_
    have eu : w1 = u := by
      have : its[i]? = some w1 := by simpa using b1
      exact Option.some.inj (this.symm.trans hu)
    have eu2 : w2 = u2 := by
      have : jts[i]? = some w2 := by simpa using b2
      exact Option.some.inj (this.symm.trans hu2)
    subst eu eu2
    refine ⟨_, rfl, wpAny_letOwnedTupleGo_zip (s := { s with heap := h', toks := tk }) z' fun h2 z2 sb => ?_⟩
    have hT2 : h2.get? s.heap.objs.size = some { cls := .type "tuple", data := .seq #[w1, w2] } := by rw [sb.2 _ (Nat.ne_of_gt lz)]; exact hT
    have hk2 : ∀ c o, c ≠ z → c ≠ TO → c ≠ i1 → c ≠ i2 → s.heap.get? c = some o → h2.get? c = some o := fun c o c1 c2 c3 c4 q => by rw [sb.2 _ c1]; exact hk c o c1 c2 c3 c4 q
    have fresh : ObjOk X.prog X.w (upd H s.heap.objs.size (.tup [x, y])) h2 s.heap.objs.size (.tup [x, y]) := ⟨(by decide : 2 ≤ sizeLine), [w1, w2], .cons ru (.cons ru2 .nil), ⟨_, hT2, rfl, _, rfl⟩⟩
    have J : Inv X pins σ (upd H s.heap.objs.size (.tup [x, y])) { s with heap := h2, toks := tk } :=
      I.turnedNew (t' := tk) (ch := [z, TI, TO, i1, i2]) (fun c o hb q => hk2 c o (fun e => hb (by simp [e])) (fun e => hb (by simp [e])) (fun e => hb (by simp [e])) (fun e => hb (by simp [e])) q) hf (Nat.le_refl _) fresh
    refine ⟨.ref s.heap.objs.size, _, J, rfl, ⟨_, x, y, rfl, I.hok.fresh (Nat.le_refl _), rfl, fun l hl => by rw [inj_sq I ka hl qa]; exact hx, fun l hl => by rw [inj_sq I kb hl qb]; exact hy⟩, ⟨z2, hk2 _ _ D.TIz D.TITO D.TIi1 D.TIi2 sI, ⟨w1, w2, ?_⟩, ?_, ?_⟩, fun c hcm => ?_⟩
    · show h2.get? TO = _
      rw [sb.2 _ D.TOz]
      exact o'
    · exact it_at ka k1.1 fun o q => by rw [sb.2 _ D.i1z]; exact q
    · exact it_at kb k2.1 fun o q => by rw [sb.2 _ D.i2z]; exact q
    · have lt : c < s.heap.objs.size := by
        rcases five hcm with rfl | rfl | rfl | rfl | rfl
        · exact lz
        · exact Heap.lt_size sI
        · exact Heap.lt_size sO
        · obtain ⟨_, e, _⟩ := it_obj ka j1; exact Heap.lt_size e
        · obtain ⟨_, e, _⟩ := it_obj kb j2; exact Heap.lt_size e
      rw [upd_ne (Nat.ne_of_lt lt)]
      exact (hf c hcm).1
  · intro X hP hw hK hc i pins s σ H E I hf st hg
    subst hP hw hK
    obtain ⟨sz, sI, ⟨x0, y0, sO⟩, j1, j2⟩ := st
    obtain ⟨xs, ys, qa, qb, l1, l2, hend⟩ := hg
    obtain ⟨its, rv, p⟩ := inv_sq I ka qa
    obtain ⟨jts, rw', p2⟩ := inv_sq I kb qb
    have hh : X.A.in1.handled = none := I.ok.hd hc
    have e1 := rv.length
    have e2 := rw'.length
    refine wpAny_pyNext_zipD2_end (zip_sep D) (draws_sq hh i1 a D.l1i1 its.toArray ka) (draws_sq hh i2 b D.l2i2 jts.toArray kb) sz sI sO ⟨j1, p⟩ ⟨j2, p2⟩ (by simp; omega) (by simp; omega) (by simp; omega) fun h' tk hk => ⟨rfl, ?_⟩
    exact I.turnedL (t' := tk) (ch := [z, TI, TO, i1, i2]) (fun c o hb q => hk c o (fun e => hb (by simp [e])) (fun e => hb (by simp [e])) (fun e => hb (by simp [e])) (fun e => hb (by simp [e])) q) hf
def itO : Bool → Addr → Obj
  | true, l => { cls := .type "list_iterator", data := .fields #[.ref l, .int 0 0] }
  | false, l => { cls := .type "tuple_iterator", data := .fields #[.ref l, .int 0 0] }
theorem begins_sq (l : Addr) (its : Array Value) : ∀ b : Bool, Begins (.ref l) (itO b l) fun h => SqIs h b l its
  | true => begins_list l its
  | false => begins_tuple l its
theorem it_of {h : Heap} {i l : Addr} : ∀ b : Bool, h.get? i = some (itO b l) → ItIs h b i l 0
  | true, e => ⟨_, e, rfl, rfl⟩
  | false, e => ⟨_, e, rfl, rfl⟩
def iZipB (K : PySem.W.Frag) (ta : TA) : TI := fun σ H R => ta σ H fun vs H1 => ∃ a b xs ys ka kb, vs = [.ref a, .ref b] ∧ SqB K ka H1 a xs ∧ SqB K kb H1 b ys ∧ R (ItzB K ka kb a b) H1
theorem pi_zipB {X : Cx} {e e2 : Expr} {ta : TA} {p pos tpos : Pos} {elts : List Expr} {kk : Nat} (hg : Gl X "zip") (hm : X.mg "zip" = none) (ha : PA X [e, e2] ta)
    (hs : starEach [e, e2] X.env = (false, eval e X.env) :: starEach [e2] X.env := by rfl) (hpl : (backTo pos (starEach [e2] X.env)).any (·.1) = false := by rfl) :
    PI X (.Tuple elts kk tpos) (.Call (.Name "zip" p) [e, e2] [] pos) (iZipB X.K ta) := by
  refine ⟨fun pins s σ H R I h => Call_ (ld_blt I hg hm PyProof.Rows.boot_zip (PyProof.Rows.callWith_type1 (thn (ha.run pos pins s σ H _ I h) ?_) hs hpl))⟩
  rintro us s1 ⟨vs, H1, I1, r1, a, b, xs, ys, ka, kb, rfl, qa, qb, q⟩
  cases r1 with
  | cons r rr =>
    cases rr with
    | cons r' rr =>
      cases rr
      cases r
      cases r'
      obtain ⟨its, rv, p1⟩ := inv_sq I1 ka qa
      obtain ⟨jts, rw', p2⟩ := inv_sq I1 kb qb
      refine zip_begins2 (begins_sq a its.toArray ka) (begins_sq b jts.toArray kb) p1 p2 fun h' sz sI sO j1 j2 hsz hk => wpAny_pyIter_zip sz ?_
      refine ⟨s1.heap.objs.size + 4, [s1.heap.objs.size + 4, s1.heap.objs.size + 2, s1.heap.objs.size + 3, s1.heap.objs.size, s1.heap.objs.size + 1], _, _, H1, rfl, (I1.kept (t' := s1.toks) hk), turn_zipB (PySem.W.ktu_apart s1.heap.objs.size a b (sq_lt ka p1) (sq_lt kb p2)), ⟨sz, sI, ⟨_, _, sO⟩, it_of ka j1, it_of kb j2⟩, fun c hcm => ?_, q⟩
      have ge : s1.heap.objs.size ≤ c := by
        have : c = s1.heap.objs.size + 4 ∨ c = s1.heap.objs.size + 2 ∨ c = s1.heap.objs.size + 3 ∨ c = s1.heap.objs.size ∨ c = s1.heap.objs.size + 1 := by simpa using hcm
        rcases this with rfl | rfl | rfl | rfl | rfl <;> simp
      exact I1.fpOk ge (I1.hok.fresh ge)
/-! ### as a reading -/
def rowD : D → Option (List D)
  | .lst ds => some ds
  | .tup ds => some ds
  | _ => none
def zipD : List D → List D → List D
  | x :: xs, y :: ys => .tup [x, y] :: zipD xs ys
  | _, _ => []
theorem zipD_len : ∀ (xs ys : List D), (zipD xs ys).length = min xs.length ys.length
  | [], ys => by simp [zipD]
  | x :: xs, [] => by simp [zipD]
  | x :: xs, y :: ys => by
    show (zipD xs ys).length + 1 = _
    rw [zipD_len xs ys, List.length_cons, List.length_cons]
    omega
theorem zipD_get : ∀ {xs ys : List D} {i : Nat} {d : D}, (zipD xs ys)[i]? = some d → ∃ x y, xs[i]? = some x ∧ ys[i]? = some y ∧ d = .tup [x, y]
  | [], ys, i, d, h => by simp [zipD] at h
  | x :: xs, [], i, d, h => by simp [zipD] at h
  | x :: xs, y :: ys, 0, d, h => ⟨x, y, rfl, rfl, by
    have : some (D.tup [x, y]) = some d := h
    exact (Option.some.inj this).symm⟩
  | x :: xs, y :: ys, i + 1, d, h => by
    have h : (zipD xs ys)[i]? = some d := h
    obtain ⟨u, v, h1, h2, h3⟩ := zipD_get h
    exact ⟨u, v, h1, h2, h3⟩
theorem row_rep {K : PySem.W.Frag} {S : Hp} {v : V} {d : D} {ds : List D} (r : Rep K S v d) (e : rowD d = some ds) : ∃ a vs b, v = .ref a ∧ Reps K S vs ds ∧ ∀ S1 μ1 H1, OK K S1 μ1 H1 → Same S S1 → SqB K b H1 a vs := by
  cases r with
  | lst h r =>
    cases e
    exact ⟨_, _, true, rfl, r, fun S1 μ1 H1 k1 e1 => SqL.of (k1.sub _ _ (e1 _ _ h))⟩
  | tup h r =>
    cases e
    exact ⟨_, _, false, rfl, r, fun S1 μ1 H1 k1 e1 => sqT_same k1.sub (sqT_same e1 h)⟩
  | _ => cases e
def rIZip (fa : RA) : RI := fun ρ μ R => fa ρ μ fun ds μ1 => match ds with
  | [x, y] => (match rowD x, rowD y with
    | some xs, some ys => R (zipD xs ys) tru μ1
    | _, _ => False)
  | _ => False
theorem itok_zip {K : PySem.W.Frag} {S : Hp} {a b : Addr} {ka kb : Bool} {us vs : List V} {xs ys : List D} {C : MH → Prop} (ra : Reps K S us xs) (rb : Reps K S vs ys)
    (ha : ∀ S1 μ1 H1, OK K S1 μ1 H1 → Same S S1 → SqB K ka H1 a us) (hb : ∀ S1 μ1 H1, OK K S1 μ1 H1 → Same S S1 → SqB K kb H1 b vs) : ItOk K S (ItzB K ka kb a b) (zipD xs ys) C := fun S1 μ1 H1 k1 e1 c1 i => by
  have qa := ha S1 μ1 H1 k1 e1
  have qb := hb S1 μ1 H1 k1 e1
  refine ⟨fun d hd => ?_, fun hi => ⟨us, vs, qa, qb, ?_⟩⟩
  · obtain ⟨x, y, h1, h2, rfl⟩ := zipD_get hd
    obtain ⟨u, hu, ru⟩ := ra.get h1
    obtain ⟨v, hv, rv⟩ := rb.get h2
    refine ⟨⟨us, vs, u, v, qa, qb, hu, hv⟩, fun z H' ⟨T, u', v', ez, hT, eH, f1, f2⟩ => ?_⟩
    have eu : u' = u := Option.some.inj ((f1 us qa).symm.trans hu)
    have ev : v' = v := Option.some.inj ((f2 vs qb).symm.trans hv)
    subst ez eH eu ev
    obtain ⟨k2, s2⟩ := k1.alloc (o := .tup [u', v']) hT
    exact ⟨_, k2, s2, .tup (.inl (.inl upd_same)) (.cons ((ru.mono e1).mono s2.same) (.cons ((rv.mono e1).mono s2.same) .nil))⟩
  · rw [zipD_len, ← ra.length, ← rb.length] at hi
    omega
theorem di_zip {X : Cx} {a b : Expr} {fa : RA} {p pos tpos : Pos} {elts : List Expr} {kk : Nat} (hg : Gl X "zip") (hm : X.mg "zip" = none) (ha : DA X [a, b] fa)
    (hs : starEach [a, b] X.env = (false, eval a X.env) :: starEach [b] X.env := by rfl) (hpl : (backTo pos (starEach [b] X.env)).any (·.1) = false := by rfl) : DI X (.Tuple elts kk tpos) (.Call (.Name "zip" p) [a, b] [] pos) (rIZip fa) :=
  pi_imp (pi_zipB hg hm ha hs hpl) fun σ H R ⟨S, μ, ρ, RR, k, e, h, post⟩ => by
    refine ⟨S, μ, ρ, _, k, e, h, fun S1 μ1 H1 ws ds k1 s1 r1 q1 => ?_⟩
    unfold rIZip at q1
    cases r1 with
    | nil => exact False.elim q1
    | cons rx r2 =>
      cases r2 with
      | nil => exact False.elim q1
      | cons ry r3 =>
        cases r3 with
        | cons _ _ => exact False.elim q1
        | nil =>
          rename_i x dx y dy
          dsimp only at q1
          cases e1 : rowD dx with
          | none => rw [e1] at q1; exact False.elim q1
          | some xs =>
            cases e2 : rowD dy with
            | none => rw [e1, e2] at q1; exact False.elim q1
            | some ys =>
              rw [e1, e2] at q1
              obtain ⟨a', us, ka, rfl, ra, fa'⟩ := row_rep rx e1
              obtain ⟨b', vs, kb, rfl, rb, fb'⟩ := row_rep ry e2
              exact ⟨a', b', us, vs, ka, kb, rfl, fa' _ _ _ k1 (fun _ _ h => h), fb' _ _ _ k1 (fun _ _ h => h), post S1 μ1 H1 _ _ tru k1 s1 (itok_zip ra rb fa' fb') q1⟩
end L3

/-! ## L3l -/
set_option Elab.async false
set_option linter.all false
set_option maxRecDepth 100000
set_option maxHeartbeats 4000000
/-! t[::-1], t a tuple. -/
namespace L3
open PySem PySem.Spec PyProof.Rows L2
section
variable {prog : Program} {w : World} {A : Around} {E : Value → Shared → Prop} {s : Shared}
end
theorem Reps.reverse {K : PySem.W.Frag} {S : Hp} : ∀ {vs : List V} {ds : List D}, Reps K S vs ds → Reps K S vs.reverse ds.reverse
  | _, _, .nil => .nil
  | _, _, .cons h r => by
    rw [List.reverse_cons, List.reverse_cons]
    exact Reps.append (Reps.reverse r) (.cons h .nil)
/-! ### f(e, .., k = v, ..), f a def of the module -/
structure FnK (P : Program) (w : World) (K : PySem.W.Frag) (mg : Str → Option Value) (base : Heap) (k : Nat) (x : Str) (s : GN) (n : Nat) (ks : List Str) (gD : List D → List D → List D) : Prop where
  ex : ∃ f fd ps g gV, FnOk P w K mg base CX0 k f fd ps (spD K s) ∧ mg x = some (.ref f) ∧ PySem.W.keepIn K (.ref f) = true ∧ KBn K fd ps n ks g gV ∧
    ∀ (vs zs : List V) (ds es : List D) (S : Hp), Reps K S vs ds → Reps K S zs es → Reps K S (gV vs zs) (gD ds es)
end L3

/-! ## L3m -/
set_option Elab.async false
set_option linter.all false
set_option maxRecDepth 100000
set_option maxHeartbeats 4000000
/-! enumerate of a row, a list or a tuple. -/
namespace L3
open PySem PySem.Spec PyProof.Rows L2
theorem meets_enum1 {v : Value} {o : Obj} {G : Heap → Prop} (B : Begins v o G) :
    Meets (Builtin.«enumerate.__new__» ⟨[.type "enumerate", v], []⟩) (fun _ R s => G s.heap ∧ R (.ok (.ret (.ref (s.heap.push o).objs.size))) { s with heap := (s.heap.push o).push { cls := .type "enumerate", data := .fields #[.none, .bool false, .ref s.heap.objs.size, rawInt 0, .none, .none] } }) :=
  .of_wp fun prog w A R s h => by
    obtain ⟨hp, gn, dr, tk, os⟩ := s
    obtain ⟨g1, g2⟩ := h
    have sub1 := sub_enumerate
    have q1 : ∀ {A' : Around} {E : Value → Shared → Prop} {Q : Value → Shared → Prop}, Q (.ref hp.objs.size) ⟨hp.push o, gn, dr, tk, os⟩ → wpAny (model prog w) A' (pyIter v) Q E ⟨hp, gn, dr, tk, os⟩ := fun q => B.iter prog w _ _ ⟨hp, gn, dr, tk, os⟩ _ g1 q
    wp_walk using q1
    refine wpAny_stack_any fun st => wpAny_pure ?_
    split
    · rename_i c _ _ _ _ _
      cases (c == Value.type "enumerate") <;> (wp_walk using q1; exact ⟨_, rfl, g2⟩)
    · wp_walk using q1
      exact ⟨_, rfl, g2⟩
theorem call_enum1 {prog : Program} {w : World} {A : Around} {E : Value → Shared → Prop} {s : Shared} {v : Value} {o : Obj} {G : Heap → Prop} {Q : Value → Shared → Prop} (B : Begins v o G) (g1 : G s.heap)
    (h : ∀ h', IsEnum h' (s.heap.objs.size + 1) s.heap.objs.size 0 .none → h'.get? s.heap.objs.size = some o → (∀ b o, s.heap.get? b = some o → h'.get? b = some o) → Q (.ref (s.heap.objs.size + 1)) { s with heap := h' }) :
    wpAny (model prog w) A (call (.type "enumerate") [v]) Q E s := by
  refine callType_new F.called_enumerate (by decide) (F.typeCall_enumerate_1 _) (F.newCall_enumerate_1 _) (fun obj => F.args_object_init_2 obj _) F.entry_enumerate_new (meets_enum1 B) ⟨g1, ?_⟩
  have sz : (s.heap.push o).objs.size = s.heap.objs.size + 1 := Heap.size_push ..
  show _ ∧ _
  rw [sz]
  have he := Heap.get?_push_size (s.heap.push o) (o := { cls := .type "enumerate", data := .fields #[.none, .bool false, .ref s.heap.objs.size, rawInt 0, .none, .none] }) rfl
  rw [sz] at he
  exact ⟨⟨_, he, rfl⟩, h _ he (Heap.get?_push_of_some _ (Heap.get?_push_size _ B.free)) fun b o x => Heap.get?_push_of_some _ (Heap.get?_push_of_some _ x)⟩
/-- the row at a as it stands at each turn, each item behind its number -/
def IteB (K : PySem.W.Frag) (b : Bool) (a : Addr) : It :=
  ⟨fun i H => ∃ (xs : List V) (x : V), SqB K b H a xs ∧ xs[i]? = some x,
   fun i H v H' => ∃ T x, v = .ref T ∧ H T = none ∧ H' = upd H T (.tup [.int (i : Nat), x]) ∧ ∀ xs, SqB K b H a xs → xs[i]? = some x,
   fun i H => ∃ xs : List V, SqB K b H a xs ∧ i = xs.length⟩
theorem turn_enumB {P : Program} {w : World} {K : PySem.W.Frag} {elts : List Expr} {kk : Nat} {tpos : Pos} {b : Bool} {a e it : Addr} (n1 : e ≠ it) (n2 : a ≠ it) (n3 : e ≠ a) :
    Turn P w K (.Tuple elts kk tpos) (IteB K b a) [e, it] e (fun i h => (∃ old, IsEnum h e it ((i : Nat) : Int) old) ∧ ItIs h b it a i) := by
  have two : ∀ {c : Addr}, c ∈ [e, it] → c = e ∨ c = it := fun hc => by simpa using hc
  have hef : e ∉ [it, a] := by simp [n1, n3]
  refine ⟨by simp, ?_, ?_, ?_, ?_, fun A i s Q E st h => let ⟨⟨_, he⟩, _⟩ := st; wpAny_pyIter_enum he h⟩
  · rintro i h ⟨⟨old, he⟩, j1⟩ c hc
    rcases two hc with rfl | rfl
    · exact ⟨_, he, fun v q => nomatch q⟩
    · exact it_obj b j1
  · rintro i h h' ⟨⟨old, he⟩, j1⟩ kp
    exact ⟨⟨old, kp e (by simp) _ he⟩, it_at b j1 fun o q => kp it (by simp) o q⟩
  · intro X hP hw hK hc i pins s σ H E I hf st hg
    subst hP hw hK
    obtain ⟨⟨old, he⟩, j1⟩ := st
    obtain ⟨xs, x, qa, hx⟩ := hg
    obtain ⟨its, rv, p⟩ := inv_sq I b qa
    obtain ⟨u, hu, ru⟩ := rv.get hx
    have hh : X.A.in1.handled = none := I.ok.hd hc
    have le : e < s.heap.objs.size := Heap.lt_size he
    have n : i < its.toArray.size := by
      have := (List.getElem?_eq_some_iff.mp hu).1
      simpa using this
    refine wpAny_pyNext_enum_itemC (draws_sq hh it a n2 its.toArray b) he ⟨j1, p⟩ n n1 hef fun w1 h' tk b1 ho k1 hT hsz hk => ?_
    have eu : w1 = u := by
      have : its[i]? = some w1 := by simpa using b1
      exact Option.some.inj (this.symm.trans hu)
    subst eu
    refine ⟨_, rfl, wpAny_letOwnedTupleGo_enum (s := { s with heap := h', toks := tk + 1 }) ho fun h2 he2 sb => ?_⟩
    have hT2 : h2.get? s.heap.objs.size = some { cls := .type "tuple", data := .seq #[.int i tk, w1] } := by rw [sb.2 _ (Nat.ne_of_gt le)]; exact hT
    have hk2 : ∀ c o, c ≠ e → c ≠ it → s.heap.get? c = some o → h2.get? c = some o := fun c o c1 c2 q => by rw [sb.2 _ c1]; exact hk c o c1 c2 q
    have fresh : ObjOk X.prog X.w (upd H s.heap.objs.size (.tup [.int (i : Nat), x])) h2 s.heap.objs.size (.tup [.int (i : Nat), x]) := ⟨(by decide : 2 ≤ sizeLine), [.int i tk, w1], .cons ⟨_, rfl⟩ (.cons ru .nil), ⟨_, hT2, rfl, _, rfl⟩⟩
    have J : Inv X pins σ (upd H s.heap.objs.size (.tup [.int (i : Nat), x])) { s with heap := h2, toks := tk + 1 } :=
      I.turnedNew (t' := tk + 1) (ch := [e, it]) (fun c o hb q => hk2 c o (fun z => hb (by simp [z])) (fun z => hb (by simp [z])) q) hf (Nat.le_refl _) fresh
    refine ⟨.ref s.heap.objs.size, _, J, rfl, ⟨_, x, rfl, I.hok.fresh (Nat.le_refl _), rfl, fun l hl => by rw [inj_sq I b hl qa]; exact hx⟩, ⟨⟨w1, ?_⟩, ?_⟩, fun c hcm => ?_⟩
    · rw [show ((i + 1 : Nat) : Int) = (i : Int) + 1 by omega]
      exact he2
    · exact it_at b k1.1 fun o q => by rw [sb.2 _ (Ne.symm n1)]; exact q
    · have lt : c < s.heap.objs.size := by
        rcases two hcm with rfl | rfl
        · exact le
        · obtain ⟨_, q, _⟩ := it_obj b j1; exact Heap.lt_size q
      rw [upd_ne (Nat.ne_of_lt lt)]
      exact (hf c hcm).1
  · intro X hP hw hK hc i pins s σ H E I hf st hg
    subst hP hw hK
    obtain ⟨⟨old, he⟩, j1⟩ := st
    obtain ⟨xs, qa, hend⟩ := hg
    obtain ⟨its, rv, p⟩ := inv_sq I b qa
    have hh : X.A.in1.handled = none := I.ok.hd hc
    have e1 := rv.length
    have en : its.toArray.size = i := by simp; omega
    refine wpAny_pyNext_enum_endD (draws_sq hh it a n2 its.toArray b) he (by rw [en]; exact ⟨j1, p⟩) fun h' hk => ⟨rfl, ?_⟩
    exact I.turnedL (t' := s.toks) (ch := [e, it]) (fun c o hb q => hk c o (fun z => hb (by simp [z])) q) hf
def iEnumB (K : PySem.W.Frag) (ta : TA) : TI := fun σ H R => ta σ H fun vs H1 => ∃ a xs b, vs = [.ref a] ∧ SqB K b H1 a xs ∧ R (IteB K b a) H1
theorem pi_enumB {X : Cx} {e : Expr} {ta : TA} {p pos tpos : Pos} {elts : List Expr} {kk : Nat} (hg : Gl X "enumerate") (hm : X.mg "enumerate" = none) (ha : PA X [e] ta) (hs : starEach [e] X.env = [(false, eval e X.env)] := by rfl) :
    PI X (.Tuple elts kk tpos) (.Call (.Name "enumerate" p) [e] [] pos) (iEnumB X.K ta) := by
  refine ⟨fun pins s σ H R I h => Call_ (ld_blt I hg hm boot_enumerate (PyProof.Rows.callWith_type1 (thn (ha.run pos pins s σ H _ I h) ?_) hs rfl))⟩
  rintro us s1 ⟨vs, H1, I1, r1, a, xs, b, rfl, qa, q⟩
  cases r1 with
  | cons r rr =>
    cases rr
    cases r
    obtain ⟨its, rv, p1⟩ := inv_sq I1 b qa
    have la := sq_lt b p1
    refine call_enum1 (begins_sq a its.toArray b) p1 fun h' he j1 hk => wpAny_pyIter_enum he ?_
    refine ⟨s1.heap.objs.size + 1, [s1.heap.objs.size + 1, s1.heap.objs.size], _, _, H1, rfl, (I1.kept (t' := s1.toks) hk), turn_enumB (b := b) (a := a) (it := s1.heap.objs.size) (Nat.succ_ne_self _) (Nat.ne_of_lt la) (Nat.ne_of_gt (Nat.lt_succ_of_lt la)), ⟨⟨.none, he⟩, it_of b j1⟩, fun c hcm => ?_, q⟩
    have ge : s1.heap.objs.size ≤ c := by
      have : c = s1.heap.objs.size + 1 ∨ c = s1.heap.objs.size := by simpa using hcm
      rcases this with rfl | rfl <;> simp
    exact I1.fpOk ge (I1.hok.fresh ge)
/-! ### as a reading -/
def numbered : Nat → List D → List D
  | _, [] => []
  | n, d :: r => .tup [.int (n : Int), d] :: numbered (n + 1) r
theorem numbered_len : ∀ (n : Nat) (ds : List D), (numbered n ds).length = ds.length
  | _, [] => rfl
  | n, d :: r => congrArg Nat.succ (numbered_len (n + 1) r)
theorem numbered_get : ∀ {ds : List D} {n i : Nat} {d : D}, (numbered n ds)[i]? = some d → ∃ x, ds[i]? = some x ∧ d = .tup [.int ((n + i : Nat) : Int), x]
  | [], n, i, d, h => by simp [numbered] at h
  | x :: r, n, 0, d, h => ⟨x, rfl, by
    have : some (D.tup [.int (n : Int), x]) = some d := h
    exact (Option.some.inj this).symm⟩
  | x :: r, n, i + 1, d, h => by
    have h : (numbered (n + 1) r)[i]? = some d := h
    obtain ⟨u, h1, h2⟩ := numbered_get h
    exact ⟨u, h1, by rw [h2, show n + 1 + i = n + (i + 1) by omega]⟩
def rIEnum (fa : RA) : RI := fun ρ μ R => fa ρ μ fun ds μ1 => match ds with
  | [x] => (match rowD x with
    | some xs => R (numbered 0 xs) tru μ1
    | none => False)
  | _ => False
theorem itok_enum {K : PySem.W.Frag} {S : Hp} {a : Addr} {b : Bool} {us : List V} {xs : List D} {C : MH → Prop} (ra : Reps K S us xs) (ha : ∀ S1 μ1 H1, OK K S1 μ1 H1 → Same S S1 → SqB K b H1 a us) : ItOk K S (IteB K b a) (numbered 0 xs) C := fun S1 μ1 H1 k1 e1 c1 i => by
  have qa := ha S1 μ1 H1 k1 e1
  refine ⟨fun d hd => ?_, fun hi => ⟨us, qa, ?_⟩⟩
  · obtain ⟨x, h1, rfl⟩ := numbered_get hd
    obtain ⟨u, hu, ru⟩ := ra.get h1
    refine ⟨⟨us, u, qa, hu⟩, fun z H' ⟨T, u', ez, hT, eH, f1⟩ => ?_⟩
    have eu : u' = u := Option.some.inj ((f1 us qa).symm.trans hu)
    subst ez eH eu
    obtain ⟨k2, s2⟩ := k1.alloc (o := .tup [.int (i : Nat), u']) hT
    refine ⟨_, k2, s2, ?_⟩
    rw [Nat.zero_add]
    exact .tup (.inl (.inl upd_same)) (.cons (.int _) (.cons ((ru.mono e1).mono s2.same) .nil))
  · rw [numbered_len, ← ra.length] at hi
    exact hi
theorem di_enum {X : Cx} {a : Expr} {fa : RA} {p pos tpos : Pos} {elts : List Expr} {kk : Nat} (hg : Gl X "enumerate") (hm : X.mg "enumerate" = none) (ha : DA X [a] fa) (hs : starEach [a] X.env = [(false, eval a X.env)] := by rfl) : DI X (.Tuple elts kk tpos) (.Call (.Name "enumerate" p) [a] [] pos) (rIEnum fa) :=
  pi_imp (pi_enumB hg hm ha hs) fun σ H R ⟨S, μ, ρ, RR, k, e, h, post⟩ => by
    refine ⟨S, μ, ρ, _, k, e, h, fun S1 μ1 H1 ws ds k1 s1 r1 q1 => ?_⟩
    unfold rIEnum at q1
    cases r1 with
    | nil => exact False.elim q1
    | cons rx r2 =>
      cases r2 with
      | cons _ _ => exact False.elim q1
      | nil =>
        rename_i x dx
        dsimp only at q1
        cases e1 : rowD dx with
        | none => rw [e1] at q1; exact False.elim q1
        | some xs =>
          rw [e1] at q1
          obtain ⟨a', us, b, rfl, ra, fa'⟩ := row_rep rx e1
          exact ⟨a', us, b, rfl, fa' _ _ _ k1 (fun _ _ h => h), post S1 μ1 H1 _ _ tru k1 s1 (itok_enum ra fa') q1⟩
/-! ### try: a body that raises nothing -/
theorem ds_thru {X : Cx} {body : List Stmt} {h : ExceptHandler} {hs : List ExceptHandler} {f : RS} {pos : Pos} (hb : DSs X.nox body f) : DS X (.Try body (h :: hs) [] [] pos) f := ps_try_thru0 hb
end L3

/-! ## L3n -/
set_option Elab.async false
set_option linter.all false
set_option maxRecDepth 100000
set_option maxHeartbeats 4000000
/-! len of an instance with its own __len__; more methods of lists; o.f += e; int(x). -/
namespace L3
open PySem PySem.Spec PyProof.Rows L2
section
variable {K : PySem.W.Frag} {X : Cx} {k : Nat} {C g : Addr} {s : GN} {a o value : Expr} {fa fv : RX} {p pos tpos : Pos} {f : Str}
/-- int(x) -/
def gInt : GN := fun ds μ R => match ds with
  | [.int i] => R (.int i) μ
  | [.bl b] => R (.int (if b then 1 else 0)) μ
  | _ => False
theorem snd_int1 : SndN K (fun xs H Q => (∃ i, xs = [.int i] ∧ Q (.int i) H) ∨ ∃ b, xs = [.bl b] ∧ Q (.int (if b then 1 else 0)) H) gInt := by
  intro S μ H xs dxs R Q k r q post
  unfold gInt at q
  split at q
  · obtain ⟨v, rfl, r1⟩ := reps1 r
    cases r1.toInt
    exact .inl ⟨_, rfl, post S μ H _ _ k .refl (.int _) q⟩
  · obtain ⟨v, rfl, r1⟩ := reps1 r
    cases r1.toBl
    exact .inr ⟨_, rfl, post S μ H _ _ k .refl (.int _) q⟩
  · exact q.elim
theorem de_int1 {e : Expr} {fa : RA} (hg : Gl X "int") (hm : X.mg "int" = none) (ha : DA X [e] fa) (he : starEach [e] X.env = (false, eval e X.env) :: starEach [] X.env := by rfl) : DE X (.Call (.Name "int" p) [e] [] pos) (rCl gInt fa) := de_callTy call_int1 snd_int1 hg hm (by decide +kernel) ha (he := he)
end
end L3

/-! ## L3p -/
set_option Elab.async false
set_option linter.all false
set_option maxRecDepth 100000
set_option maxHeartbeats 4000000
/-! Errors that leave a def: promises with a second end. -/
namespace L3
open PySem PySem.Spec PyProof.Rows L2
abbrev RE := Addr → List (Str × D) → MH → Prop
/-- an error of the class at C with the attributes fs -/
def XRep (K : PySem.W.Frag) (S : Hp) (cls : Value) (d : Option Addr) (C : Addr) (fs : List (Str × D)) : Prop :=
  cls = .ref C ∧ ((d = none ∧ fs = []) ∨ ∃ dd vfs, d = some dd ∧ S dd = some (.xd vfs) ∧ RepF K S vfs fs ∧ fs ≠ [])
theorem XRep.mono {K : PySem.W.Frag} {S S' : Hp} {cls : Value} {d : Option Addr} {C : Addr} {fs : List (Str × D)} (e : Same S S') (x : XRep K S cls d C fs) : XRep K S' cls d C fs :=
  ⟨x.1, x.2.imp (fun z => z) fun ⟨dd, vfs, a, b, c, n⟩ => ⟨dd, vfs, a, e _ _ b, c.mono e, n⟩⟩
abbrev PstX (K : PySem.W.Frag) (S : Hp) (μ : MH) (H : Hp) (re : RE) (E : XK) : Prop := ∀ S' μ' H' cls d C fs, OK K S' μ' H' → Stp S μ H S' μ' H' → XRep K S' cls d C fs → re C fs μ' → E cls d H'
theorem PstX.stp {K : PySem.W.Frag} {S S' H H' : Hp} {μ μ' : MH} {re : RE} {E : XK} (p : PstX K S μ H re E) (s : Stp S μ H S' μ' H') : PstX K S' μ' H' re E := fun _ _ _ _ _ _ _ k s2 x q => p _ _ _ _ _ _ _ k (s.trans s2) x q
abbrev GX := List D → MH → (D → MH → Prop) → RE → Prop
def spX (K : PySem.W.Frag) (s : GX) : Sp := fun vs H Q E => ∃ S μ ds R re, OK K S μ H ∧ Reps K S vs ds ∧ s ds μ R re ∧ Pst K S μ H R Q ∧ PstX K S μ H re E
abbrev RXX := EV → MH → (D → MH → Prop) → RE → Prop
/-- what a context takes, whatever the slots hold -/
def anyS (W : WX) : XK := fun cls d H' => ∀ σ', W cls d σ' H'
def upX (K : PySem.W.Frag) (W : WX) (f : RXX) : TE := fun σ H Q => ∃ S μ ρ R re, OK K S μ H ∧ RepE K S σ ρ ∧ f ρ μ R re ∧ Pst K S μ H R Q ∧ PstX K S μ H re (anyS W)
abbrev DEX (X : Cx) (W : WX) (e : Expr) (f : RXX) : Prop := PE X e (upX X.K W f)
structure LkX (K : PySem.W.Frag) (W : WX) (S : Hp) (μ : MH) (H : Hp) (D : Ends) (DD : Ed) : Prop where
  l : Lk K S μ H D DD
  ex : PstX K S μ H DD.ex (anyS W)
theorem LkX.stp {K : PySem.W.Frag} {W : WX} {S S' H H' : Hp} {μ μ' : MH} {D : Ends} {DD : Ed} (l : LkX K W S μ H D DD) (s : Stp S μ H S' μ' H') : LkX K W S' μ' H' D DD := ⟨l.l.stp s, l.ex.stp s⟩
def upSX (K : PySem.W.Frag) (W : WX) (f : RS) : TS := fun D σ H => ∃ S μ ρ DD, OK K S μ H ∧ RepE K S σ ρ ∧ f DD ρ μ ∧ LkX K W S μ H D DD
abbrev DSX (X : Cx) (W : WX) (s : Stmt) (f : RS) : Prop := PS X s (upSX X.K W f)
abbrev DSsX (X : Cx) (W : WX) (s : List Stmt) (f : RS) : Prop := PSs X s (upSX X.K W f)
section
variable {X : Cx} {W : WX} {a : Stmt} {as bs rest : List Stmt} {f g : RS} {c e : Expr} {ft : RT} {fx : RXX} {fe : RX} {fa : RA} {pos : Pos}
theorem PS.nox {st : Stmt} {t : TS} (h : PS X.nox st t) : PS X st t := ⟨fun pins s σ H D I hw =>
  wpAny_mono (h.run pins s σ H D (I.wish _) hw) (fun _ _ q => q.unwish) fun _ _ z => z.elim⟩
/-- a statement that raises nothing -/
theorem dsx_nox (h : DS X.nox a f) : DSX X W a f := ps_imp (PS.nox h) fun D σ H ⟨S, μ, ρ, DD, k, e, h, l⟩ => ⟨S, μ, ρ, DD, k, e, h, l.l⟩
theorem dssx_nil : DSsX X W [] rNext := pss_imp pss_nil fun D σ H ⟨S, μ, ρ, DD, k, e, h, l⟩ => l.l.nx S μ H σ ρ k .refl e h
theorem dssx_cons (h1 : DSX X W a f) (h2 : DSsX X W rest g) : DSsX X W (a :: rest) (rSeq f g) := pss_imp (pss_cons h1 h2) fun D σ H ⟨S, μ, ρ, DD, k, e, h, l⟩ =>
  ⟨S, μ, ρ, _, k, e, h, ⟨fun S1 μ1 H1 σ1 ρ1 k1 s1 e1 q1 => ⟨S1, μ1, ρ1, DD, k1, e1, q1, l.stp s1⟩, l.l.rt, l.l.bk, l.l.ct⟩, l.ex⟩
theorem dssx_one (h1 : DSX X W a f) : DSsX X W [a] f := pss_one h1
theorem dsx_if (hc : DT X c ft) (ha : DSsX X W as f) (hb : DSsX X W bs g) : DSX X W (.If c as bs pos) (rIf ft f g) := ps_imp (ps_if hc ha hb) fun D σ H ⟨S, μ, ρ, DD, k, e, h, l⟩ => by
  refine ⟨S, μ, ρ, _, k, e, h, fun S1 μ1 H1 b1 k1 s1 h1 => ?_⟩
  cases b1 with
  | true => rw [if_pos rfl] at h1 ⊢; exact ⟨S1, μ1, ρ, DD, k1, e.mono s1.same, h1, l.stp s1⟩
  | false => rw [if_neg Bool.false_ne_true] at h1 ⊢; exact ⟨S1, μ1, ρ, DD, k1, e.mono s1.same, h1, l.stp s1⟩
/-! statements that are one call -/
/-! ### raise C('..') -/
/-- the class at C, of a base class whose __new__ and __init__ take one text -/
structure ExcG (K : PySem.W.Frag) (mg : Str → Option Value) (x : Str) (C : Addr) : Prop where
  ex : ∃ bmB B newId initId, ExcBaseFacts B newId initId bmB ∧ PySem.W.excIn K C bmB newId = true
  gC : mg x = some (.ref C)
  kC : PySem.W.keepIn K (.ref C) = true
  r1 : PySem.W.subIn K (.ref C) (.type "BaseException") = some true
  r2 : PySem.W.typeIn K (.ref C) = some (.type "type")
def rRaise (C : Addr) : RS := fun D _ μ => D.ex C [] μ
theorem dsx_raise {x m : Str} {C : Addr} {j : Nat} {p p2 cpos : Pos} (G : ExcG X.K X.mg x C) (tk : Takes X W) (hg : Gl X x) (hdb : (x == ("__debug__" : Str)) = false := by decide) (hc : X.calm = true := by rfl) : DSX X W (.Raise (some (.Call (.Name x p) [.Constant (.str m) j p2] [] cpos)) none pos) (rRaise C) := by
  obtain ⟨bmB, B, newId, initId, F, q⟩ := G.ex
  exact ps_imp (ps_raise hc tk (pmk_own F q G.gC G.kC (raises_own G.r1 G.r2) hg hdb)) fun D σ H ⟨S, μ, ρ, DD, k, e, h, l⟩ => l.ex S μ H _ _ C [] k .refl ⟨rfl, .inl ⟨rfl, rfl⟩⟩ h σ
end
/-! ### calls -/
structure FnGX (P : Program) (w : World) (K : PySem.W.Frag) (mg : Str → Option Value) (base : Heap) (k : Nat) (x : Str) (s : GX) : Prop where
  ex : ∃ f fd ps, FnOk P w K mg base (L2.CX P w) k f fd ps (spX K s) ∧ mg x = some (.ref f) ∧ PySem.W.keepIn K (.ref f) = true ∧ Binds K fd ps []
structure MtGX (P : Program) (w : World) (K : PySem.W.Frag) (mg : Str → Option Value) (base : Heap) (k : Nat) (C f : Addr) (s : GX) : Prop where
  ex : ∃ fd ps, FnOk P w K mg base (L2.CX P w) k f fd ps (spX K s) ∧ Binds K fd ps []
def rClX (s : GX) (fa : RA) : RXX := fun ρ μ R re => fa ρ μ fun ds μ1 => s ds μ1 R re
section
variable {X : Cx} {W : WX} {k : Nat} {C g : Addr} {x m : Str} {s : GX} {o e : Expr} {es : List Expr} {fo : RX} {fa : RA} {p pos apos : Pos}
theorem passX (tk : Takes X W) : Passes (L2.CX X.prog X.w) X (anyS W) := passes_call tk fun _ _ σ _ h => h σ
theorem dex_call (F : FnGX X.prog X.w X.K X.mg X.base k x s) (tk : Takes X W) (hr : Room k X.A) (hg : Gl X x) (ha : DA X (e :: es) fa) (hdb : (x == ("__debug__" : Str)) = false := by decide)
    (he : starEach (e :: es) X.env = (false, eval e X.env) :: starEach es X.env := by rfl) (hpl : (backTo pos (starEach es X.env)).any (·.1) = false := by rfl) : DEX X W (.Call (.Name x p) (e :: es) [] pos) (rClX s fa) := by
  obtain ⟨f, fd, ps, a, b, c, d⟩ := F.ex
  refine pe_imp (pe_call a hr hg b c d .nil (passX tk) ha hdb he hpl) fun σ H Q ⟨S, μ, ρ, R, re, k, e, h, post, pex⟩ => ?_
  refine ⟨S, μ, ρ, _, k, e, h, fun S1 μ1 H1 vs ds k1 s1 r1 h1 => ?_⟩
  show spX X.K s (vs ++ []) H1 Q (anyS W)
  rw [List.append_nil]
  exact ⟨S1, μ1, ds, R, re, k1, r1, h1, fun S3 μ3 H3 v d k3 s3 r3 h3 => post S3 μ3 H3 v d k3 (s1.trans s3) r3 h3, pex.stp s1⟩
end
/-! ### a def keeps its promise -/
def finX (R : D → MH → Prop) (re : RE) : Ed := { nx := fun _ μ' => R .non μ', rt := R, ex := re }
section
variable {P : Program} {w : World} {K : PySem.W.Frag} {mg : Str → Option Value} {base : Heap}
theorem fnDX {x qual : Str} {params : Arguments} {bd : List Stmt} {scope : Scope} {dvs : List V} {kws : List (Str × V)} {f : Addr} {fd : FuncData} {N ps : List Str} {k : Nat} {s : GX} {body : RS} (F : FunD K x qual params bd scope dvs kws f fd) (Sc : FnScope N ps scope)
    (len : ∀ ds μ R re, s ds μ R re → ds.length = ps.length)
    (hb : ∀ (cdv : Value) (A : Around) (outer : List Env) (s0 : Shared) (H : Hp) (E : XK), Room k (A.deeper (envOfC qual scope s0.heap.objs.size f cdv)) → Takes (cxOf (L2.CX P w) P w K mg base N qual scope f cdv A outer s0 H E) (fun cls d _ H' => E cls d H') →
      DSsX (cxOf (L2.CX P w) P w K mg base N qual scope f cdv A outer s0 H E) (fun cls d _ H' => E cls d H') bd body)
    (hv : ∀ ds μ R re, s ds μ R re → body (finX R re) (startD N.length ds) μ) : FnOk P w K mg base (L2.CX P w) (k + 1) f fd ps (spX K s) := by
  refine F.ok Sc (fun vs H Q E h => ?_) fun cdv A outer s0 H vs Q E hr h => ⟨upSX K (fun cls d _ H' => E cls d H') body, hb cdv A outer s0 H E hr (takes_of rfl rfl rfl rfl), ?_⟩
  · obtain ⟨S, μ, ds, R, re, a, b, c, _⟩ := h
    rw [b.length]
    exact len ds μ R re c
  · obtain ⟨S, μ, ds, R, re, a, b, c, d, dx⟩ := h
    exact ⟨S, μ, _, _, a, repE_start b, hv ds μ R re c, ⟨fun S' μ' H' σ' ρ' k' s' e' q' => d S' μ' H' _ _ k' s' .non q', fun S' μ' H' v z k' s' r' q' => d S' μ' H' v z k' s' r' q', fun _ _ _ _ _ _ _ _ q' => False.elim q', fun _ _ _ _ _ _ _ _ q' => False.elim q'⟩,
      fun S' μ' H' cls dd C fs k' s' x' q' _ => dx S' μ' H' cls dd C fs k' s' x' q'⟩
end
end L3

/-! ## L3q -/
set_option Elab.async false
set_option linter.all false
set_option maxRecDepth 100000
set_option maxHeartbeats 4000000
/-! What an except suite asks: isinstance of the error, count and index of a list, in; a call with a lambda. -/
namespace L3
open PySem PySem.Spec PyProof.Rows L2
section
variable {X : Cx}
def rCountD (K : PySem.W.Frag) : V → List V → Hp → VK → Prop := fun x xs H Q => ∃ (a : Addr) (y : V) (d : PyData) (ds : List PyData), x = V.ref a ∧ xs = [y] ∧ Dp K H (V.ref a) (.list ds) ∧ Dp K H y d ∧ SeqAt.shaped (.list ds) = true ∧ SeqAt.shaped d = true ∧
  Q (.int ((ds.countP fun z => PyData.eqv z d : Nat) : Int)) H
theorem mt_countD (hu : X.A.units + 65 < cLine) : MtR X "list.count" (rCountD X.K) := by
  rintro pins s σ H x xs v us Q I rx rxs ⟨a, y, d, ds, rfl, rfl, hl, hy, sl, sd, q⟩
  cases rx
  cases rxs with
  | cons ry rt =>
    cases rt
    obtain ⟨bs, rd⟩ := Dp.reads I d y _ hy ry
    have lay : PyData.canLayAll0 ds = true := SeqAt.canLay_of_shaped sl
    have room : X.A.units + 1 + min (PyData.depthAll ds) d.depth < cLine := room_in_shaped sd hu
    cases hl with
    | lst hs ha =>
      obtain ⟨its, rv, ⟨⟨c, dd, dt, sls⟩, n, ho, e1, _, e2⟩, _⟩ := I.list hs
      simp only at e1 e2
      subst e1 e2
      obtain ⟨as, rs⟩ := Dp.readsAll I ds _ its ha rv
      have hm := SeqAt.readsAll_map ds its as lay rs
      refine call_meets PySem.F.slot_list_count ⟨_, ho, rfl⟩ PySem.F.entry_list_count (PySem.F.args_list_count_2 _ _) (SeqAt.list_countAt a its.toArray n dd sls _ (fun u => PyData.eqv (SeqAt.readOf s.heap u) d))
        ⟨ho, SeqAt.items_eqAt (vs := its.toArray) (show ReadsAll s.heap its.toArray.toList ds as from rs) rd lay (SeqAt.canLay_of_shaped sd) room, ?_⟩
      have ec : its.toArray.toList.countP (fun u => PyData.eqv (SeqAt.readOf s.heap u) d) = ds.countP fun z => PyData.eqv z d := by
        rw [← hm, List.countP_map]
        rfl
      exact ⟨.int _, H, I.tok _, ⟨s.toks, by rw [ec]⟩, q⟩
end
/-! ### readings -/
/-- xs.m(e), xs a list of data -/
def rBM (g : List L3.D → List L3.D → MH → (L3.D → MH → Prop) → Prop) (fo : RX) (fa : RA) : RX := fun ρ μ R => fo ρ μ fun d μ1 => match d with
  | .lst xs => fa ρ μ1 fun ds μ2 => g xs ds μ2 R
  | _ => False
def gCount : List L3.D → List L3.D → MH → (L3.D → MH → Prop) → Prop := fun xs ds μ R => match ds with
  | [x] => pureN 20 (.lst xs) = true ∧ pureN 20 x = true ∧ R (.int ((xs.countP fun y => deq y x : Nat) : Int)) μ
  | _ => False
def gIndex : List L3.D → List L3.D → MH → (L3.D → MH → Prop) → Prop := fun xs ds μ R => match ds with
  | [x] => pureN 20 (.lst xs) = true ∧ pureN 20 x = true ∧ ∃ j z, xs[j]? = some z ∧ deq z x = true ∧ (∀ m z', m < j → xs[m]? = some z' → deq z' x = false) ∧ R (.int (j : Nat)) μ
  | _ => False
theorem toPys_map : ∀ xs : List D, toPys xs = xs.map toPy
  | [] => rfl
  | x :: r => congrArg (toPy x :: ·) (toPys_map r)
section
variable {K : PySem.W.Frag} {X : Cx} {o e : Expr} {fo fe : RX} {fa : RA} {apos pos p p2 : Pos}
def SndB (K : PySem.W.Frag) (r : V → List V → Hp → VK → Prop) (g : List L3.D → List L3.D → MH → (L3.D → MH → Prop) → Prop) : Prop :=
  ∀ S μ H x xs vs ds R Q, OK K S μ H → Rep K S x (.lst xs) → Reps K S vs ds → g xs ds μ R → Pst K S μ H R Q → r x vs H Q
theorem up_bm {T : String} {r : V → List V → Hp → VK → Prop} {g : List L3.D → List L3.D → MH → (L3.D → MH → Prop) → Prop} (s : SndB K r g) : ∀ σ H Q, up K (rBM g fo fa) σ H Q → tBM K "list" r (up K fo) (upA K fa) σ H Q := fun σ H Q ⟨S, μ, ρ, R, k, e, h, post⟩ => by
  refine ⟨S, μ, ρ, _, k, e, h, fun S1 μ1 H1 v d k1 s1 r1 h1 => ?_⟩
  cases d with
  | lst xs =>
    obtain ⟨a, vs, rfl, ha, _⟩ := res_lst (ds := xs) k1 r1 rfl
    exact ⟨.inl ⟨rfl, _, .inl (.inl ha)⟩, S1, μ1, ρ, _, k1, e.mono s1.same, h1, fun S2 μ2 H2 ws ds k2 s2 r2 h2 => s S2 μ2 H2 _ xs ws ds R Q k2 (r1.mono s2.same) r2 h2 fun S3 μ3 H3 v d k3 s3 r3 h3 => post S3 μ3 H3 v d k3 ((s1.trans s2).trans s3) r3 h3⟩
  | _ => exact False.elim h1
theorem snd_count : SndB K (rCountD K) gCount := by
  intro S μ H x xs vs ds R Q k rx rs q post
  unfold gCount at q
  split at q
  · rename_i y
    obtain ⟨v, rfl, r1⟩ := reps1 rs
    obtain ⟨p1, p2, q⟩ := q
    obtain ⟨a, ws, rfl, ha, _⟩ := res_lst (ds := xs) k rx rfl
    have dl : Dp K H (.ref a) (.list (toPys xs)) := res_dp (d := .lst xs) (n := 20) k rx p1
    have dv : Dp K H v (toPy y) := Dp.same k.sub (r1.dp p2)
    refine ⟨a, v, toPy y, toPys xs, rfl, rfl, dl, dv, pure_shaped (d := .lst xs) p1 (by decide), pure_shaped p2 (by decide), ?_⟩
    rw [toPys_map, List.countP_map]
    exact post S μ H _ _ k .refl (.int _) q
  · exact q.elim
theorem snd_index : SndB K (rIndexD K) gIndex := by
  intro S μ H x xs vs ds R Q k rx rs q post
  unfold gIndex at q
  split at q
  · rename_i y
    obtain ⟨v, rfl, r1⟩ := reps1 rs
    obtain ⟨p1, p2, j, z, hj, hz, hno, q⟩ := q
    obtain ⟨a, ws, rfl, ha, _⟩ := res_lst (ds := xs) k rx rfl
    have dl : Dp K H (.ref a) (.list (toPys xs)) := res_dp (d := .lst xs) (n := 20) k rx p1
    have dv : Dp K H v (toPy y) := Dp.same k.sub (r1.dp p2)
    refine ⟨a, v, toPy y, toPys xs, j, toPy z, rfl, rfl, dl, dv, pure_shaped (d := .lst xs) p1 (by decide), pure_shaped p2 (by decide), by rw [toPys_map, List.getElem?_map, hj]; rfl, hz, fun m z' hm h => ?_, post S μ H _ _ k .refl (.int _) q⟩
    rw [toPys_map, List.getElem?_map] at h
    cases w : xs[m]? with
    | none => rw [w] at h; cases h
    | some u =>
      rw [w] at h
      have := hno m u hm w
      rw [← Option.some.inj h]
      exact this
  · exact q.elim
theorem de_count (hu : X.A.units + 65 < cLine) (ho : DE X o fo) (ha : DA X [e] fa) (hbase : attributeBase o "count" X.env (eval o X.env) = eval o X.env := by rfl)
    (hfew : ((backTo pos (starEach [e] X.env)).all (fun x => !x.1) && (backToKw pos (keywordEach [] X.env)).all (fun x => x.1.isSome)
      && decide ([e].length + ([] : List Keyword).length + (if ([] : List Keyword).isEmpty then 0 else 1) < 30)) = true := by rfl)
    (hline : (apos.endLine == pos.line) = true := by rfl) (hst : starEach [e] X.env = (false, eval e X.env) :: starEach [] X.env := by rfl) : DE X (.Call (.Attribute o "count" apos) [e] [] pos) (rBM gCount fo fa) :=
  pe_imp (pe_bm PySem.F.plainAttrs_list PySem.F.slot_list_count PySem.F.type_list_count (mt_countD hu) ho ha hbase hfew hline hst) (up_bm (T := "list") snd_count)
theorem de_index (hu : X.A.units + 65 < cLine) (ho : DE X o fo) (ha : DA X [e] fa) (hbase : attributeBase o "index" X.env (eval o X.env) = eval o X.env := by rfl)
    (hfew : ((backTo pos (starEach [e] X.env)).all (fun x => !x.1) && (backToKw pos (keywordEach [] X.env)).all (fun x => x.1.isSome)
      && decide ([e].length + ([] : List Keyword).length + (if ([] : List Keyword).isEmpty then 0 else 1) < 30)) = true := by rfl)
    (hline : (apos.endLine == pos.line) = true := by rfl) (hst : starEach [e] X.env = (false, eval e X.env) :: starEach [] X.env := by rfl) : DE X (.Call (.Attribute o "index" apos) [e] [] pos) (rBM gIndex fo fa) :=
  pe_imp (pe_bm PySem.F.plainAttrs_list PySem.F.slot_list_index PySem.F.type_list_index (mt_indexD hu) ho ha hbase hfew hline hst) (up_bm (T := "list") snd_index)
/-- e in a list of data -/
def gIn : G2 := fun x y μ R => match res μ y with
  | .lst ys => pureN 20 (res μ x) = true ∧ pureN 20 (.lst ys) = true ∧ R (.bl (ys.any fun z => deq z (res μ x))) μ
  | _ => False
theorem snd_in : Snd2 K (rInD K) gIn := by
  intro S μ H x y dx dy R Q k rx ry q post
  unfold gIn at q
  cases w : res μ dy with
  | lst ys =>
    rw [w] at q
    obtain ⟨p1, p2, q⟩ := q
    have dl : Dp K H y (.list (toPys ys)) := by
      have := res_dp (n := 20) k ry (by rw [w]; exact p2)
      rw [w] at this
      exact this
    refine ⟨_, toPys ys, res_dp k rx p1, dl, pure_shaped p1 (by decide), pure_shaped (d := .lst ys) p2 (by decide), ?_⟩
    rw [toPys_map, List.any_map]
    exact post S μ H _ _ k .refl (.bl _) q
  | _ => rw [w] at q; exact q.elim
theorem dt_in {a b : Expr} {fa fb : RX} (hu : X.A.units + 65 < cLine) (ha : DE X a fa) (hb : DE X b fb) (hm : behindInMarks .In b = false := by rfl) : DT X (.Compare a [.In] [b] pos) (rB (rOp gIn fa fb)) := dt_cmp (op_inD hu) snd_in ha hb hm
end
/-! ### isinstance of the error that a suite holds -/
def rIsEx (a : Addr) (b : Bool) (fe : RX) : RX := fun ρ μ R => fe ρ μ fun x μ1 => x = .ref a ∧ R (.bl b) μ1
section
variable {X : Cx} {a Dc c : Addr} {oe : Obj} {pn : List (Addr × Obj)} {x : Str} {e : Expr} {fe : RX} {b : Bool} {p p2 pos : Pos}
end
end L3

/-! ## L3r -/
set_option Elab.async false
set_option linter.all false
set_option maxRecDepth 100000
set_option maxHeartbeats 4000000
/-! A def that tells the error that a lambda raises. -/
namespace L3
open PySem PySem.Spec PyProof.Rows L2
theorem repE_any {K : PySem.W.Frag} {S : Hp} : ∀ σ : L2.St, RepE K S σ (List.replicate σ.length none)
  | [] => .nil
  | o :: r => .no (repE_any r)
theorem takes_len {X : Cx} {W : WX} (t : Takes X W) : Takes X (fun cls d σ H => σ.length = X.N.length → W cls d σ H) := fun u s' ⟨a, B, sI, pins, σ, H, cls, d, e, I, nb, up, sky, na, os, ag, w⟩ => t u s' ⟨a, B, sI, pins, σ, H, cls, d, e, I, nb, up, sky, na, os, ag, w I.len⟩
/-- res: what is told of an error -/
def TErr (K : PySem.W.Frag) (res : Addr → List (Str × D) → D → Prop) : (XK → Hp → VK → Prop) → Hp → VK → Prop := fun tl H Q => ∃ S μ R, OK K S μ H ∧ Pst K S μ H R Q ∧
  tl (fun cls d H' => ∃ S' μ' C fs v, OK K S' μ' H' ∧ Stp S μ H S' μ' H' ∧ XRep K S' cls d C fs ∧ res C fs v ∧ R v μ') H (fun _ H' => Q .non H')
/-- the suite, for an error of the class C with the attributes fs: v is told -/
def SuOk (Z : Cx) (i n : Nat) (suite : List Stmt) (C : Addr) (fs : List (Str × D)) (v : D) : Prop := ∀ (a : Addr) (oe : Obj) (d : Option Addr) (pn : List (Addr × Obj)), Zc (.ref C) d oe → (∃ vs, oe.data = .fields vs) → (d = none ↔ fs = []) →
  PSs (Z.suite a ((a, oe) :: pn)) suite fun D σ H => ∃ S μ DD, OK Z.K S μ H ∧ RepE Z.K S σ (st (List.replicate n none) i (.ref a)) ∧ XRep Z.K S (.ref C) d C fs ∧ DD.rt v μ ∧ Lk Z.K S μ H D DD
/-! ### x(lambda: e) -/
/-- what the def at x that tells errors keeps -/
structure ErrD (P : Program) (w : World) (K : PySem.W.Frag) (mg : Str → Option Value) (base : Heap) (x : Str) (res : Addr → List (Str × D) → D → Prop) : Prop where
  ex : ∃ (g : Addr) (pg : Arguments) (bg : List Stmt) (sg : Scope) (dV kV doc pm cdv ct oc : Value) (an od : Option Addr) (osl : Array (Option Value)) (Ng : List Str) (a : Str),
    mg x = some (.ref g) ∧ PySem.W.keepIn K (.ref g) = true ∧ K.lookup g = some ⟨oc, od, .func (PySem.W.fnOf x x pg bg sg dV kV doc pm an cdv ct), osl⟩ ∧ PySem.W.codeIn K cdv x = true ∧ L2.Binds K (PySem.W.fnOf x x pg bg sg dV kV doc pm an cdv ct) [a] [] ∧
    FnScope Ng [a] sg ∧ Ng[0]? = some a ∧ Vis sg a ∧ (a == ("__debug__" : Str)) = false ∧ (a == ("__classdict__" : Str)) = false ∧
    ∀ (X : Cx) (q : Str), X.prog = P → X.w = w → X.K = K → X.mg = mg → X.base = base → X.A.units + 200 < cLine → LamX.GivesTo X Ng x sg g cdv bg a q (TErr K res)
/-- Pt: the table of the maker's code object -/
def rErrOf (Pt : Addr) (q : Str) (res : Addr → List (Str × D) → D → Prop) (f : RXX) : RX := fun ρ μ R => μ Pt = some (.tab q) ∧ f ρ μ (fun _ μ1 => R .non μ1) fun C fs μ1 => ∃ v, res C fs v ∧ R v μ1
open Classical in
/-- the code objects that are known now are data from now on -/
noncomputable def grow (S H1 : Hp) : Hp := fun b => match S b with
  | some o => some o
  | none => if ∃ q, H1 b = some (LamX.CodeO b q) then H1 b else none
theorem grow_sub {S H1 : Hp} {b : Addr} {o : HO} (h : S b = some o) : grow S H1 b = some o := by
  unfold grow
  rw [h]
theorem grow_code {S H1 : Hp} {c : Addr} {q : Str} (h : H1 c = some (LamX.CodeO c q)) (k : ∀ o, S c = some o → H1 c = some o) : grow S H1 c = some (LamX.CodeO c q) := by
  cases w : S c with
  | some o => rw [grow_sub w, ← k o w, h]
  | none =>
    unfold grow
    rw [w]
    dsimp only
    rw [if_pos ⟨q, h⟩, h]
theorem grow_inv {S H1 : Hp} {b : Addr} {o : HO} (h : grow S H1 b = some o) : S b = some o ∨ (S b = none ∧ ∃ q, H1 b = some (LamX.CodeO b q) ∧ o = LamX.CodeO b q) := by
  cases w : S b with
  | some o' => rw [grow_sub w] at h; exact .inl h
  | none =>
    unfold grow at h
    rw [w] at h
    dsimp only at h
    by_cases c : ∃ q, H1 b = some (LamX.CodeO b q)
    · rw [if_pos c] at h
      obtain ⟨q, e⟩ := c
      rw [e] at h
      exact .inr ⟨rfl, q, e, (Option.some.inj h).symm⟩
    · rw [if_neg c] at h; cases h
/-- a lambda is made: the table has grown -/
theorem OK.lam {K : PySem.W.Frag} {S H H1 : Hp} {μ : MH} (k : OK K S μ H) (e : LamX.ExtN H H1) (t : ∀ p r, μ p = some (.tab r) → LamX.TabS H1 p r) : OK K (grow S H1) μ H1 ∧ Stp S μ H (grow S H1) μ H1 := by
  have keepS : ∀ b o, S b = some o → H1 b = some o := fun b o h => e b o (k.sub b o h) fun ps z => k.nst b ps (by rw [h, z])
  have sm : Same S (grow S H1) := fun b o h => grow_sub h
  refine ⟨⟨fun b o h => ?_, fun a m h => ?_, fun b ps h => ?_, k.one⟩, sm, fun b o h => ?_, fun b o h _ n => e b o h n, fun b m h => .inr ⟨m, h⟩⟩
  · rcases grow_inv h with z | ⟨_, q', z1, z2⟩
    · exact keepS b o z
    · rw [z1, z2]
  · obtain ⟨z1, z2⟩ := k.mts a m h
    have nc : (∀ q', H1 a ≠ some (LamX.CodeO a q')) → grow S H1 a = none := fun n => by
      cases w : grow S H1 a with
      | none => rfl
      | some o =>
        rcases grow_inv w with z | ⟨_, q', y, _⟩
        · rw [z1] at z; cases z
        · exact absurd y (n q')
    cases m with
    | lst ds =>
      obtain ⟨vs, y1, y2⟩ := z2
      have h1 := e a _ y1 (fun _ z => by cases z)
      exact ⟨nc fun q' z => (by rw [h1] at z; unfold LamX.CodeO at z; cases z), vs, h1, y2.mono sm⟩
    | ins C fs =>
      obtain ⟨dx, vfs, y1, y2⟩ := z2
      have h1 := e a _ y1 (fun _ z => by cases z)
      exact ⟨nc fun q' z => (by rw [h1] at z; unfold LamX.CodeO at z; cases z), dx, vfs, h1, y2.mono sm⟩
    | dk kvs =>
      obtain ⟨vs, y1, y2⟩ := z2
      have h1 := e a _ y1 (fun _ z => by cases z)
      exact ⟨nc fun q' z => (by rw [h1] at z; unfold LamX.CodeO at z; cases z), vs, h1, y2.mono sm⟩
    | dkl o ws kvs =>
      obtain ⟨y1, y2⟩ := z2
      have h1 := e a _ y1 (fun _ z => by cases z)
      exact ⟨nc fun q' z => (by rw [h1] at z; unfold LamX.CodeO at z; cases z), h1, y2.mono sm⟩
    | dct o kvs =>
      obtain ⟨vs, y1, y2⟩ := z2
      have h1 := e a _ y1 (fun _ z => by unfold DctO at z; cases z)
      exact ⟨nc fun q' z => (by rw [h1] at z; exact dctO_ne_code (Option.some.inj z)), vs, h1, y2.mono sm⟩
    | tab q' =>
      obtain ⟨ps, t1, t2, t3⟩ := t a q' h
      refine ⟨nc fun q2 z => (by rw [t1] at z; unfold LamX.CodeO at z; cases z), ps, t1, t2, fun pos cv hc => ?_⟩
      obtain ⟨c, c1, c2⟩ := t3 pos cv hc
      exact ⟨c, c1, grow_code c2 (keepS c)⟩
  · rcases grow_inv h with z | ⟨_, q', _, z⟩
    · exact k.nst b ps z
    · unfold LamX.CodeO at z; cases z
  · rcases grow_inv h with z | ⟨_, q', z1, z2⟩
    · exact .inl z
    · exact .inr (.inr ⟨q', z2⟩)
open Classical in
/-- the tables that memory holds -/
theorem OK.tabs {K : PySem.W.Frag} {S H : Hp} {μ : MH} (k : OK K S μ H) : ∃ T : List (Addr × Str), (∀ p, p ∈ T ↔ μ p.1 = some (.tab p.2)) ∧ LamX.Tabs T H := by
  obtain ⟨T, h⟩ := k.one
  have hm : ∀ p, p ∈ T.filter (fun p => decide (μ p.1 = some (.tab p.2))) ↔ μ p.1 = some (.tab p.2) := fun p => by
    rw [List.mem_filter, decide_eq_true_eq]
    exact ⟨fun z => z.2, fun z => ⟨h p.1 p.2 z, z⟩⟩
  refine ⟨_, hm, fun p hp => ?_⟩
  obtain ⟨_, ps, t1, t2, t3⟩ := k.mts _ _ ((hm p).mp hp)
  refine ⟨ps, t1, t2, fun pos cv hc => ?_⟩
  obtain ⟨c, c1, c2⟩ := t3 pos cv hc
  exact ⟨c, c1, k.sub _ _ c2⟩
section
variable {X : Cx} {x : Str} {Pt c : Addr} {k : Nat} {res : Addr → List (Str × D) → D → Prop} {f : RXX} {params : Arguments} {body : Expr} {scope : Scope} {p lpos pos : Pos}
theorem de_errOf (F : ErrD X.prog X.w X.K X.mg X.base x res) (hr : Room (k + 2) X.A) (hg : Gl X x) (TB : LamX.TabB X.base X.mg c Pt) (hcode : X.env.code = .ref c) (L : LamX.LamS X.env.scope scope) (hdef : defaultsOf params X.env = ([], []))
    (hbind : ∀ (q : Str) (cl : List (Str × Addr)) (pm cv ctv : Value), bindArgs (PySem.W.kla_fn "<lambda>" q params body scope cl pm cv ctv) ⟨[], []⟩ = pure [])
    (hbody : ∀ (A : Around) (outer : List Env) (s : Shared) (H : Hp) (E : XK) (f0 c' : Addr), Room k (A.deeper (LamX.lamEnv X scope s.heap.objs.size f0 c')) → Takes (LamX.lamCx X A outer s H E scope f0 c') (fun cls d _ H' => E cls d H') → DEX (LamX.lamCx X A outer s H E scope f0 c') (fun cls d _ H' => E cls d H') body f)
    {q : Str} (hq : X.env.qual ++ "<lambda>" = q) (hdb : (x == ("__debug__" : Str)) = false := by decide) : DE X (.Call (.Name x p) [.Lambda params body scope lpos] [] pos) (rErrOf Pt q res f) := by
  subst hq
  obtain ⟨g, pg, bg, sg, dV, kV, doc, pm, cdv, ct, oc, an, od, osl, Ng, a, h1, h2, h3, h4, h5, h6, h7, h8, h9, h10, gv⟩ := F.ex
  refine ⟨fun pins s σ H Q I ⟨S, μ, ρ, R, k, e, ⟨hm, h⟩, post⟩ => ?_⟩
  obtain ⟨T, hT, hTs⟩ := k.tabs
  refine (LamX.pe_lamcall (T := T) (TT := TErr X.K res) (t := fun E => upX X.K (fun cls d _ H' => E cls d H') f) (k := _) hg h1 h2 h3 h4 h5 h6 h7 h8 (gv X _ rfl rfl rfl rfl rfl (by have := hr.un; omega)) TB hcode ((hT (Pt, _)).mpr hm) (fun p hp hq => by
    have := (hT p).mp hp
    rw [hq, hm] at this
    exact (MO.tab.inj (Option.some.inj this)).symm) hr L hdef hbind (fun A outer s H E f0 c' hr' => hbody A outer s H E f0 c' hr' (takes_of rfl rfl rfl rfl)) hdb h9 h10).run pins s σ H Q I ?_
  refine ⟨hTs, fun H1 eN T1 => ?_⟩
  · obtain ⟨k1, s1⟩ := k.lam eN fun p r h => T1 (p, r) ((hT (p, r)).mpr h)
    refine ⟨grow S H1, μ, R, k1, fun S2 μ2 H2 v d k2 s2 r2 q2 => post S2 μ2 H2 v d k2 (s1.trans s2) r2 q2, ?_⟩
    refine ⟨grow S H1, μ, ρ, _, _, k1, e.mono s1.same, h, fun S2 μ2 H2 v d k2 s2 r2 q2 => ?_, fun S2 μ2 H2 cls d C fs k2 s2 x2 q2 _ => ?_⟩
    · exact post S2 μ2 H2 .non .non k2 (s1.trans s2) .non q2
    · obtain ⟨v, v1, v2⟩ := q2
      exact ⟨S2, μ2, C, fs, v, k2, s2, x2, v1, v2⟩
end
end L3

/-! ## L3s -/
set_option Elab.async false
set_option linter.all false
set_option maxRecDepth 100000
set_option maxHeartbeats 4000000
/-! The head and the end of a law that makes lambdas: its table of code objects. -/
namespace L3
open PySem PySem.Spec PyProof.Rows L2
/-! ### a def that is one try -/
section
variable {X : Cx} {Ng : List Str} {x a n xe q : Str} {sg : Scope} {g CE : Addr} {cdg : Value} {res : Addr → List (Str × D) → D → Prop} {i : Nat} {s2 b0 : Stmt} {suite : List Stmt} {p1 p2 p3 np pos' pos : Pos}
theorem err_gives (hN : Ng.Nodup) (hi : Ng[i]? = some n) (hln : sg.names.lookup n = some .local) (hge : sg.names.lookup xe = some .globalImplicit) (hme : X.mg xe = some (.ref CE)) (hde : (xe == ("__debug__" : Str)) = false) (h0 : ∀ f : Addr, (L2.start Ng [V.ref f])[0]? = some (some (V.ref f)))
    (exm : ∀ C fs v, res C fs v → PySem.W.exmOne X.K (.ref C) (.ref CE) = some true)
    (d2 : ∀ s H, PS (cxOf C8.CX0 X.prog X.w X.K X.mg X.base Ng x sg g cdg X.A X.stack s H C8.E0).nox s2 (fun D _ H => D.rt .non H))
    (su : ∀ s H C fs v, res C fs v → SuOk (cxOf C8.CX0 X.prog X.w X.K X.mg X.base Ng x sg g cdg X.A X.stack s H C8.E0).nox i Ng.length (b0 :: suite) C fs v) :
    LamX.GivesTo X Ng x sg g cdg [.Try [.Expr (.Call (.Name a p1) [] [] p2) p3] [.ExceptHandler (some (.Name xe np)) (some n) (b0 :: suite) pos'] [] [] pos, s2] a q (TErr X.K res) := by
  rintro f c' s H Q tl act hc ⟨S, μ, R, k, post, h⟩
  have hgl : Gl (cxOf C8.CX0 X.prog X.w X.K X.mg X.base Ng x sg g cdg X.A X.stack s H C8.E0).nox xe := hge
  refine ⟨_, pss_cons (ps_try_as (X := (cxOf C8.CX0 X.prog X.w X.K X.mg X.base Ng x sg g cdg X.A X.stack s H C8.E0).nox) (c := .ref CE) (i := i)
      (tb := fun W D σ H => ∃ Ech : XK, (∀ cls d σ' H', Ech cls d H' → σ'.length = Ng.length → W cls d σ' H') ∧ σ[0]? = some (some (.ref f)) ∧ H c' = some (LamX.CodeO c' q) ∧ tl Ech H (fun _ H' => D.nx σ H'))
      (ts := fun a cls d D σ H => ∃ S μ DD C fs v, OK X.K S μ H ∧ RepE X.K S σ (st (List.replicate Ng.length none) i (.ref a)) ∧ XRep X.K S cls d C fs ∧ res C fs v ∧ DD.rt v μ ∧ Lk X.K S μ H D DD)
      rfl rfl hN hi hln ⟨hgl, hde, .inl hme⟩ LamX.takes0 (fun W pn ex tk _ => ?_) (fun a oe cls d pn hz hf => ?_)) (pss_one (d2 s H)), ?_⟩
  · refine ⟨fun pins s' σ H' D I h' => ?_⟩
    obtain ⟨Ech, hW, h1, h2, h3⟩ := h'
    have hp := act _ pn ex Ech p1 p2 (takes_len tk) fun cls d σ' H' e hl => hW cls d σ' H' e hl
    exact (pss_one (ps_expr (pos := p3) hp)).run pins s' σ H' D I ⟨h1, h2, h3⟩
  · refine ⟨fun pins s' σ H' D I h' => ?_⟩
    obtain ⟨S', μ', DD, C, fs, v, k', e', x', r', q', l'⟩ := h'
    have x2 := x'
    obtain ⟨rfl, hd⟩ := x'
    have hd2 : d = none ↔ fs = [] := by
      rcases hd with ⟨e1, e2⟩ | ⟨dd, vfs, e1, _, _, e2⟩
      · exact ⟨fun _ => e2, fun _ => e1⟩
      · exact ⟨fun z => absurd (e1.symm.trans z) (by simp), fun z => absurd z e2⟩
    exact (su s H C fs v r' a oe d pn hz hf hd2).run pins s' σ H' D I ⟨S', μ', DD, k', e', x2, q', l'⟩
  · refine ⟨fun cls d H' => ∃ S' μ' C fs v, OK X.K S' μ' H' ∧ Stp S μ H S' μ' H' ∧ XRep X.K S' cls d C fs ∧ res C fs v ∧ R v μ', fun cls d σ' H' z hlen => ?_, h0 f, hc, h⟩
    obtain ⟨S', μ', C, fs, v, k', s', x', r', q'⟩ := z
    have x2 := x'
    obtain ⟨rfl, _⟩ := x'
    refine ⟨true, exm C fs v r', fun _ a ha => ?_, fun z => nomatch z⟩
    have re := (repE_any (K := X.K) (S := S') σ').set (.ref a) i
    rw [hlen] at re
    refine ⟨S', μ', ⟨fun _ _ => False, R, fun _ _ => False, fun _ _ => False, fun _ _ _ => False⟩, C, fs, v, k', re, x2, r', q', ⟨fun _ _ _ _ _ _ _ _ z => z.elim, fun S3 μ3 H3 v3 d3 k3 s3 r3 q3 => post S3 μ3 H3 v3 d3 k3 (s'.trans s3) r3 q3, fun _ _ _ _ _ _ _ _ z => z.elim, fun _ _ _ _ _ _ _ _ z => z.elim⟩⟩
end

/-- the law's code object, its table -/


theorem codeIn_ref {K : PySem.W.Frag} {v : Value} {q : Str} (h : PySem.W.codeIn K v q = true) : ∃ c, v = .ref c := by
  cases v <;> first | exact ⟨_, rfl⟩ | (exfalso; simp [PySem.W.codeIn] at h)
section
variable {P : Program} {w : World} {K : PySem.W.Frag} {mg : Str → Option Value} {base : Heap}
/-- the law's def: its code object is known -/
theorem fnDL {x qual : Str} {params : Arguments} {bd : List Stmt} {scope : Scope} {dvs : List V} {kws : List (Str × V)} {f : Addr} {fd : FuncData} {N ps : List Str} {k : Nat} {s : GN} {body : RS} (F : FunD K x qual params bd scope dvs kws f fd) (hf : He.fAd K lawDf = f) (Sc : FnScope N ps scope)
    (len : ∀ ds μ R, s ds μ R → ds.length = ps.length)
    (hb : ∀ (A : Around) (outer : List Env) (s0 : Shared) (H : Hp) (E : XK), Room k (A.deeper (envOfC qual scope s0.heap.objs.size f (.ref (lawC K)))) → DSs (cxOf CX0 P w K mg base N qual scope f (.ref (lawC K)) A outer s0 H E).nox bd body)
    (hv : ∀ ds μ R, s ds μ R → body { nx := fun _ μ' => R .non μ', rt := R } (startD N.length ds) μ) : FnOk P w K mg base CX0 (k + 1) f fd ps (spD K s) := by
  obtain ⟨oc, od, dV, kV, doc, pm, an, cdv, ct, osl, rfl, lk, hcd, _, _⟩ := F.ex
  obtain ⟨c, rfl⟩ := codeIn_ref hcd
  have ec : lawC K = c := He.codeOf_eq (by rw [hf]; exact lk) rfl
  rw [ec] at hb
  refine fn_of lk hcd Sc (fun vs H Q E h => ?_) fun A outer s0 H vs Q E hr h => ⟨upS K body, PSs.nox (hb A outer s0 H E hr), ?_⟩
  · obtain ⟨S, μ, ds, R, a, b, c, d⟩ := h
    rw [b.length]
    exact len ds μ R c
  · obtain ⟨S, μ, ds, R, a, b, c, d⟩ := h
    exact ⟨S, μ, _, _, a, repE_start b, hv ds μ R c, ⟨fun S' μ' H' σ' ρ' k' s' e' q' => d S' μ' H' _ _ k' s' .non q', fun S' μ' H' v z k' s' r' q' => d S' μ' H' v z k' s' r' q', fun _ _ _ _ _ _ _ _ q' => False.elim q', fun _ _ _ _ _ _ _ _ q' => False.elim q'⟩⟩
end
/-! ### the law's promise -/
def lawT (Pt : Addr) (q : Str) : GN := fun ds μ R => ∃ ns : List Int, ds = [.scr (ns.map D.int)] ∧ ns.length ≤ 63 ∧ μ Pt = some (.tab q) ∧ ∀ μ', R (.bl true) μ'
def spLawT (K : PySem.W.Frag) (Pt : Addr) : Sp := fun vs H Q _ => ∃ (a : Addr) (ns : List Int), vs = [.ref a] ∧ SqL K H a (ns.map V.int) ∧ ns.length ≤ 63 ∧ H Pt = some (.tbl #[]) ∧ ∀ H', Q (.bl true) H'
theorem law_impT {K : PySem.W.Frag} {Pt : Addr} {qn : Str} : ∀ vs H Q E, spLawT K Pt vs H Q E → spD K (lawT Pt qn) vs H Q E := fun vs H Q E ⟨a, ns, e, h, hl, ht, q⟩ => by
  subst e
  have one : ∀ b m, (if b = Pt then some (MO.tab qn) else none) = some m → b = Pt ∧ m = .tab qn := fun b m z => by
    by_cases w : b = Pt
    · rw [if_pos w] at z
      exact ⟨w, (Option.some.inj z).symm⟩
    · rw [if_neg w] at z; cases z
  refine ⟨noT H, fun b => if b = Pt then some (.tab qn) else none, [.scr (ns.map D.int)], fun d _ => d = .bl true, ⟨noT_sub, fun b m z => ?_, noT_nst, ⟨[(Pt, qn)], fun a q y => ?_⟩⟩, .cons (.scr (noT_seq h) (reps_ints ns)) .nil, ⟨ns, rfl, hl, if_pos rfl, fun _ => rfl⟩, fun S' μ' H' v d k s r h => ?_⟩
  · obtain ⟨rfl, rfl⟩ := one b m z
    refine ⟨?_, #[], ht, trivial, fun pos cv hc => ?_⟩
    · unfold noT
      rw [ht]
    · obtain ⟨ps, e1, _, e3⟩ := LamX.TabS.nil (q := qn) ht
      have : ps = #[] := by
        rw [ht] at e1
        cases e1
        rfl
      subst this
      obtain ⟨c, e4, e5⟩ := e3 pos cv hc
      have z : codeAmong pos [] = some cv := hc
      simp [codeAmong] at z
  · obtain ⟨e1, e2⟩ := one a _ y
    cases e2
    rw [e1]
    exact List.mem_cons_self ..
  · subst h
    cases r.toBl
    exact q H'
/-! ### the hook -/
/-! ### the end -/
theorem walk_ofTE {l : PySem.W.OpenLaw} {n k : Nat} {q : Program} {loose : List Str} {XP : (Str → Option Value) → Heap → Prop} {YP : World → Heap → Prop} {d : DefRec} {CX : CXT} {x : Str}
    (hn : l.most = some n) (hn2 : n ≤ sizeLine) (hdf : d.params.defaults = []) (hr : Room k callerA)
    (F : ∀ (w : World) (mg : Str → Option Value) (fa : Addr) (h : Heap), YP w h → h.Ns mainGlobals mg → mg d.name = some (.ref fa) →
      ∃ (K : PySem.W.Frag) (fd : FuncData) (c Pt : Addr) (sp : Sp), K.In h ∧ h.get? Pt = some { cls := .none, data := .fields #[] } ∧ K.lookup Pt = none ∧ PySem.W.CodeHd h c Pt ∧ (∀ (s : Shared) (u : Value), BindsTo s fd ⟨[u], []⟩ [(x, u)]) ∧
        (∀ (H : Hp) (a : Addr) (ns : List Int), ns.length ≤ n → H Pt = some (.tbl #[]) → SqL K H a (ns.map V.int) → sp [.ref a] H (fun v _ => v = .bl true) fun _ _ _ => False) ∧
        ∀ base : Heap, K.In base → base.Ns mainGlobals mg → LamX.TabB base mg c Pt → FnOk l.prog w K mg base CX k fa fd [x] sp)
    (hCX : ∀ (H : Hp) (s : Shared) (e : Value) (s' : Shared), CX [] H s (fun _ _ _ => False) e s' → False) :
    PySem.W.WalkO q loose XP YP l.row.toRowW d [] (fun f vs => PySem.call f vs) := by
  refine Att.attach_callB hn hdf fun w s₀ s₁ mg mb fa o pm cd doc a vs ns G Y ho hd hcd hmg hobj hints hlen hbits hg => ?_
  obtain ⟨K, fd, c, Pt, sp, KX, hT, nT, hC, hb, hsp, hF⟩ := F w mg fa _ Y G.T.g hmg
  have all1 : ∀ {Z : Addr × Addr → Prop}, Z (c, Pt) → ∀ p ∈ [(c, Pt)], Z p := fun z p hp => by
    rcases List.mem_cons.mp hp with rfl | hp
    · exact z
    · exact nomatch hp
  exact LamX.law_callTs (cs := [(c, Pt)]) KX G.T.g G.T.b G.T.builtins G.T.nolimit hg (all1 hT) (all1 nT) (all1 hC) G.T.bmain hobj hints (Nat.le_trans hlen hn2) hr (fun base kb nb tb => hF base kb nb (tb (c, Pt) (by simp))) hb (fun H hH hS => hsp H a ns hlen (hH (c, Pt) (by simp)) hS) fun H e s' => hCX H s₁ e s'
/-! ### what K says of an error's class -/


/-- C: the j-th of the classes; CE: the base class -/
structure ErrK (K : PySem.W.Frag) (C CE : Addr) (gx : Str → Addr) (m : Nat) : Prop where
  xc : ExcC K C
  ce : PySem.W.exmOne K (.ref C) (.ref CE) = some true
  ve : PySem.W.kitOne K (.ref C) (.type "ValueError") = some true
  ks : ∀ j, j < 20 → PySem.W.kitOne K (.ref C) (.ref (gx (errN j))) = some (decide (j = m))

theorem errB_ok {K : PySem.W.Frag} {C CE : Addr} {gx : Str → Addr} {m : Nat} (h : errB K C CE gx m = true) : ErrK K C CE gx m := by
  unfold errB at h
  simp only [Bool.and_eq_true, decide_eq_true_eq] at h
  obtain ⟨h1, h2, h3, h4, h5, h6, h7, h8, h9, h10, h11⟩ := h
  exact ⟨⟨h1, h2, h3, h4, h5, h6, h7, h8⟩, h9, h10, fun j hj => of_decide_eq_true (List.all_eq_true.mp h11 j (List.mem_range.mpr hj))⟩
def lamQ : Str := "law.<locals>.<lambda>"
structure UR (n : Nat) : Prop where
  units : n + 64 < cLine
  u65 : n + 65 < cLine
/-! ### calls with keywords or defaults that may raise -/
structure FnKX (P : Program) (w : World) (K : PySem.W.Frag) (mg : Str → Option Value) (base : Heap) (k : Nat) (x : Str) (s : GX) (n : Nat) (ks : List Str) (gD : List D → List D → List D) : Prop where
  ex : ∃ f fd ps g gV, FnOk P w K mg base (L2.CX P w) k f fd ps (spX K s) ∧ mg x = some (.ref f) ∧ PySem.W.keepIn K (.ref f) = true ∧ KBn K fd ps n ks g gV ∧
    ∀ (vs zs : List V) (ds es : List D) (S : Hp), Reps K S vs ds → Reps K S zs es → Reps K S (gV vs zs) (gD ds es)
structure FnDX (P : Program) (w : World) (K : PySem.W.Frag) (mg : Str → Option Value) (base : Heap) (k : Nat) (x : Str) (s : GX) (dd : List D) : Prop where
  ex : ∃ f fd ps du dv, FnOk P w K mg base (L2.CX P w) k f fd ps (spX K s) ∧ mg x = some (.ref f) ∧ PySem.W.keepIn K (.ref f) = true ∧ Binds K fd ps du ∧ Vals dv du ∧ ∀ S, Reps K S dv dd
section
variable {X : Cx} {W : WX} {k n m : Nat} {x : Str} {s : GX} {ks : List Str} {gD : List D → List D → List D} {dd : List D} {e : Expr} {es : List Expr} {kws : List Keyword} {fa fk : RA} {p pos : Pos}
end
end L3

/-! ## L3t -/
set_option Elab.async false
set_option linter.all false
set_option maxRecDepth 100000
set_option maxHeartbeats 4000000
/-! list(zip(a, b)), a and b rows. -/
namespace L3
open PySem PySem.Spec PyProof.Rows L2
section
variable {prog : Program} {w : World} {A : Around} {E : Value → Shared → Prop} {s : Shared} {z TI TO i1 i2 T : Addr} {fp1 fp2 : List Addr} {n1 n2 i : Nat} {P1 P2 : Nat → Value → Prop} {St1 St2 : Nat → Heap → Prop} {f : Bool} {oT : Obj}
/-- the next pair, while the one given out before is still held -/
theorem zh_item {Q : Value → Shared → Prop} (S : ZipSep2 z TI TO i1 i2 fp1 fp2) (D1 : Draws prog w A i1 fp1 n1 P1 St1) (D2 : Draws prog w A i2 fp2 n2 P2 St2) (zo : IsZipHeld s.heap z TI TO T f) (aT : s.heap.get? T = some oT) (pI : IsTupOf2 s.heap TI (.ref i1) (.ref i2))
    (b1 : St1 i s.heap) (b2 : St2 i s.heap) (l1 : i < n1) (l2 : i < n2)
    (hQ : ∀ x1 x2 h' tk, P1 i x1 → P2 i x2 → IsZipHeld h' z TI TO T true → St1 (i + 1) h' → St2 (i + 1) h' → IsTupOf2 h' s.heap.objs.size x1 x2 → h'.objs.size = s.heap.objs.size + 1 →
      (∀ c o, c ≠ z → c ≠ i1 → c ≠ i2 → s.heap.get? c = some o → h'.get? c = some o) → Q (.ref s.heap.objs.size) { s with heap := h', toks := tk }) :
    wpAny (model prog w) A (Builtin.«zip.__next__» ⟨[.ref z], []⟩) (fun fin s' => ∃ v, fin = .done (.ret v) ∧ Q v s') E s := by
  obtain ⟨hp, gg, dd, tk0, os⟩ := s
  show wpAny _ _ (field (.ref z) 2 >>= _) _ _ _
  refine wpAny_bind (wpAny_field zo rfl (x := .bool false) rfl ?_)
  show wpAny _ _ (field (.ref z) 3 >>= _) _ _ _
  refine wpAny_bind (wpAny_field zo rfl (x := .ref TI) rfl ?_)
  refine wpAny_bind (wpAny_seqItems pI rfl ?_)
  show wpAny _ _ (Builtin.SmallTypes.ownedTupleIsFree (.ref z) >>= _) _ _ _
  refine wpAny_bind (wpAny_tupleHeld_zip zo aT fun g1 z1 e1 => ?_)
  replace e1 : Heap.SameBut z hp g1 := e1
  simp only [Bool.false_eq_true, if_false]
  refine wpAny_bind ?_
  rw [← Array.forIn_toList]
  simp only [List.forIn_cons, List.forIn_nil]
  refine wpAny_bind (wpAny_bind (wpAny_holding ?_))
  show wpAny _ _ (Builtin.SmallTypes.nextOf (.ref i1) >>= _) _ _ ⟨g1, gg, dd, tk0, os⟩
  refine wpAny_bind (D1.item i _ _ _ l1 (D1.over b1 e1 S.zf1) fun x1 g2 tk1 y1 c1 e2 => wpAny_pure ?_)
  replace e2 : Heap.SameBut i1 g1 g2 := e2
  refine wpAny_pure ?_
  refine wpAny_bind (wpAny_bind (wpAny_holding ?_))
  show wpAny _ _ (Builtin.SmallTypes.nextOf (.ref i2) >>= _) _ _ ⟨g2, gg, dd, tk1, os⟩
  refine wpAny_bind (D2.item i _ _ _ l2 (D2.over (D2.over b2 e1 S.zf2) e2 S.sep1_2) fun x2 g3 tk2 y2 c2 e3 => wpAny_pure ?_)
  replace e3 : Heap.SameBut i2 g2 g3 := e3
  refine wpAny_pure (wpAny_pure ?_)
  show wpAny _ _ (newTuple [x1, x2] >>= _) _ _ _
  refine wpAny_bind (wpAny_newTuple ?_)
  have en : g3.objs.size = hp.objs.size := by rw [e3.1, e2.1, e1.1]
  have z3 : IsZipHeld g3 z TI TO T true := e3.extBut _ _ S.zi2 (e2.extBut _ _ S.zi1 z1)
  have kk : ∀ c o, c ≠ z → c ≠ i1 → c ≠ i2 → hp.get? c = some o → g3.get? c = some o := fun c o m1 m2 m3 q => e3.extBut _ _ m3 (e2.extBut _ _ m2 (e1.extBut _ _ m1 q))
  have d1 : St1 (i + 1) g3 := D1.over c1 e3 S.sep2_1
  refine wpAny_pure ⟨_, rfl, ?_⟩
  show Q (.ref g3.objs.size) _
  have pT : IsTupOf2 (g3.push { cls := .type "tuple", data := .seq #[x1, x2] }) g3.objs.size x1 x2 := Heap.get?_push_size _ rfl
  have pS : (g3.push { cls := .type "tuple", data := .seq #[x1, x2] }).objs.size = g3.objs.size + 1 := Heap.size_push ..
  rw [en] at pT pS ⊢
  exact hQ x1 x2 _ tk2 y1 y2 (Heap.get?_push_of_some _ z3) (D1.frame _ _ _ d1 fun b _ o q => Heap.get?_push_of_some _ q) (D2.frame _ _ _ c2 fun b _ o q => Heap.get?_push_of_some _ q) pT pS fun c o m1 m2 m3 q => Heap.get?_push_of_some _ (kk c o m1 m2 m3 q)
theorem zh_end {Q : Fin → Shared → Prop} (S : ZipSep2 z TI TO i1 i2 fp1 fp2) (D1 : Draws prog w A i1 fp1 n1 P1 St1) (D2 : Draws prog w A i2 fp2 n2 P2 St2) (zo : IsZipHeld s.heap z TI TO T f) (aT : s.heap.get? T = some oT) (pI : IsTupOf2 s.heap TI (.ref i1) (.ref i2))
    (b1 : St1 i s.heap) (b2 : St2 i s.heap) (l1 : i ≤ n1) (l2 : i ≤ n2) (hend : i = n1 ∨ i = n2)
    (hE : ∀ h' tk e, (∀ c o, c ≠ z → c ≠ i1 → c ≠ i2 → s.heap.get? c = some o → h'.get? c = some o) → (∃ o, h'.get? e = some o ∧ o.cls = .type "StopIteration") → E (.ref e) { s with heap := h', toks := tk }) :
    wpAny (model prog w) A (Builtin.«zip.__next__» ⟨[.ref z], []⟩) Q E s := by
  obtain ⟨hp, gg, dd, tk0, os⟩ := s
  show wpAny _ _ (field (.ref z) 2 >>= _) _ _ _
  refine wpAny_bind (wpAny_field zo rfl (x := .bool false) rfl ?_)
  show wpAny _ _ (field (.ref z) 3 >>= _) _ _ _
  refine wpAny_bind (wpAny_field zo rfl (x := .ref TI) rfl ?_)
  refine wpAny_bind (wpAny_seqItems pI rfl ?_)
  show wpAny _ _ (Builtin.SmallTypes.ownedTupleIsFree (.ref z) >>= _) _ _ _
  refine wpAny_bind (wpAny_tupleHeld_zip zo aT fun g1 z1 e1 => ?_)
  replace e1 : Heap.SameBut z hp g1 := e1
  simp only [Bool.false_eq_true, if_false]
  refine wpAny_bind ?_
  rw [← Array.forIn_toList]
  simp only [List.forIn_cons, List.forIn_nil]
  refine wpAny_bind (wpAny_bind (wpAny_holding ?_))
  show wpAny _ _ (Builtin.SmallTypes.nextOf (.ref i1) >>= _) _ _ ⟨g1, gg, dd, tk0, os⟩
  by_cases lt : i < n1
  · refine wpAny_bind (D1.item i _ _ _ lt (D1.over b1 e1 S.zf1) fun x1 g2 tk1 y1 c1 e2 => wpAny_pure ?_)
    replace e2 : Heap.SameBut i1 g1 g2 := e2
    refine wpAny_pure ?_
    refine wpAny_bind (wpAny_bind (wpAny_holding ?_))
    show wpAny _ _ (Builtin.SmallTypes.nextOf (.ref i2) >>= _) _ _ ⟨g2, gg, dd, tk1, os⟩
    have ei : i = n2 := by omega
    refine wpAny_bind (D2.done ⟨g2, gg, dd, tk1, os⟩ _ _ (by rw [← ei]; exact D2.over (D2.over b2 e1 S.zf2) e2 S.sep1_2) fun q e hq he => ?_)
    exact hE q tk1 e (fun c o m1 m2 m3 x => hq c o m3 (e2.extBut _ _ m2 (e1.extBut _ _ m1 x))) he
  · have ei : i = n1 := by omega
    refine wpAny_bind (D1.done ⟨g1, gg, dd, tk0, os⟩ _ _ (by rw [← ei]; exact D1.over b1 e1 S.zf1) fun q e hq he => ?_)
    exact hE q tk0 e (fun c o m1 m2 m3 x => hq c o m2 (e1.extBut _ _ m1 x)) he
end
/-! ### the zip as it stands between two turns, the list at L beside it -/
structure ZSt (z TI TO i1 i2 : Addr) (St1 St2 : Nat → Heap → Prop) (L : Addr) (i : Nat) (h : Heap) : Prop where
  pI : IsTupOf2 h TI (.ref i1) (.ref i2)
  b1 : St1 i h
  b2 : St2 i h
  zo : (IsZip h z TI TO .none ∧ ∃ a1 a2, IsTupOf2 h TO a1 a2) ∨ ∃ T f oT, IsZipHeld h z TI TO T f ∧ h.get? T = some oT ∧ T ≠ L ∧ T ≠ z ∧ T ≠ i1 ∧ T ≠ i2
structure ZAp (z TI TO i1 i2 L : Addr) (fp1 fp2 : List Addr) : Prop where
  s : ZipSep2 z TI TO i1 i2 fp1 fp2
  Lz : L ≠ z
  LI : L ≠ TI
  LO : L ≠ TO
  L1 : L ∉ fp1
  L2 : L ∉ fp2
section
variable {prog : Program} {w : World} {A : Around} {E : Value → Shared → Prop} {s : Shared} {z TI TO i1 i2 L : Addr} {fp1 fp2 : List Addr} {n1 n2 i : Nat} {P1 P2 : Nat → Value → Prop} {St1 St2 : Nat → Heap → Prop} {h h' : Heap}
theorem ZSt.kept (a : ZAp z TI TO i1 i2 L fp1 fp2) (D1 : Draws prog w A i1 fp1 n1 P1 St1) (D2 : Draws prog w A i2 fp2 n2 P2 St2) (t : ZSt z TI TO i1 i2 St1 St2 L i h) (k : ∀ c o, c ≠ L → h.get? c = some o → h'.get? c = some o) : ZSt z TI TO i1 i2 St1 St2 L i h' := by
  refine ⟨k _ _ a.LI.symm t.pI, D1.frame _ _ _ t.b1 fun b hb o q => k b o (fun e => a.L1 (e ▸ hb)) q, D2.frame _ _ _ t.b2 fun b hb o q => k b o (fun e => a.L2 (e ▸ hb)) q, ?_⟩
  rcases t.zo with ⟨q1, a1, a2, q2⟩ | ⟨T, f, oT, q1, q2, q3, q4⟩
  · exact .inl ⟨k _ _ a.Lz.symm q1, a1, a2, k _ _ a.LO.symm q2⟩
  · exact .inr ⟨T, f, oT, k _ _ a.Lz.symm q1, k _ _ q3 q2, q3, q4⟩
theorem zs_item {Q : Option Value → Shared → Prop} (a : ZAp z TI TO i1 i2 L fp1 fp2) (D1 : Draws prog w A.in1 i1 fp1 n1 P1 St1) (D2 : Draws prog w A.in1 i2 fp2 n2 P2 St2) (t : ZSt z TI TO i1 i2 St1 St2 L i s.heap) (lL : L < s.heap.objs.size) (l1 : i < n1) (l2 : i < n2)
    (hQ : ∀ x1 x2 h' tk, P1 i x1 → P2 i x2 → ZSt z TI TO i1 i2 St1 St2 L (i + 1) h' → IsTupOf2 h' s.heap.objs.size x1 x2 → (∀ c o, c ≠ z → c ≠ TO → c ≠ i1 → c ≠ i2 → s.heap.get? c = some o → h'.get? c = some o) → Q (some (.ref s.heap.objs.size)) { s with heap := h', toks := tk }) :
    wpAny (model prog w) A (pyNext (.ref z)) Q E s := by
  have lt : ∀ {c o}, s.heap.get? c = some o → s.heap.objs.size ≠ c := fun e => Nat.ne_of_gt (Heap.lt_size e)
  have m1 : s.heap.objs.size ≠ i1 := by obtain ⟨_, e⟩ := D1.live _ _ t.b1; exact lt e
  have m2 : s.heap.objs.size ≠ i2 := by obtain ⟨_, e⟩ := D2.live _ _ t.b2; exact lt e
  rcases t.zo with ⟨q1, a1, a2, q2⟩ | ⟨T, f, oT, q1, q2, q3, q4, q5, q6⟩
  · refine wpAny_pyNext_zipD2_item a.s D1 D2 q1 t.pI q2 t.b1 t.b2 l1 l2 fun x1 x2 h' tk y1 y2 r1 r2 d1 d2 r5 r6 hk => ?_
    exact hQ x1 x2 h' tk y1 y2 ⟨hk _ _ a.s.TIz a.s.TITO a.s.TIi1 a.s.TIi2 t.pI, d1, d2, .inr ⟨_, false, _, r1, r5, Nat.ne_of_gt lL, lt q1, m1, m2⟩⟩ r5 hk
  · have hT : s.TypeIs (.ref z) "zip" := ⟨_, q1, rfl⟩
    unfold pyNext
    exact wpAny_bind (wpAny_attempt (wpAny_callSpecial?_slot (name := Str.ofString "__next__") hT F.slot_zip_next (wpAny_call_entry F.slot_zip_next hT F.entry_zip_next
      (zh_item a.s D1 D2 q1 q2 t.pI t.b1 t.b2 l1 l2 fun x1 x2 h' tk y1 y2 r1 d1 d2 r5 r6 hk => wpAny_pure (hQ x1 x2 h' tk y1 y2 ⟨hk _ _ a.s.TIz a.s.TIi1 a.s.TIi2 t.pI, d1, d2, .inr ⟨T, true, oT, r1, hk _ _ q4 q5 q6 q2, q3, q4, q5, q6⟩⟩ r5 fun c o n1 _ n3 n4 q => hk c o n1 n3 n4 q)) (F.args_zip_next_1 _))))
theorem zs_end {Q : Option Value → Shared → Prop} (a : ZAp z TI TO i1 i2 L fp1 fp2) (D1 : Draws prog w A.in1 i1 fp1 n1 P1 St1) (D2 : Draws prog w A.in1 i2 fp2 n2 P2 St2) (t : ZSt z TI TO i1 i2 St1 St2 L i s.heap) (l1 : i ≤ n1) (l2 : i ≤ n2) (hend : i = n1 ∨ i = n2)
    (hQ : ∀ h' tk, (∀ c o, c ≠ z → c ≠ TO → c ≠ i1 → c ≠ i2 → s.heap.get? c = some o → h'.get? c = some o) → Q none { s with heap := h', toks := tk }) :
    wpAny (model prog w) A (pyNext (.ref z)) Q E s := by
  rcases t.zo with ⟨q1, a1, a2, q2⟩ | ⟨T, f, oT, q1, q2, q3, q4, q5, q6⟩
  · exact wpAny_pyNext_zipD2_end a.s D1 D2 q1 t.pI q2 t.b1 t.b2 l1 l2 hend fun h' tk hk => hQ h' tk hk
  · have hT : s.TypeIs (.ref z) "zip" := ⟨_, q1, rfl⟩
    unfold pyNext
    refine wpAny_bind (wpAny_attempt (wpAny_callSpecial?_slot (name := Str.ofString "__next__") hT F.slot_zip_next (wpAny_call_entry F.slot_zip_next hT F.entry_zip_next (zh_end a.s D1 D2 q1 q2 t.pI t.b1 t.b2 l1 l2 hend fun h' tk e hk he => ?_) (F.args_zip_next_1 _))))
    obtain ⟨o, ho, hc⟩ := he
    refine wpAny_bind (wpAny_isInstance (T := "StopIteration") (b := true) ⟨o, ho, hc⟩ isSubtype_stop ?_)
    exact wpAny_pure (hQ _ _ fun c o n1 _ n3 n4 q => hk c o n1 n3 n4 q)
end
/-- the pairs given out so far, at rising places behind lo -/
structure ZGot (P1 P2 : Nat → Value → Prop) (lo : Addr) (h : Heap) (as : List Addr) : Prop where
  rise : as.Pairwise (· < ·)
  over : ∀ a ∈ as, lo < a
  pair : ∀ (j : Nat) (a : Addr), as[j]? = some a → ∃ x y, P1 j x ∧ P2 j y ∧ IsTupOf2 h a x y
theorem ZGot.there {P1 P2 : Nat → Value → Prop} {lo : Addr} {h : Heap} {as : List Addr} (g : ZGot P1 P2 lo h as) {a : Addr} (m : a ∈ as) : a < h.objs.size := by
  obtain ⟨j, e⟩ := List.mem_iff_getElem?.mp m
  obtain ⟨_, _, _, _, q⟩ := g.pair j a e
  exact Heap.lt_size q
section
variable {prog : Program} {w : World} {A : Around} {s : Shared} {R : Result → Shared → Prop} {z TI TO i1 i2 L : Addr} {fp1 fp2 : List Addr} {n1 n2 : Nat} {P1 P2 : Nat → Value → Prop} {St1 St2 : Nat → Heap → Prop}
theorem lz_loop (ap : ZAp z TI TO i1 i2 L fp1 fp2) (D1 : Draws prog w A.in1.in1 i1 fp1 n1 P1 St1) (D2 : Draws prog w A.in1.in1 i2 fp2 n2 P2 St2) (fit : min n1 n2 ≤ sizeLine) (res : Value) {g0 : Heap} (up : ∀ c, c = z ∨ c = TI ∨ c = TO ∨ c = i1 ∨ c = i2 ∨ c = L → c < L + 1)
    (fin : ∀ h' tk acc c as, (∀ b o, b ≠ L → b ≠ z → b ≠ TO → b ≠ i1 → b ≠ i2 → g0.get? b = some o → h'.get? b = some o) → h'.get? L = some { cls := .type "list", dict := none, data := .seq acc c, slots := #[] } → as.length = min n1 n2 → ZGot P1 P2 L h' as → acc.toList = as.map Value.ref →
      R (.ok (.ret res)) { s with heap := h', toks := tk }) :
    ∀ (k i : Nat) (h : Heap) (tk c : Nat) (acc : Array Value) (as : List Addr), min n1 n2 - i = k → i ≤ min n1 n2 → ZSt z TI TO i1 i2 St1 St2 L i h → (∀ b o, b ≠ L → b ≠ z → b ≠ TO → b ≠ i1 → b ≠ i2 → g0.get? b = some o → h.get? b = some o) →
      h.get? L = some { cls := .type "list", dict := none, data := .seq acc c, slots := #[] } → acc.toList = as.map Value.ref → as.length = i → ZGot P1 P2 L h as → L < h.objs.size →
      codeAny (model prog w) A (.builtin "list.extend.loop" ⟨[.ref L, .ref z, res], []⟩) R { s with heap := h, toks := tk } := by
  intro k
  induction k with
  | zero =>
    intro i h tk c acc as hk hi st kp hL ha hl G lz
    refine codeAny_builtin PySem.F.entry_extend_loop ?_
    rw [Around.under_plainId PySem.F.plain_extend_loop _]
    show wpAny _ A.in1 (pyNext (.ref z) >>= _) _ _ _
    refine wpAny_bind (zs_end (s := { s with heap := h, toks := tk }) ap D1 D2 st (by omega) (by omega) (by omega) fun h' tk' he => ?_)
    have hL' := he L _ ap.Lz ap.LO (fun e => ap.L1 (e ▸ ap.s.mem1)) (fun e => ap.L2 (e ▸ ap.s.mem2)) hL
    refine wpAny_pure (fin h' tk' acc c as (fun b o m1 m2 m3 m4 m5 q => he b o m2 m3 m4 m5 (kp b o m1 m2 m3 m4 m5 q)) hL' (by omega) ⟨G.rise, G.over, fun j a hj => ?_⟩ ha)
    obtain ⟨x, y, r1, r2, r3⟩ := G.pair j a hj
    have o := G.over a (List.mem_of_getElem? hj)
    have ne : ∀ c, c < L + 1 → a ≠ c := fun c hc e => by subst e; exact absurd o (Nat.not_lt.mpr (Nat.le_of_lt_succ hc))
    exact ⟨x, y, r1, r2, he a _ (ne z (up z (.inl rfl))) (ne TO (up TO (.inr (.inr (.inl rfl))))) (ne i1 (up i1 (.inr (.inr (.inr (.inl rfl)))))) (ne i2 (up i2 (.inr (.inr (.inr (.inr (.inl rfl))))))) r3⟩
  | succ k ih =>
    intro i h tk c acc as hk hi st kp hL ha hl G lz
    have sz : acc.size = i := by rw [← Array.length_toList, ha, List.length_map, hl]
    refine codeAny_builtin PySem.F.entry_extend_loop ?_
    rw [Around.under_plainId PySem.F.plain_extend_loop _]
    show wpAny _ A.in1 (pyNext (.ref z) >>= _) _ _ _
    refine wpAny_bind (zs_item (s := { s with heap := h, toks := tk }) ap D1 D2 st (Heap.lt_size hL) (by omega) (by omega) fun x1 x2 h' tk' y1 y2 st' hT he => ?_)
    dsimp only at hT he ⊢
    have hL' := he L _ ap.Lz ap.LO (fun e => ap.L1 (e ▸ ap.s.mem1)) (fun e => ap.L2 (e ▸ ap.s.mem2)) hL
    have pu : ∀ b o, b ≠ L → h'.get? b = some o → (h'.update L (Obj.mapSeq (·.push (Value.ref h.objs.size)))).get? b = some o := fun b o m q => (Heap.get?_update_other _ _ (Ne.symm m)).trans q
    have lL : L < h.objs.size := Heap.lt_size hL
    show wpAny _ A.in1 (updateSeq L (·.push (Value.ref h.objs.size)) >>= _) _ _ _
    refine wpAny_bind ?_
    have ne : ∀ a, L < a → ∀ c, c < L + 1 → a ≠ c := fun a o c hc e => by subst e; exact absurd o (Nat.not_lt.mpr (Nat.le_of_lt_succ hc))
    refine wpAny_updateSeq hL' rfl (wpAny_pure ⟨plainId_quiet PySem.F.plain_extend_loop _, ih (i + 1) _ tk' _ (acc.push (Value.ref h.objs.size)) (as ++ [h.objs.size]) (by omega) (by omega) (st'.kept ap D1 D2 pu)
      (fun b o m1 m2 m3 m4 m5 q => pu b o m1 (he b o m2 m3 m4 m5 (kp b o m1 m2 m3 m4 m5 q))) (Heap.get?_update_self _ hL' rfl) (by rw [Array.toList_push, ha, List.map_append]; rfl) (by rw [List.length_append, hl]; rfl) ⟨?_, ?_, ?_⟩ ?_⟩) (by rw [sz]; omega) (by show (acc.push (Value.ref h.objs.size)).size ≤ sizeLine + 1; rw [Array.size_push, sz]; omega)
    · refine List.pairwise_append.mpr ⟨G.rise, List.pairwise_singleton _ _, fun a m b mb => ?_⟩
      rw [List.mem_singleton.mp mb]
      exact G.there m
    · intro a m
      rcases List.mem_append.mp m with m | m
      · exact G.over a m
      · rw [List.mem_singleton.mp m]; exact lz
    · intro j b hj
      rcases Nat.lt_trichotomy j as.length with q | q | q
      · rw [List.getElem?_append_left q] at hj
        obtain ⟨x, y, r1, r2, r3⟩ := G.pair j b hj
        have o := G.over b (List.mem_of_getElem? hj)
        exact ⟨x, y, r1, r2, pu b _ (ne b o L (up L (by simp))) (he b _ (ne b o z (up z (by simp))) (ne b o TO (up TO (by simp))) (ne b o i1 (up i1 (by simp))) (ne b o i2 (up i2 (by simp))) r3)⟩
      · subst q
        have hb : h.objs.size = b := by simpa using hj
        subst hb
        exact ⟨x1, x2, by rw [hl]; exact y1, by rw [hl]; exact y2, pu _ _ (Nat.ne_of_gt lL) hT⟩
      · have hn : (as ++ [h.objs.size])[j]? = none := List.getElem?_eq_none (by rw [List.length_append, List.length_singleton]; omega)
        rw [hn] at hj; cases hj
    · have e : (h'.update L (Obj.mapSeq (·.push (Value.ref h.objs.size)))).get? h.objs.size = _ := pu _ _ (Nat.ne_of_gt lL) hT
      exact Nat.lt_trans lz (Heap.lt_size e)
end
section
variable {prog : Program} {w : World} {A : Around} {E : Value → Shared → Prop} {s : Shared} {z TI TO i1 i2 L : Addr} {fp1 fp2 : List Addr} {n1 n2 : Nat} {P1 P2 : Nat → Value → Prop} {St1 St2 : Nat → Heap → Prop}
theorem zip_no_len : typeLookup (.type "zip") "__len__" = pure none := am_miss_of_fast (by decide +kernel)
theorem zip_no_hint : typeLookup (.type "zip") "__length_hint__" = pure none := am_miss_of_fast (by decide +kernel)
theorem lz_hint {Q : Bool → Shared → Prop} (hT : s.TypeIs (.ref z) "zip") (h : Q true s) : wpAny (model prog w) A (Builtin.List.listLengthHint (.ref z)) Q E s := by
  unfold Builtin.List.listLengthHint
  refine wpAny_bind (wpAny_specialOf hT zip_no_len ?_)
  refine wpAny_ite_split (fun q => absurd q (by decide)) (fun _ => ?_)
  refine wpAny_ite_split (fun q => absurd q (by decide)) (fun _ => ?_)
  refine wpAny_bind (wpAny_specialOf hT zip_no_hint ?_)
  exact wpAny_pure h
theorem lz_extend {R : Result → Shared → Prop} (ap : ZAp z TI TO i1 i2 L fp1 fp2) (D1 : Draws prog w A.in1.in1 i1 fp1 n1 P1 St1) (D2 : Draws prog w A.in1.in1 i2 fp2 n2 P2 St2) (fit : min n1 n2 ≤ sizeLine) (res : Value) (up : ∀ c, c = z ∨ c = TI ∨ c = TO ∨ c = i1 ∨ c = i2 ∨ c = L → c < L + 1)
    (st : ZSt z TI TO i1 i2 St1 St2 L 0 s.heap) (zz : IsZip s.heap z TI TO .none) (c0 : Nat) (hL : s.heap.get? L = some { cls := .type "list", data := .seq #[] c0 })
    (fin : ∀ h' tk acc c as, (∀ b o, b ≠ L → b ≠ z → b ≠ TO → b ≠ i1 → b ≠ i2 → s.heap.get? b = some o → h'.get? b = some o) → h'.get? L = some { cls := .type "list", dict := none, data := .seq acc c, slots := #[] } → as.length = min n1 n2 → ZGot P1 P2 L h' as → acc.toList = as.map Value.ref →
      R (.ok (.ret res)) { s with heap := h', toks := tk }) :
    wpAny (model prog w) A.in1 (Builtin.List.listExtendWith (.ref L) (.ref z) res)
      (fun fn s' => match fn with | .done f => R (.ok f) s' | .again c' => c'.quiet = true ∧ codeAny (model prog w) A c' R s') (fun e s' => R (.error e) s') s := by
  have hT : s.TypeIs (.ref z) "zip" := ⟨_, zz, rfl⟩
  unfold Builtin.List.listExtendWith
  refine wpAny_bind (wpAny_typeOf (T := "zip") hT ?_)
  have q1 : Builtin.List.listSameRef (.ref L) (.ref z) = false := by simp [Builtin.List.listSameRef, ap.Lz]
  have q2 : (Value.type "zip" == Value.type "list") = false := by decide
  have q3 : (Value.type "zip" == Value.type "tuple") = false := by decide
  simp only [q1, q2, q3, Bool.or_false, Bool.false_eq_true, if_false]
  refine wpAny_bind (wpAny_pyIter_zip zz ?_)
  refine wpAny_bind (wpAny_holding (lz_hint hT ?_))
  refine wpAny_ite_split (fun _ => ?_) (fun q => absurd rfl q)
  refine wpAny_bind (wpAny_rule ?_)
  refine wpAny_bind ?_
  show wpAny _ _ (updateSeq L (·.push .none) >>= fun _ => updateSeq L (·.pop)) _ _ _
  refine wpAny_bind (wpAny_updateSeq hL rfl ?_)
  have e1 := Heap.get?_update_self (Obj.mapSeq (·.push Value.none)) hL rfl
  refine wpAny_updateSeq (hz := by seq_fits) e1 rfl ?_
  have e2 := Heap.get?_update_self (Obj.mapSeq (·.pop)) e1 rfl
  have oth : ∀ b o, b ≠ L → s.heap.get? b = some o → ((s.heap.update L (Obj.mapSeq (·.push Value.none))).update L (Obj.mapSeq (·.pop))).get? b = some o := fun b o m q =>
    (Heap.get?_update_other _ _ (Ne.symm m)).trans ((Heap.get?_update_other _ _ (Ne.symm m)).trans q)
  refine wpAny_pure ⟨plainId_quiet PySem.F.plain_extend_loop _, ?_⟩
  refine lz_loop (g0 := s.heap) (s := s) ap D1 D2 fit res up fin (min n1 n2) 0 _ s.toks _ #[] [] (Nat.sub_zero _) (Nat.zero_le _) (st.kept ap D1 D2 oth) (fun b o m _ _ _ _ q => oth b o m q) e2 rfl rfl ⟨List.Pairwise.nil, (fun _ m => nomatch m), (fun j a hj => by simp at hj)⟩ (Heap.lt_size e2)
theorem lz_call {Q : Value → Shared → Prop} {N : Nat} (hz : s.heap.objs.size = N) (D1 : Draws prog w A.in1.in1.in1 i1 fp1 n1 P1 St1) (D2 : Draws prog w A.in1.in1.in1 i2 fp2 n2 P2 St2) (ap : ZAp z TI TO i1 i2 N fp1 fp2) (fit : min n1 n2 ≤ sizeLine) (st : ZSt z TI TO i1 i2 St1 St2 N 0 s.heap) (zz : IsZip s.heap z TI TO .none) (up : ∀ c, c = z ∨ c = TI ∨ c = TO ∨ c = i1 ∨ c = i2 ∨ c = N → c < N + 1)
    (hQ : ∀ h' tk acc c as, (∀ b o, b ≠ z → b ≠ TO → b ≠ i1 → b ≠ i2 → s.heap.get? b = some o → h'.get? b = some o) → h'.get? N = some { cls := .type "list", dict := none, data := .seq acc c, slots := #[] } → as.length = min n1 n2 → ZGot P1 P2 N h' as → acc.toList = as.map Value.ref →
      Q (.ref N) { s with heap := h', toks := tk }) :
    wpAny (model prog w) A (call (.type "list") [.ref z]) Q E s := by
  refine callType_codes (Q₁ := fun obj s1 => obj = .ref s.heap.objs.size ∧ s1 = { s with heap := s.heap.push { cls := .type "list", data := .seq #[] } }) PySem.F.called_list (PySem.F.typeCall_list_1 _) PySem.F.entry_list_init
    (code_list_new _ ⟨rfl, rfl⟩) fun obj s1 h1 => ?_
  obtain ⟨rfl, rfl⟩ := h1
  have hS : (s.heap.push { cls := .type "list", data := .seq #[] }).get? s.heap.objs.size = some { cls := .type "list", data := .seq #[] } := Heap.get?_push_size _ rfl
  refine ⟨⟨_, hS, rfl⟩, PySem.F.args_list_init_2 _ _, ?_⟩
  rw [hz] at hS ⊢
  have pu : ∀ b o, s.heap.get? b = some o → (s.heap.push { cls := .type "list", data := .seq #[] }).get? b = some o := fun b o q => Heap.get?_push_of_some _ q
  show wpAny _ _ (do let old ← Builtin.List.listItems (.ref N); Builtin.List.listUpdate (.ref N) (fun _ => #[]); letGo old.toList.reverse; Builtin.List.listExtendWith (.ref N) (.ref z) .none) _ _ _
  refine wpAny_bind ?_
  unfold Builtin.List.listItems
  refine wpAny_bind (wpAny_seqItems hS rfl (wpAny_pure ?_))
  show wpAny _ _ (updateSeq N (fun _ => #[]) >>= fun _ => letGo (#[] : Array Value).toList.reverse >>= fun _ => Builtin.List.listExtendWith (.ref N) (.ref z) .none) _ _ _
  refine wpAny_bind (wpAny_updateSeq hS rfl ?_)
  have e2 := Heap.get?_update_self (Obj.mapSeq (fun _ => (#[] : Array Value))) hS rfl
  have oth : ∀ b o, b ≠ N → s.heap.get? b = some o → ((s.heap.push { cls := .type "list", data := .seq #[] }).update N (Obj.mapSeq (fun _ => (#[] : Array Value)))).get? b = some o := fun b o m q => (Heap.get?_update_other _ _ (Ne.symm m)).trans (pu b o q)
  refine wpAny_bind (wpAny_letGo ?_)
  refine lz_extend (A := A.in1) ap D1 D2 fit .none up (st.kept ap D1 D2 oth) (oth _ _ ap.Lz.symm zz) _ e2 fun h' tk acc c as kp hL hl G ha => ⟨rfl, hQ h' tk acc c as (fun b o m2 m3 m4 m5 q => ?_) hL hl G ha⟩
  have m1 : b ≠ N := by rw [← hz]; exact Nat.ne_of_lt (Heap.lt_size q)
  exact kp b o m1 m2 m3 m4 m5 (oth b o m1 q)
end
/-! ### over the layer -/
def putP : Hp → List Addr → List (V × V) → Hp
  | H, a :: as, p :: ps => putP (upd H a (.tup [p.1, p.2])) as ps
  | H, _, _ => H
theorem putP_off {b : Addr} : ∀ (as : List Addr) (ps : List (V × V)) (H : Hp), b ∉ as → putP H as ps b = H b
  | [], _, _, _ => rfl
  | _ :: _, [], _, _ => rfl
  | a :: as, p :: ps, H, h => by
    show putP (upd H a (.tup [p.1, p.2])) as ps b = H b
    rw [putP_off as ps _ (fun m => h (List.mem_cons_of_mem _ m)), upd_ne (fun e => h (by rw [e]; exact List.mem_cons_self))]
theorem putP_at : ∀ (as : List Addr) (ps : List (V × V)) (H : Hp), as.length = ps.length → as.Nodup → ∀ (j : Nat) (a : Addr), as[j]? = some a → ∃ p, ps[j]? = some p ∧ putP H as ps a = some (.tup [p.1, p.2])
  | [], _, _, _, _, j, a, e => by simp at e
  | a :: as, p :: ps, H, hl, nd, 0, b, e => by
    have e : a = b := by simpa using e
    subst e
    refine ⟨p, rfl, ?_⟩
    show putP (upd H a (.tup [p.1, p.2])) as ps a = _
    rw [putP_off as ps _ (List.nodup_cons.mp nd).1, upd_same]
  | a :: as, p :: ps, H, hl, nd, j + 1, b, e => putP_at as ps _ (Nat.succ.inj hl) (List.nodup_cons.mp nd).2 j b (by simpa using e)
  | _ :: _, [], _, hl, _, _, _, _ => nomatch hl
def prsV : List V → List V → List (V × V)
  | x :: xs, y :: ys => (x, y) :: prsV xs ys
  | _, _ => []
theorem prsV_len : ∀ xs ys : List V, (prsV xs ys).length = min xs.length ys.length
  | [], _ => by simp [prsV]
  | _ :: _, [] => by simp [prsV]
  | x :: xs, y :: ys => by
    show (prsV xs ys).length + 1 = min (xs.length + 1) (ys.length + 1)
    rw [prsV_len xs ys]
    omega
theorem prsV_get : ∀ {xs ys : List V} {j : Nat} {p : V × V}, (prsV xs ys)[j]? = some p → xs[j]? = some p.1 ∧ ys[j]? = some p.2
  | [], _, _, _, e => by simp [prsV] at e
  | _ :: _, [], _, _, e => by simp [prsV] at e
  | x :: xs, y :: ys, 0, p, e => by
    have e : (x, y) = p := by simpa [prsV] using e
    subst e
    exact ⟨rfl, rfl⟩
  | x :: xs, y :: ys, j + 1, p, e => prsV_get (xs := xs) (ys := ys) (j := j) (by simpa [prsV] using e)
def tLZip (K : PySem.W.Frag) (ta : TA) : TE := fun σ H Q => ta σ H fun vs H1 => ∃ a b xs ys ka kb, vs = [.ref a, .ref b] ∧ SqB K ka H1 a xs ∧ SqB K kb H1 b ys ∧ min xs.length ys.length ≤ sizeLine ∧
  ∀ (p : Addr) (ts : List Addr), H1 p = none → (∀ t ∈ ts, H1 t = none) → p ∉ ts → ts.Nodup → ts.length = min xs.length ys.length → Q (.ref p) (upd (putP H1 ts (prsV xs ys)) p (.lst (ts.map V.ref)))
section
variable {X : Cx} {e e2 : Expr} {ta : TA} {p p2 zpos pos : Pos}
theorem relVs : ∀ as : List Addr, Vals (as.map V.ref) (as.map Value.ref)
  | [] => .nil
  | _ :: as => .cons rfl (relVs as)
theorem pe_listZip (hc : X.calm = true) (hg : Gl X "zip") (hm : X.mg "zip" = none) (hg2 : Gl X "list") (hm2 : X.mg "list" = none) (hv2 : bootBuiltins "list" = some (.type "list")) (ha : PA X [e, e2] ta)
    (hs : starEach [e, e2] X.env = (false, eval e X.env) :: starEach [e2] X.env := by rfl) (hpl : (backTo zpos (starEach [e2] X.env)).any (·.1) = false := by rfl)
    (hs2 : starEach [.Call (.Name "zip" p2) [e, e2] [] zpos] X.env = (false, eval (.Call (.Name "zip" p2) [e, e2] [] zpos) X.env) :: starEach [] X.env := by rfl) :
    PE X (.Call (.Name "list" p) [.Call (.Name "zip" p2) [e, e2] [] zpos] [] pos) (tLZip X.K ta) := by
  refine ⟨fun pins s σ H Q I h => ?_⟩
  refine wpAny_Call_Name_kw (ld_blt I hg2 hm2 hv2 ?_)
  refine PyProof.Rows.callWith_type1 ?_ hs2 rfl
  rw [hs2]
  show wpAny _ _ (spliced ((false, eval (.Call (.Name "zip" p2) [e, e2] [] zpos) X.env) :: backTo pos (starEach [] X.env))) _ _ s
  refine Calls.spliced_cons ?_
  refine Call_ (ld_blt I hg hm PyProof.Rows.boot_zip (PyProof.Rows.callWith_type1 (thn (ha.run zpos pins s σ H _ I h) ?_) hs hpl))
  rintro us s1 ⟨vs, H1, I1, r1, a, b, xs, ys, ka, kb, rfl, qa, qb, fit, q⟩
  cases r1 with
  | cons r rr =>
    cases rr with
    | cons r' rr =>
      cases rr
      cases r
      cases r'
      obtain ⟨its, rv, g1⟩ := inv_sq I1 ka qa
      obtain ⟨jts, rw', g2⟩ := inv_sq I1 kb qb
      have hh : X.A.handled = none := I1.ok.hd hc
      have l1 := rv.length
      have l2 := rw'.length
      refine zip_begins2 (begins_sq a its.toArray ka) (begins_sq b jts.toArray kb) g1 g2 fun h' sz sI sO j1 j2 hsz hk => ?_
      refine Calls.spliced_nil ?_
      have D := PySem.W.ktu_apart s1.heap.objs.size a b (sq_lt ka g1) (sq_lt kb g2)
      have lta : a < s1.heap.objs.size := sq_lt ka g1
      have ltb : b < s1.heap.objs.size := sq_lt kb g2
      have ob : ∀ {k : Bool} {l : Addr} {xs : Array Value}, SqIs s1.heap k l xs → SqIs h' k l xs := fun {k l xs} g => by
        cases k with
        | true => obtain ⟨o, e, w⟩ := g; exact ⟨o, hk _ _ e, w⟩
        | false => obtain ⟨o, e, w⟩ := g; exact ⟨o, hk _ _ e, w⟩
      have big : ∀ n : Nat, n < 5 → s1.heap.objs.size + n < s1.heap.objs.size + 5 := fun n hn => Nat.add_lt_add_left hn _
      have big0 : (s1.heap.objs.size : Nat) < s1.heap.objs.size + 5 := Nat.lt_add_of_pos_right (by decide)
      have A2 : ZAp (s1.heap.objs.size + 4) (s1.heap.objs.size + 2) (s1.heap.objs.size + 3) s1.heap.objs.size (s1.heap.objs.size + 1) (s1.heap.objs.size + 5) [s1.heap.objs.size, a] [s1.heap.objs.size + 1, b] := by
        refine ⟨zip_sep D, Nat.ne_of_gt (big 4 (by decide)), Nat.ne_of_gt (big 2 (by decide)), Nat.ne_of_gt (big 3 (by decide)), ?_, ?_⟩
        · intro m
          rcases List.mem_cons.mp m with m | m
          · exact absurd m (Nat.ne_of_gt big0)
          · exact absurd (List.mem_singleton.mp m) (Nat.ne_of_gt (Nat.lt_trans lta big0))
        · intro m
          rcases List.mem_cons.mp m with m | m
          · exact absurd m (Nat.ne_of_gt (big 1 (by decide)))
          · exact absurd (List.mem_singleton.mp m) (Nat.ne_of_gt (Nat.lt_trans ltb big0))
      refine lz_call (N := s1.heap.objs.size + 5) (n1 := its.toArray.size) (n2 := jts.toArray.size) hsz (draws_sq (A := X.A.in1.in1.in1) hh s1.heap.objs.size a D.l1i1 its.toArray ka) (draws_sq (A := X.A.in1.in1.in1) hh (s1.heap.objs.size + 1) b D.l2i2 jts.toArray kb) A2 (by simp; omega)
        ⟨sI, ⟨it_of ka j1, ob g1⟩, ⟨it_of kb j2, ob g2⟩, .inl ⟨sz, _, _, sO⟩⟩ sz (fun c hc' => ?_) fun h2 tk acc c as kp hL hl G hacc => ?_
      · have big1 := big
        rcases hc' with rfl | rfl | rfl | rfl | rfl | rfl
        · exact Nat.lt_succ_of_lt (big 4 (by decide))
        · exact Nat.lt_succ_of_lt (big 2 (by decide))
        · exact Nat.lt_succ_of_lt (big 3 (by decide))
        · exact Nat.lt_succ_of_lt big0
        · exact Nat.lt_succ_of_lt (big 1 (by decide))
        · exact Nat.lt_succ_self _
      have hN : s1.heap.objs.size ≤ s1.heap.objs.size + 5 := Nat.le_add_right _ _
      have nS : H1 (s1.heap.objs.size + 5) = none := I1.hok.fresh hN
      have nT : ∀ t ∈ as, H1 t = none := fun t m => I1.hok.fresh (Nat.le_trans hN (Nat.le_of_lt (G.over t m)))
      have nn : s1.heap.objs.size + 5 ∉ as := fun m => Nat.lt_irrefl _ (G.over _ m)
      have nd : as.Nodup := List.Pairwise.imp (fun {a b} (h : a < b) => Nat.ne_of_lt h) G.rise
      have la : as.length = min xs.length ys.length := by rw [hl]; simp; omega
      have qq := q (s1.heap.objs.size + 5) as nS nT nn nd la
      have K2 : ∀ b o, s1.heap.get? b = some o → h2.get? b = some o := fun b o w => by
        have lb := Heap.lt_size w
        exact kp b o (Nat.ne_of_lt (Nat.lt_of_lt_of_le lb (Nat.le_add_right _ _))) (Nat.ne_of_lt (Nat.lt_of_lt_of_le lb (Nat.le_add_right _ _))) (Nat.ne_of_lt lb) (Nat.ne_of_lt (Nat.lt_of_lt_of_le lb (Nat.le_add_right _ _))) (hk b o w)
      have off : ∀ b, b ∉ as → b ≠ s1.heap.objs.size + 5 → upd (putP H1 as (prsV xs ys)) (s1.heap.objs.size + 5) (.lst (as.map V.ref)) b = H1 b := fun b m1 m2 => by rw [upd_ne m2, putP_off as _ _ m1]
      have kpH : ∀ b u, H1 b = some u → upd (putP H1 as (prsV xs ys)) (s1.heap.objs.size + 5) (.lst (as.map V.ref)) b = some u := fun b u w => by
        rw [off b (fun m => by rw [nT b m] at w; cases w) (fun m => by rw [m, nS] at w; cases w)]
        exact w
      refine ⟨.ref _, _, ?_, rfl, qq⟩
      refine I1.call' (ch := []) rfl ⟨fun b o w _ _ _ => K2 b o w, fun b o w _ _ _ => ⟨o.slots, K2 b o w⟩, fun b o w n _ => ?_, fun b o w _ => ⟨o, K2 b o w⟩, fun b xs w => kpH b _ w, fun b o u w => kpH b _ w, fun b ps w => ⟨#[], by rw [kpH b _ w]; simp⟩⟩ (fun b u w => ?_) I1.bare fun b m => by simp at m
      · have lb : b < s1.heap.objs.size + 5 := Nat.lt_of_lt_of_le (Heap.lt_size w) hN
        rw [off b (fun m => absurd (G.over b m) (Nat.not_lt.mpr (Nat.le_of_lt lb))) (Nat.ne_of_lt lb)]
        exact n
      · by_cases hb : b ∈ as
        · obtain ⟨j, ej⟩ := List.mem_iff_getElem?.mp hb
          obtain ⟨pr, e1, e2⟩ := putP_at as (prsV xs ys) H1 (by rw [la, prsV_len]) nd j b ej
          rw [upd_ne (fun m => nn (by rw [← m]; exact hb)), e2] at w
          cases w
          obtain ⟨x, y, f1, f2, f3⟩ := G.pair j b ej
          obtain ⟨p1, p2⟩ := prsV_get e1
          obtain ⟨u1, v1, v2⟩ := rv.get p1
          obtain ⟨u2, v3, v4⟩ := rw'.get p2
          have w1 : its[j]? = some x := by simpa using f1
          have w2 : jts[j]? = some y := by simpa using f2
          have z1 : u1 = x := Option.some.inj (v1.symm.trans w1)
          have z2 : u2 = y := Option.some.inj (v3.symm.trans w2)
          subst z1 z2
          exact ⟨by show 2 ≤ sizeLine; decide, [u1, u2], .cons v2 (.cons v4 .nil), ⟨_, f3, rfl, _, rfl⟩⟩
        · by_cases hb2 : b = s1.heap.objs.size + 5
          · rw [hb2] at w ⊢
            rw [upd_same] at w
            cases w
            refine ⟨by rw [List.length_map]; omega, acc.toList, c, by rw [hacc]; exact relVs as, ?_⟩
            rw [Array.toArray_toList]
            exact hL
          · rw [off b hb hb2] at w
            exact (I1.hok b u w).stay (fun d v _ y => K2 d v y) (fun d y => kpH d _ y) fun d xs y => kpH d _ y
end
/-! ### as a reading -/
def rLZip (fa : RA) : RX := fun ρ μ R => fa ρ μ fun ds μ1 => match ds with
  | [x, y] => (match rowD x, rowD y with
    | some xs, some ys => min xs.length ys.length ≤ sizeLine ∧ R (.lst (zipD xs ys)) μ1
    | _, _ => False)
  | _ => False
theorem zip_laid {K : PySem.W.Frag} : ∀ (ts : List Addr) {S H : Hp} {μ : MH} {us vs : List V} {xs ys : List D}, OK K S μ H → Reps K S us xs → Reps K S vs ys → (∀ t ∈ ts, H t = none) → ts.Nodup → ts.length = min us.length vs.length →
    ∃ S', OK K S' μ (putP H ts (prsV us vs)) ∧ Stp S μ H S' μ (putP H ts (prsV us vs)) ∧ Reps K S' (ts.map V.ref) (zipD xs ys)
  | ts, S, H, μ, [], vs, xs, ys, k, r1, r2, hn, nd, hl => by
    cases r1
    have e : ts = [] := by
      cases ts with
      | nil => rfl
      | cons => simp at hl
    subst e
    exact ⟨S, k, .refl, .nil⟩
  | ts, S, H, μ, u :: us, [], xs, ys, k, r1, r2, hn, nd, hl => by
    cases r2
    have e : ts = [] := by
      cases ts with
      | nil => rfl
      | cons => simp at hl
    subst e
    refine ⟨S, k, .refl, ?_⟩
    cases r1
    exact .nil
  | [], S, H, μ, u :: us, v :: vs, xs, ys, k, r1, r2, hn, nd, hl => by
    simp at hl
  | t :: ts, S, H, μ, u :: us, v :: vs, xs, ys, k, r1, r2, hn, nd, hl => by
    cases r1 with
    | cons a1 a2 =>
      cases r2 with
      | cons b1 b2 =>
        obtain ⟨k1, s1⟩ := k.alloc (o := .tup [u, v]) (hn t (List.mem_cons_self ..))
        obtain ⟨n1, n2⟩ := List.nodup_cons.mp nd
        obtain ⟨S2, k2, s2, r3⟩ := zip_laid ts k1 (a2.mono s1.same) (b2.mono s1.same) (fun c m => by
          rw [upd_ne (fun e => n1 (by rw [← e]; exact m))]
          exact hn c (List.mem_cons_of_mem _ m)) n2 (by simp at hl ⊢; omega)
        exact ⟨S2, k2, s1.trans s2, .cons (.tup (.of (s2.same _ _ upd_same)) (.cons ((a1.mono s1.same).mono s2.same) (.cons ((b1.mono s1.same).mono s2.same) .nil))) r3⟩
theorem de_listZip {X : Cx} {a b : Expr} {fa : RA} {p p2 zpos pos : Pos} (hg : Gl X "zip") (hm : X.mg "zip" = none) (hg2 : Gl X "list") (hm2 : X.mg "list" = none) (ha : DA X [a, b] fa) (hc : X.calm = true := by rfl)
    (hs : starEach [a, b] X.env = (false, eval a X.env) :: starEach [b] X.env := by rfl) (hpl : (backTo zpos (starEach [b] X.env)).any (·.1) = false := by rfl)
    (hs2 : starEach [.Call (.Name "zip" p2) [a, b] [] zpos] X.env = (false, eval (.Call (.Name "zip" p2) [a, b] [] zpos) X.env) :: starEach [] X.env := by rfl) :
    DE X (.Call (.Name "list" p) [.Call (.Name "zip" p2) [a, b] [] zpos] [] pos) (rLZip fa) := pe_imp (pe_listZip hc hg hm hg2 hm2 (by decide +kernel) ha hs hpl hs2) fun σ H Q ⟨S, μ, ρ, R, k, e, h, post⟩ => by
  refine ⟨S, μ, ρ, _, k, e, h, fun S1 μ1 H1 ws ds k1 s1 r1 h1 => ?_⟩
  split at h1
  · rename_i x y
    obtain ⟨v, w, rfl, r2, r3⟩ := reps2 r1
    cases q1 : rowD x with
    | none => rw [q1] at h1; exact h1.elim
    | some xs =>
      cases q2 : rowD y with
      | none => rw [q1, q2] at h1; exact h1.elim
      | some ys =>
        rw [q1, q2] at h1
        obtain ⟨fit, h1⟩ := h1
        obtain ⟨a1, us, ka, rfl, ra, ga⟩ := row_rep r2 q1
        obtain ⟨b1, vs, kb, rfl, rb, gb⟩ := row_rep r3 q2
        refine ⟨a1, b1, us, vs, ka, kb, rfl, ga S1 μ1 H1 k1 (fun _ _ z => z), gb S1 μ1 H1 k1 (fun _ _ z => z), by rw [ra.length, rb.length]; exact fit, fun l ts n1 n2 n3 n4 n5 => ?_⟩
        obtain ⟨S2, k2, s2, r4⟩ := zip_laid ts k1 ra rb n2 n4 n5
        have nl : putP H1 ts (prsV us vs) l = none := by rw [putP_off ts _ _ n3]; exact n1
        obtain ⟨k3, s3⟩ := k2.alloc (o := .lst (ts.map V.ref)) nl
        exact post _ _ _ _ _ k3 ((s1.trans s2).trans s3) (.lst upd_same (r4.mono s3.same)) h1
  · exact h1.elim
end L3

/-! ## L3v -/
set_option Elab.async false
set_option linter.all false
set_option maxRecDepth 100000
set_option maxHeartbeats 4000000
/-! Errors with attributes: a def that begins with super().__init__(text). -/
namespace L3
open PySem PySem.Spec PyProof.Rows L2
structure ScK (N ps : List Str) (scope : Scope) : Prop where
  nd : N.Nodup
  pre : N.take ps.length = ps
  par : ∀ x ∈ ps, scope.names.lookup x = some .local
  kind : scope.kind = .function
  co : scope.isCoroutine = false
  gen : scope.isGenerator = false
  own : ∀ p ∈ scope.names, p.2 ≠ .cell
  fre : ∀ p ∈ scope.names, p.2 = .free → p.1 = "__class__"
section
variable {CX : CXT} {P : Program} {w : World} {K : PySem.W.Frag} {mg : Str → Option Value} {base : Heap} {N ps : List Str} {qual : Str} {scope : Scope} {f cc : Addr} {cd : Value} {A : Around} {outer : List Env} {s : Shared} {H : Hp} {E : XK} {us : List Value} {vs : List V}
end

/-- what the program and its written part say of a class's __init__ that begins with super().__init__(..): f, the def; cc, its cell -/
structure SupK (P : Program) (K : PySem.W.Frag) (mg : Str → Option Value) (f cc C : Addr) (cd : Value) (x0 : Str) : Prop where
  cell : ∃ cl cld csl, K.lookup cc = some ⟨cl, cld, .cell (some (.ref C)), csl⟩
  code : ∃ cda ccl cdd vs ccs file tf, cd = .ref cda ∧ K.lookup cda = some ⟨ccl, cdd, .fields vs, ccs⟩ ∧ vs[2]? = some (.str file tf) ∧ ((P.main.file : Str) == file) = true
  cls : ∃ cdD, PySem.W.clsIn K C = some cdD
  sub : PySem.W.mroIn K C (.ref C) = some true
  top : (P.main.scope.names.lookup ("super" : Str)).isSome = false
  ms : mg "super" = none
  up : PySem.W.ks_superIn K C C "__init__" = some (some (.builtin "ValueError.__init__"))
  ve : PySem.W.subIn K (.ref C) (.type "ValueError") = some true
  opq : PySem.W.nsIn K cStatics "thirdparty.any" = some none
  oex : OexC K C
section
variable {CX : CXT} {P : Program} {w : World} {K : PySem.W.Frag} {mg : Str → Option Value} {base : Heap} {N : List Str} {qual : Str} {scope : Scope} {f cc C a : Addr} {cd : Value} {A : Around} {outer : List Env} {s : Shared} {H0 H : Hp} {E : XK} {σ : L2.St} {x0 m : Str} {body : List Stmt} {p0 p1 p2 p3 p4 : Pos} {j : Nat} {oc : Value} {od : Option Addr} {osl : Array (Option Value)} {fd : FuncData} {ar : Arg} {E' : Value → Shared → Prop}
end
end L3

/-! ## L3w -/
set_option Elab.async false
set_option linter.all false
set_option maxRecDepth 100000
set_option maxHeartbeats 4000000
/-! Errors with attributes: made, raised, their attributes read in a suite. -/
namespace L3
open PySem PySem.Spec PyProof.Rows L2
section
variable {K : PySem.W.Frag} {C a dx : Addr} {σ : L2.St} {D : Ends}
end
/-- the __init__ of the errors of the class at C: behind it stand the attributes -/
def spI (C : Addr) (names : List Str) : Sp := fun vs H Q _ => ∃ (a : Addr) (ws : List V), vs = .ref a :: ws ∧ ws.length = names.length ∧ H a = some (exo a C none) ∧ ∀ dx, H dx = none → dx ≠ a → Q .non (upd (upd H a (exo a C (some dx))) dx (exd dx (names.zip ws).reverse))
section
variable {CX : CXT} {P : Program} {w : World} {K : PySem.W.Frag} {mg : Str → Option Value} {base : Heap} {N : List Str} {qual : Str} {scope : Scope} {f cc C : Addr} {cd : Value} {x0 m : Str} {p0 p1 p2 p3 p4 p5 : Pos} {j : Nat} {oc : Value} {od : Option Addr} {osl : Array (Option Value)} {ar : Arg}
end
/-! ### raise C(e, ..) -/
structure ExcA (P : Program) (w : World) (K : PySem.W.Frag) (mg : Str → Option Value) (base : Heap) (k : Nat) (x : Str) (C : Addr) (names : List Str) : Prop where
  ex : ∃ fI fd ps, OexC K C ∧ PySem.W.findIn K (.ref C) "__init__" = some (some (.ref fI)) ∧ PySem.W.typeIn K (.ref fI) = some (.type "function") ∧ FnOk P w K mg base CX0 k fI fd ps (spI C names) ∧ Binds K fd ps [] ∧ mg x = some (.ref C)
section
variable {X : Cx} {W : WX} {k : Nat} {x : Str} {C : Addr} {names : List Str} {e : Expr} {es : List Expr} {fa : RA} {p cpos pos : Pos}
end
/-! ### a suite that reads attributes -/
/-- what is known of the error's attributes -/
def XF (K : PySem.W.Frag) (d : Option Addr) (fs : List (Str × D)) (S : Hp) : Prop := fs = [] ∨ ∃ dd vfs, d = some dd ∧ S dd = some (.xd vfs) ∧ RepF K S vfs fs
theorem XF.mono {K : PySem.W.Frag} {d : Option Addr} {fs : List (Str × D)} {S S' : Hp} (e : Same S S') (x : XF K d fs S) : XF K d fs S' := x.imp (fun z => z) fun ⟨dd, vfs, a, b, c⟩ => ⟨dd, vfs, a, e _ _ b, c.mono e⟩
def upSF (K : PySem.W.Frag) (d : Option Addr) (fs : List (Str × D)) (f : RS) : TS := fun D σ H => ∃ S μ ρ DD, XF K d fs S ∧ OK K S μ H ∧ RepE K S σ ρ ∧ f DD ρ μ ∧ Lk K S μ H D DD
abbrev DSF (X : Cx) (d : Option Addr) (fs : List (Str × D)) (s : Stmt) (f : RS) : Prop := PS X s (upSF X.K d fs f)
abbrev DSsF (X : Cx) (d : Option Addr) (fs : List (Str × D)) (s : List Stmt) (f : RS) : Prop := PSs X s (upSF X.K d fs f)
section
variable {X : Cx} {d : Option Addr} {fs : List (Str × D)} {a : Stmt} {as bs rest : List Stmt} {f g : RS} {c : Expr} {ft : RT} {pos : Pos}
theorem dsf_no (h : DS X a f) : DSF X d fs a f := ps_imp h fun D σ H ⟨S, μ, ρ, DD, _, k, e, h, l⟩ => ⟨S, μ, ρ, DD, k, e, h, l⟩
theorem dssf_nil : DSsF X d fs [] rNext := pss_imp pss_nil fun D σ H ⟨S, μ, ρ, DD, _, k, e, h, l⟩ => l.nx S μ H σ ρ k .refl e h
theorem dssf_cons (h1 : DSF X d fs a f) (h2 : DSsF X d fs rest g) : DSsF X d fs (a :: rest) (rSeq f g) := pss_imp (pss_cons h1 h2) fun D σ H ⟨S, μ, ρ, DD, x, k, e, h, l⟩ =>
  ⟨S, μ, ρ, _, x, k, e, h, ⟨fun S1 μ1 H1 σ1 ρ1 k1 s1 e1 q1 => ⟨S1, μ1, ρ1, DD, x.mono s1.same, k1, e1, q1, l.stp s1⟩, l.rt, l.bk, l.ct⟩⟩
theorem dssf_one (h1 : DSF X d fs a f) : DSsF X d fs [a] f := pss_one h1
end
theorem xf_i {K : PySem.W.Frag} {d : Option Addr} {fs : List (Str × D)} {S H : Hp} {μ : MH} {σ : L2.St} {ρ : EV} {i : Nat} {a C : Addr} {f : Str} {z : D} (x : XF K d fs S) (k : OK K S μ H) (e : RepE K S σ ρ) (hi : gt ρ i = some (.ref a)) (hl : fs.lookup f = some z) :
    ∃ v, Rep K S v z ∧ ∀ Q : VK, Q v H → tXf a (.ref C) d C f (tVar i) σ H Q := by
  rcases x with rfl | ⟨dd, vfs, rfl, h1, h2⟩
  · cases hl
  · obtain ⟨v, e1, e2⟩ := h2.lookup hl
    obtain ⟨w, g1, g2⟩ := e.get hi
    cases g2.toRef
    exact ⟨v, e2, fun Q q => ⟨.ref a, g1, rfl, rfl, dd, vfs, v, rfl, k.sub _ _ h1, e1, q⟩⟩
/-- return (x, e.f) -/
def rRetA1 (a : Addr) (fs : List (Str × D)) (i : Nat) (f : Str) (fn : RX) : RS := fun D ρ μ => fn ρ μ fun d μ1 => gt ρ i = some (.ref a) ∧ ∃ z, fs.lookup f = some z ∧ D.rt (.tup [d, z]) μ1
/-- return (x, (e.f, e.g)) -/
def rRetA2 (a : Addr) (fs : List (Str × D)) (i : Nat) (f g : Str) (fn : RX) : RS := fun D ρ μ => fn ρ μ fun d μ1 => gt ρ i = some (.ref a) ∧ ∃ z y, fs.lookup f = some z ∧ fs.lookup g = some y ∧ D.rt (.tup [d, .tup [z, y]]) μ1
/-- return (x, (e.f, e.g, e.h)) -/
def rRetA3 (a : Addr) (fs : List (Str × D)) (i : Nat) (f g h : Str) (fn : RX) : RS := fun D ρ μ => fn ρ μ fun d μ1 => gt ρ i = some (.ref a) ∧ ∃ z y x, fs.lookup f = some z ∧ fs.lookup g = some y ∧ fs.lookup h = some x ∧ D.rt (.tup [d, .tup [z, y, x]]) μ1
/-- return (x, e.f if t else y) -/
def rRetAI (a : Addr) (fs : List (Str × D)) (i : Nat) (f : Str) (ft : RT) (fn fy : RX) : RS := fun D ρ μ => fn ρ μ fun d μ1 => ft ρ μ1 fun b μ2 => if b = true then gt ρ i = some (.ref a) ∧ ∃ z, fs.lookup f = some z ∧ D.rt (.tup [d, z]) μ2 else fy ρ μ2 fun z μ3 => D.rt (.tup [d, z]) μ3
/-- what an error's class must have for its attributes to be read -/
structure XfA (K : PySem.W.Frag) (C : Addr) (f : Str) : Prop where
  c : XfC K C
  no : PySem.W.findIn K (.ref C) f = some none
section
variable {X : Cx} {a C : Addr} {oe : Obj} {d : Option Addr} {fs : List (Str × D)} {pn : List (Addr × Obj)} {en ex ex2 ex3 c y : Expr} {fn fy : RX} {ft : RT} {i : Nat} {f g h xe : Str} {tp tp2 : ExprContext → Pos} {pe pe2 pe3 p1 p2 p3 t1 t2 pos : Pos} {k1 k2 : Nat}
theorem two_fit : 2 ≤ sizeLine := by decide
theorem three_fit : 3 ≤ sizeLine := by decide
theorem dsf_A1 (T : XfA X.K C f) (hz : Zc (.ref C) d oe) (hf : ∃ vs, oe.data = .fields vs) (hn : DE (X.suite a ((a, oe) :: pn)) en fn) (hN : X.N[i]? = some xe := by rfl) (hv : Vis X.env.scope xe := by first | exact Or.inl rfl | exact Or.inr (Or.inl rfl))
    (hb : attributeBase (.Name xe pe) f X.env (eval (.Name xe pe) X.env) = eval (.Name xe pe) X.env := by rfl)
    (hs1 : starEach [en, .Attribute (.Name xe pe) f p1] X.env = (false, eval en X.env) :: starEach [.Attribute (.Name xe pe) f p1] X.env := by rfl) (hs2 : starEach [.Attribute (.Name xe pe) f p1] X.env = (false, eval (.Attribute (.Name xe pe) f p1) X.env) :: starEach [] X.env := by rfl)
    (hd1 : (xe == ("__debug__" : Str)) = false := by decide) (hd2 : (xe == ("__classdict__" : Str)) = false := by decide) :
    DSF (X.suite a ((a, oe) :: pn)) d fs (.Return (some (.Tuple [en, .Attribute (.Name xe pe) f p1] k1 t1)) pos) (rRetA1 a fs i f fn) :=
  ps_imp (ps_ret (pe_tup (pa_cons (X := X.suite a ((a, oe) :: pn)) hn (pa_cons (X := X.suite a ((a, oe) :: pn)) (pe_xf T.c T.no hz hf (pe_var (X := X.suite a ((a, oe) :: pn)) (i := i) hN hv hd1 hd2) hb) pa_nil hs2) hs1))) fun D σ H ⟨S, μ, ρ, DD, x, k, e, q, l⟩ => by
    refine ⟨S, μ, ρ, _, k, e, q, fun S1 μ1 H1 v1 d1 k1 s1 r1 q1 => ?_⟩
    obtain ⟨hi, z, hl, q1⟩ := q1
    obtain ⟨v, rv, tx⟩ := xf_i (C := C) (x.mono s1.same) k1 (e.mono s1.same) hi hl
    refine tx _ ⟨two_fit, fun p hp => ?_⟩
    obtain ⟨k2, s2⟩ := k1.alloc (o := .tup [v1, v]) hp
    exact l.rt _ _ _ _ _ k2 (s1.trans s2) (.tup (.of upd_same) (.cons (r1.mono s2.same) (.cons (rv.mono s2.same) .nil))) q1
theorem dsf_A2 (T : XfA X.K C f) (T2 : XfA X.K C g) (hz : Zc (.ref C) d oe) (hf : ∃ vs, oe.data = .fields vs) (hn : DE (X.suite a ((a, oe) :: pn)) en fn) (hN : X.N[i]? = some xe := by rfl) (hv : Vis X.env.scope xe := by first | exact Or.inl rfl | exact Or.inr (Or.inl rfl))
    (hb : attributeBase (.Name xe pe) f X.env (eval (.Name xe pe) X.env) = eval (.Name xe pe) X.env := by rfl) (hb2 : attributeBase (.Name xe pe2) g X.env (eval (.Name xe pe2) X.env) = eval (.Name xe pe2) X.env := by rfl)
    (hs1 : starEach [en, .Tuple [.Attribute (.Name xe pe) f p1, .Attribute (.Name xe pe2) g p2] k2 t2] X.env = (false, eval en X.env) :: starEach [.Tuple [.Attribute (.Name xe pe) f p1, .Attribute (.Name xe pe2) g p2] k2 t2] X.env := by rfl)
    (hs2 : starEach [.Tuple [.Attribute (.Name xe pe) f p1, .Attribute (.Name xe pe2) g p2] k2 t2] X.env = (false, eval (.Tuple [.Attribute (.Name xe pe) f p1, .Attribute (.Name xe pe2) g p2] k2 t2) X.env) :: starEach [] X.env := by rfl)
    (hs3 : starEach [.Attribute (.Name xe pe) f p1, .Attribute (.Name xe pe2) g p2] X.env = (false, eval (.Attribute (.Name xe pe) f p1) X.env) :: starEach [.Attribute (.Name xe pe2) g p2] X.env := by rfl) (hs4 : starEach [.Attribute (.Name xe pe2) g p2] X.env = (false, eval (.Attribute (.Name xe pe2) g p2) X.env) :: starEach [] X.env := by rfl)
    (hd1 : (xe == ("__debug__" : Str)) = false := by decide) (hd2 : (xe == ("__classdict__" : Str)) = false := by decide) :
    DSF (X.suite a ((a, oe) :: pn)) d fs (.Return (some (.Tuple [en, .Tuple [.Attribute (.Name xe pe) f p1, .Attribute (.Name xe pe2) g p2] k2 t2] k1 t1)) pos) (rRetA2 a fs i f g fn) :=
  ps_imp (ps_ret (pe_tup (pa_cons (X := X.suite a ((a, oe) :: pn)) hn (pa_cons (X := X.suite a ((a, oe) :: pn)) (pe_tup (pa_cons (X := X.suite a ((a, oe) :: pn)) (pe_xf T.c T.no hz hf (pe_var (X := X.suite a ((a, oe) :: pn)) (i := i) hN hv hd1 hd2) hb) (pa_cons (X := X.suite a ((a, oe) :: pn)) (pe_xf T2.c T2.no hz hf (pe_var (X := X.suite a ((a, oe) :: pn)) (i := i) hN hv hd1 hd2) hb2) pa_nil hs4) hs3)) pa_nil hs2) hs1))) fun D σ H ⟨S, μ, ρ, DD, x, k, e, q, l⟩ => by
    refine ⟨S, μ, ρ, _, k, e, q, fun S1 μ1 H1 v1 d1 k1 s1 r1 q1 => ?_⟩
    obtain ⟨hi, z, y, hl, hl2, q1⟩ := q1
    obtain ⟨v, rv, tx⟩ := xf_i (C := C) (x.mono s1.same) k1 (e.mono s1.same) hi hl
    obtain ⟨v2, rv2, tx2⟩ := xf_i (C := C) (x.mono s1.same) k1 (e.mono s1.same) hi hl2
    dsimp only [tCons, tTup, tNil]
    refine tx _ ?_
    refine tx2 _ ?_
    refine ⟨two_fit, fun p hp => ⟨two_fit, fun p2 hp2 => ?_⟩⟩
    obtain ⟨k2, s2⟩ := k1.alloc (o := .tup [v, v2]) hp
    obtain ⟨k3, s3⟩ := k2.alloc (o := .tup [v1, .ref p]) hp2
    have s23 := s2.same.trans s3.same
    exact l.rt _ _ _ _ _ k3 ((s1.trans s2).trans s3) (.tup (.of upd_same) (.cons (r1.mono s23) (.cons (.tup (.of (s3.same _ _ upd_same)) (.cons (rv.mono s23) (.cons (rv2.mono s23) .nil))) .nil))) q1
theorem dsf_A3 (T : XfA X.K C f) (T2 : XfA X.K C g) (T3 : XfA X.K C h) (hz : Zc (.ref C) d oe) (hf : ∃ vs, oe.data = .fields vs) (hn : DE (X.suite a ((a, oe) :: pn)) en fn) (hN : X.N[i]? = some xe := by rfl) (hv : Vis X.env.scope xe := by first | exact Or.inl rfl | exact Or.inr (Or.inl rfl))
    (hb : attributeBase (.Name xe pe) f X.env (eval (.Name xe pe) X.env) = eval (.Name xe pe) X.env := by rfl) (hb2 : attributeBase (.Name xe pe2) g X.env (eval (.Name xe pe2) X.env) = eval (.Name xe pe2) X.env := by rfl) (hb3 : attributeBase (.Name xe pe3) h X.env (eval (.Name xe pe3) X.env) = eval (.Name xe pe3) X.env := by rfl)
    (hs1 : starEach [en, .Tuple [.Attribute (.Name xe pe) f p1, .Attribute (.Name xe pe2) g p2, .Attribute (.Name xe pe3) h p3] k2 t2] X.env = (false, eval en X.env) :: starEach [.Tuple [.Attribute (.Name xe pe) f p1, .Attribute (.Name xe pe2) g p2, .Attribute (.Name xe pe3) h p3] k2 t2] X.env := by rfl)
    (hs2 : starEach [.Tuple [.Attribute (.Name xe pe) f p1, .Attribute (.Name xe pe2) g p2, .Attribute (.Name xe pe3) h p3] k2 t2] X.env = (false, eval (.Tuple [.Attribute (.Name xe pe) f p1, .Attribute (.Name xe pe2) g p2, .Attribute (.Name xe pe3) h p3] k2 t2) X.env) :: starEach [] X.env := by rfl)
    (hs3 : starEach [.Attribute (.Name xe pe) f p1, .Attribute (.Name xe pe2) g p2, .Attribute (.Name xe pe3) h p3] X.env = (false, eval (.Attribute (.Name xe pe) f p1) X.env) :: starEach [.Attribute (.Name xe pe2) g p2, .Attribute (.Name xe pe3) h p3] X.env := by rfl)
    (hs4 : starEach [.Attribute (.Name xe pe2) g p2, .Attribute (.Name xe pe3) h p3] X.env = (false, eval (.Attribute (.Name xe pe2) g p2) X.env) :: starEach [.Attribute (.Name xe pe3) h p3] X.env := by rfl) (hs5 : starEach [.Attribute (.Name xe pe3) h p3] X.env = (false, eval (.Attribute (.Name xe pe3) h p3) X.env) :: starEach [] X.env := by rfl)
    (hd1 : (xe == ("__debug__" : Str)) = false := by decide) (hd2 : (xe == ("__classdict__" : Str)) = false := by decide) :
    DSF (X.suite a ((a, oe) :: pn)) d fs (.Return (some (.Tuple [en, .Tuple [.Attribute (.Name xe pe) f p1, .Attribute (.Name xe pe2) g p2, .Attribute (.Name xe pe3) h p3] k2 t2] k1 t1)) pos) (rRetA3 a fs i f g h fn) :=
  ps_imp (ps_ret (pe_tup (pa_cons (X := X.suite a ((a, oe) :: pn)) hn (pa_cons (X := X.suite a ((a, oe) :: pn)) (pe_tup (pa_cons (X := X.suite a ((a, oe) :: pn)) (pe_xf T.c T.no hz hf (pe_var (X := X.suite a ((a, oe) :: pn)) (i := i) hN hv hd1 hd2) hb) (pa_cons (X := X.suite a ((a, oe) :: pn)) (pe_xf T2.c T2.no hz hf (pe_var (X := X.suite a ((a, oe) :: pn)) (i := i) hN hv hd1 hd2) hb2) (pa_cons (X := X.suite a ((a, oe) :: pn)) (pe_xf T3.c T3.no hz hf (pe_var (X := X.suite a ((a, oe) :: pn)) (i := i) hN hv hd1 hd2) hb3) pa_nil hs5) hs4) hs3)) pa_nil hs2) hs1))) fun D σ H ⟨S, μ, ρ, DD, x, k, e, q, l⟩ => by
    refine ⟨S, μ, ρ, _, k, e, q, fun S1 μ1 H1 v1 d1 k1 s1 r1 q1 => ?_⟩
    obtain ⟨hi, z, y, w, hl, hl2, hl3, q1⟩ := q1
    obtain ⟨v, rv, tx⟩ := xf_i (C := C) (x.mono s1.same) k1 (e.mono s1.same) hi hl
    obtain ⟨v2, rv2, tx2⟩ := xf_i (C := C) (x.mono s1.same) k1 (e.mono s1.same) hi hl2
    obtain ⟨v3, rv3, tx3⟩ := xf_i (C := C) (x.mono s1.same) k1 (e.mono s1.same) hi hl3
    dsimp only [tCons, tTup, tNil]
    refine tx _ ?_
    refine tx2 _ ?_
    refine tx3 _ ?_
    refine ⟨three_fit, fun p hp => ⟨two_fit, fun p2 hp2 => ?_⟩⟩
    obtain ⟨k2, s2⟩ := k1.alloc (o := .tup [v, v2, v3]) hp
    obtain ⟨k3, s3⟩ := k2.alloc (o := .tup [v1, .ref p]) hp2
    have s23 := s2.same.trans s3.same
    exact l.rt _ _ _ _ _ k3 ((s1.trans s2).trans s3) (.tup (.of upd_same) (.cons (r1.mono s23) (.cons (.tup (.of (s3.same _ _ upd_same)) (.cons (rv.mono s23) (.cons (rv2.mono s23) (.cons (rv3.mono s23) .nil)))) .nil))) q1
theorem dsf_AI (T : XfA X.K C f) (hz : Zc (.ref C) d oe) (hf : ∃ vs, oe.data = .fields vs) (hn : DE (X.suite a ((a, oe) :: pn)) en fn) (hc : DT (X.suite a ((a, oe) :: pn)) c ft) (hy : DE (X.suite a ((a, oe) :: pn)) y fy) (hN : X.N[i]? = some xe := by rfl) (hv : Vis X.env.scope xe := by first | exact Or.inl rfl | exact Or.inr (Or.inl rfl))
    (hb : attributeBase (.Name xe pe) f X.env (eval (.Name xe pe) X.env) = eval (.Name xe pe) X.env := by rfl)
    (hs1 : starEach [en, .IfExp c (.Attribute (.Name xe pe) f p1) y p2] X.env = (false, eval en X.env) :: starEach [.IfExp c (.Attribute (.Name xe pe) f p1) y p2] X.env := by rfl)
    (hs2 : starEach [.IfExp c (.Attribute (.Name xe pe) f p1) y p2] X.env = (false, eval (.IfExp c (.Attribute (.Name xe pe) f p1) y p2) X.env) :: starEach [] X.env := by rfl)
    (hd1 : (xe == ("__debug__" : Str)) = false := by decide) (hd2 : (xe == ("__classdict__" : Str)) = false := by decide) :
    DSF (X.suite a ((a, oe) :: pn)) d fs (.Return (some (.Tuple [en, .IfExp c (.Attribute (.Name xe pe) f p1) y p2] k1 t1)) pos) (rRetAI a fs i f ft fn fy) :=
  ps_imp (ps_ret (pe_tup (pa_cons (X := X.suite a ((a, oe) :: pn)) hn (pa_cons (X := X.suite a ((a, oe) :: pn)) (pe_ifExp (X := X.suite a ((a, oe) :: pn)) hc (pe_xf T.c T.no hz hf (pe_var (X := X.suite a ((a, oe) :: pn)) (i := i) hN hv hd1 hd2) hb) hy) pa_nil hs2) hs1))) fun D σ H ⟨S, μ, ρ, DD, x, k, e, q, l⟩ => by
    refine ⟨S, μ, ρ, _, k, e, q, fun S1 μ1 H1 v1 d1 k1 s1 r1 q1 => ?_⟩
    refine ⟨S1, μ1, ρ, _, k1, e.mono s1.same, q1, fun S2 μ2 H2 b k2 s2 q2 => ?_⟩
    have fin : ∀ {S3 H3 : Hp} {μ3 : MH} {v : V} {z : L3.D}, OK X.K S3 μ3 H3 → Stp S2 μ2 H2 S3 μ3 H3 → Rep X.K S3 v z → DD.rt (.tup [d1, z]) μ3 → (2 ≤ sizeLine ∧ ∀ p, H3 p = none → D.rt (.ref p) (upd H3 p (.tup [v1, v]))) := fun {S3 H3 μ3 v z} k3 s3 rv q3 => ⟨two_fit, fun p hp => by
      obtain ⟨k4, s4⟩ := k3.alloc (o := .tup [v1, v]) hp
      exact l.rt _ _ _ _ _ k4 (((s1.trans s2).trans s3).trans s4) (.tup (.of upd_same) (.cons ((r1.mono (s2.same.trans s3.same)).mono s4.same) (.cons (rv.mono s4.same) .nil))) q3⟩
    cases b with
    | true =>
      rw [if_pos rfl] at q2
      obtain ⟨hi, z, hl, q2⟩ := q2
      obtain ⟨v, rv, tx⟩ := xf_i (C := C) (x.mono (s1.same.trans s2.same)) k2 (e.mono (s1.same.trans s2.same)) hi hl
      show tXf a (.ref C) d C f (tVar i) σ H2 _
      refine tx _ ?_
      exact fin k2 .refl rv q2
    | false =>
      rw [if_neg Bool.false_ne_true] at q2
      show up X.K fy σ H2 _
      exact ⟨S2, μ2, ρ, _, k2, e.mono (s1.same.trans s2.same), q2, fun S3 μ3 H3 v z k3 s3 rv q3 => fin k3 s3 rv q3⟩
end
/-- the suite of a def that tells errors, the error's attributes known -/
theorem suOk_ofF {Z : Cx} {i n : Nat} {suite : List Stmt} {C : Addr} {fs : List (Str × D)} {v : D} {rd : Addr → RS} (h : ∀ (a : Addr) (oe : Obj) (d : Option Addr) (pn : List (Addr × Obj)), Zc (.ref C) d oe → (∃ vs, oe.data = .fields vs) → (d = none ↔ fs = []) → DSsF (Z.suite a ((a, oe) :: pn)) d fs suite (rd a))
    (hv : ∀ (a : Addr) (μ : MH) (DD : Ed), DD.rt v μ → rd a DD (st (List.replicate n none) i (.ref a)) μ) : SuOk Z i n suite C fs v := fun a oe d pn hz hf hd =>
  pss_imp (h a oe d pn hz hf hd) fun D σ H ⟨S, μ, DD, k, e, x, q, l⟩ => ⟨S, μ, _, DD, x.2.imp (fun z => z.2) fun ⟨dd, vfs, a1, a2, a3, _⟩ => ⟨dd, vfs, a1, a2, a3⟩, k, e, hv a μ DD q, l⟩
end L3

/-! ## L3x -/
set_option Elab.async false
set_option linter.all false
set_option maxRecDepth 100000
set_option maxHeartbeats 4000000
/-! isinstance of an error that has attributes, and the rules of a suite that asks it. -/
namespace PySem.W
open PySem PySem.Spec PySem.Calls PyProof.Rows
section
variable {prog : Program} {w : World} {A : Around} {E : Value → Shared → Prop} {s : Shared} {K : Frag} {x D : Addr} {ox : Obj} {od : Option Obj}
theorem findObj_dataD {C : Addr} {name : Str} {a g : Value} (hc : (clsIn K C).isSome = true) (ha : findIn K (.ref C) name = some (some a)) (hg : specialIn K a "__get__" = some (some g)) (ht : takesIn K a = some true) : findObj K C od name = some (.bind g a) := by
  obtain ⟨cd, hc⟩ := Option.isSome_iff_exists.mp hc
  unfold findObj
  rw [hc, Option.bind_some, ha, Option.bind_some]
  simp [hg, ht]
theorem kin_classD {Q : Option Value → Shared → Prop} (C : L2.ExcC K D) (X : K.In s.heap) (I : InstAt s.heap x ox D od) (h : Q (some (.ref D)) { s with toks := s.toks + 1 }) : wpAny (model prog w) A (getAttr? (.ref x) "__class__") Q E s := by
  obtain ⟨hga, hgt, hsub, hdct, ha, hn, htk, hm⟩ := C
  have hf : findObj K D od "__class__" = some (.bind (.builtin "getset_descriptor.__get__") (.builtin "object.__class__")) := findObj_dataD (by obtain ⟨cd, hc, _⟩ := any_some hdct; rw [hc]; rfl) ha hn htk
  obtain ⟨hp, gg, dd, tk, os⟩ := s
  have T0 := I.type (M := model prog w)
  have T1 := looks_findIn (M := model prog w) X hga
  have T2 := looks_findIn (M := model prog w) X hgt
  have T3 := looks_find (M := model prog w) X I hf
  have sub : Looks (model prog w) hp (isInstance (.ref x) (.type "BaseException")) true := T0.andThen (looks_subIn X hsub)
  have y0 : (false && onTheHeap (Value.builtin "BaseException.__getattribute__")) = false := rfl
  have y2 : (Value.builtin "BaseException.__getattribute__" == Value.builtin "object.__getattribute__") = false := by decide +kernel
  have y1 : (onTheHeap (Value.ref D) && Value.builtin "BaseException.__getattribute__" == Value.builtin "object.__getattribute__") = false := by rw [y2]; rfl
  unfold getAttr? getAttrBy? getAttrBy
  refine wpAny_bind (wpAny_mkText (wpAny_bind (wpAny_attempt (wpAny_holding (wpAny_bind (T0.at (wpAny_bind (T1.at ?_))))))))
  show wpAny _ _ (if (onTheHeap (Value.ref D) && Value.builtin "BaseException.__getattribute__" == Value.builtin "object.__getattribute__") = true then _ else _) _ _ _
  rw [y1, if_neg Bool.false_ne_true]
  unfold getAttrByItsOwn hookBefore
  refine wpAny_bind ?_
  rw [if_pos (show onTheHeap (Value.ref D) = true from rfl)]
  refine T2.at ?_
  refine wpAny_bind (wpAny_attempt (wpAny_holding ?_))
  unfold callGetattribute
  rw [y0, if_neg Bool.false_ne_true]
  unfold boundAndCalled
  rw [PySem.F.excAttr_ValueError.ga.bind (.ref x)]
  refine wpAny_bind (wpAny_pure ?_)
  show wpAny _ _ (call (.builtin "BaseException.__getattribute__") [.ref x, .str "__class__" tk]) _ _ _
  refine wpAny_call (codeAny_call_builtin PySem.F.excAttr_ValueError.ga.plain PySem.F.entry_bexc_ga ?_)
  refine @check_slot (model prog w) _ _ ⟨hp, gg, dd, tk + 1, os⟩ "BaseException.__getattribute__" "BaseException" "__getattribute__" (.ref x) [.str "__class__" tk] [] _ (by decide +kernel) (by decide +kernel) sub (PySem.F.args_bexc_ga (.ref x) (.str "__class__" tk)) ?_
  unfold Builtin.«object.__getattribute__»
  refine wpAny_bind (wpAny_of_eq (a := ((Value.ref x : Value), [Value.str "__class__" tk])) (by first | rfl | (simp only [slotArgs]; rfl)) ?_)
  refine wpAny_bind (wpAny_pure (wpAny_bind (T0.at (wpAny_bind (T3.at ?_)))))
  show wpAny _ _ (holding [Value.builtin "object.__class__"] (call (.builtin "getset_descriptor.__get__") [.builtin "object.__class__", .ref x, .ref D]) >>= ret) _ _ _
  refine wpAny_bind (wpAny_holding (wpAny_call (class_get (s := ⟨hp, gg, dd, tk + 1, os⟩) (ox := ox) (od := od) X I hm ?_)))
  refine wpAny_pure ?_
  show wpAny _ _ (handedOut (.ref D)) _ _ _
  rw [handedOut_of (v := .ref D) rfl]
  first
    | exact wpAny_pure (wpAny_pure h)
    | exact wpAny_pure h
    | exact wpAny_pure (wpAny_bind (wpAny_pure (wpAny_pure h)))
theorem kitx_excD (C : L2.ExcC K D) : KitX K (.ref x) (.ref D) (fun h => ∃ od, InstAt h x ox D od) where
  ty := fun _ _ _ ⟨_, I⟩ => I.type
  it := fun _ _ X _ => by
    obtain ⟨cdD, hcD, _⟩ := any_some C.hd
    unfold clsIn at hcD
    split at hcD
    · rename_i c' d' cd' sl' ho
      intro A' Q' E' s' k q
      unfold isType loadHead
      exact wpAny_bind (wpAny_loadPart (k _ _ (X _ _ ho)) (wpAny_pure q))
    · cases hcD
  ne := fun h tp dd its n sl X htp => by
    obtain ⟨cdD, hcD, _⟩ := any_some C.hd
    refine Bool.eq_false_iff.mpr fun q => ?_
    have e : D = tp := Value.ref.inj (beq_iff_eq.mp q)
    subst e
    unfold clsIn at hcD
    split at hcD
    · rename_i c' d' cd' sl' ho
      have z := (X _ _ ho).symm.trans htp
      cases z
    · cases hcD
  ca := fun X ⟨_, I⟩ k => kin_classD C X I k
end
end PySem.W
namespace L3
open PySem PySem.Spec PyProof.Rows L2
/-- isinstance(e, c), the error's attributes known to be there -/
def rIsEd (K : PySem.W.Frag) (Dc a : Addr) (d : Option Addr) : List V → Hp → VK → Prop := fun xs H Q => ∃ (c : V) (cv : Value) (b : Bool), xs = [.ref a, c] ∧ (∀ u, L2.RelV c u → u = cv) ∧ PySem.W.kitOne K (.ref Dc) cv = some b ∧ (∀ dd, d = some dd → ∃ fs, H dd = some (.xd fs)) ∧ Q (.bl b) H
theorem call_isEd {X : Cx} {a Dc : Addr} {oe : Obj} {d : Option Addr} {pn : List (Addr × Obj)} (C : ExcC X.K Dc) (hz : Zc (.ref Dc) d oe) (hf : ∃ vs, oe.data = .fields vs) : CallR (X.suite a ((a, oe) :: pn)) (.builtin "isinstance") (rIsEd X.K Dc a d) := by
  intro pins s σ H xs us Q I r h
  obtain ⟨c, cv, b, rfl, hcv, e, hd, q⟩ := h
  cases r with
  | cons rx rr =>
    cases rr with
    | cons rt rr =>
      cases rr
      cases rx
      have ec := hcv _ rt
      subst ec
      obtain ⟨hget, _⟩ := I.pin (a, oe) (List.mem_append.mpr (.inl List.mem_cons_self))
      obtain ⟨vs, hv⟩ := hf
      have J : ∃ od, PySem.W.InstAt s.heap a oe Dc od := by
        obtain ⟨oc, ods, oda, osl⟩ := oe
        obtain ⟨h1, h2⟩ := hz
        dsimp only at h1 h2 hv
        subst h1 h2 hv
        cases ods with
        | none => exact ⟨none, hget, rfl, rfl, trivial⟩
        | some dd =>
          obtain ⟨fs, hx⟩ := hd dd rfl
          have y : ObjOk X.prog X.w H s.heap dd (.xd fs) := I.hok dd _ hx
          obtain ⟨mA, ⟨o, _, _, ho, _⟩, _⟩ := y
          exact ⟨some o, hget, rfl, rfl, ho⟩
      exact PySem.W.kia_one (PySem.W.kitx_excD C) I.kIn J e (fun z => nomatch z) fun tk => ⟨.bl b, H, I.kept (t' := tk) fun _ _ z => z, rfl, q⟩
/-! ### expressions that lean on the attributes -/
def upF (K : PySem.W.Frag) (d : Option Addr) (fs : List (Str × D)) (f : RX) : TE := fun σ H Q => ∃ S μ ρ R, XF K d fs S ∧ OK K S μ H ∧ RepE K S σ ρ ∧ f ρ μ R ∧ Pst K S μ H R Q
def upTF (K : PySem.W.Frag) (d : Option Addr) (fs : List (Str × D)) (f : RT) : TT := fun σ H Q => ∃ S μ ρ R, XF K d fs S ∧ OK K S μ H ∧ RepE K S σ ρ ∧ f ρ μ R ∧ ∀ S' μ' H' b, OK K S' μ' H' → Stp S μ H S' μ' H' → R b μ' → Q b H'
def upAF (K : PySem.W.Frag) (d : Option Addr) (fs : List (Str × D)) (f : RA) : TA := fun σ H Q => ∃ S μ ρ R, XF K d fs S ∧ OK K S μ H ∧ RepE K S σ ρ ∧ f ρ μ R ∧ ∀ S' μ' H' vs ds, OK K S' μ' H' → Stp S μ H S' μ' H' → Reps K S' vs ds → R ds μ' → Q vs H'
abbrev DEF (X : Cx) (d : Option Addr) (fs : List (Str × D)) (e : Expr) (f : RX) : Prop := PE X e (upF X.K d fs f)
abbrev DTF (X : Cx) (d : Option Addr) (fs : List (Str × D)) (e : Expr) (f : RT) : Prop := PT X e (upTF X.K d fs f)
abbrev DWF (X : Cx) (d : Option Addr) (fs : List (Str × D)) (e : Expr) (f : RT) : Prop := PW X e (upTF X.K d fs f)
abbrev DAF (X : Cx) (d : Option Addr) (fs : List (Str × D)) (es : List Expr) (f : RA) : Prop := PA X es (upAF X.K d fs f)
section
variable {X : Cx} {d : Option Addr} {fs : List (Str × D)} {e a b c : Expr} {es rest : List Expr} {fe fa fb : RX} {fr : RA} {ta tb ft : RT} {st0 : Stmt} {as bs : List Stmt} {f g : RS} {pos p p2 : Pos}
theorem def_no (h : DE X e fe) : DEF X d fs e fe := pe_imp h fun σ H Q ⟨S, μ, ρ, R, _, k, e, h, post⟩ => ⟨S, μ, ρ, R, k, e, h, post⟩
theorem dtf_no (h : DT X e ft) : DTF X d fs e ft := pt_imp h fun σ H Q ⟨S, μ, ρ, R, _, k, e, h, post⟩ => ⟨S, μ, ρ, R, k, e, h, post⟩
theorem daf_nil : DAF X d fs [] rNil := pa_imp pa_nil fun σ H Q ⟨S, μ, ρ, R, _, k, e, h, post⟩ => post S μ H [] [] k .refl .nil h
theorem daf_cons (ha : DEF X d fs e fe) (hr : DAF X d fs es fr) (hs : starEach (e :: es) X.env = (false, eval e X.env) :: starEach es X.env := by rfl) : DAF X d fs (e :: es) (rCons fe fr) := pa_imp (pa_cons ha hr hs) fun σ H Q ⟨S, μ, ρ, R, x, k, e, h, post⟩ => by
  refine ⟨S, μ, ρ, _, x, k, e, h, fun S1 μ1 H1 v1 d1 k1 s1 r1 h1 => ?_⟩
  exact ⟨S1, μ1, ρ, _, x.mono s1.same, k1, e.mono s1.same, h1, fun S2 μ2 H2 vs ds k2 s2 r2 h2 => post S2 μ2 H2 _ _ k2 (s1.trans s2) (.cons (r1.mono s2.same) r2) h2⟩
theorem def_lst (h : DAF X d fs es fr) : DEF X d fs (.List es pos) (rLst fr) := pe_imp (pe_lst h) fun σ H Q ⟨S, μ, ρ, R, x, k, e, h, post⟩ => by
  refine ⟨S, μ, ρ, _, x, k, e, h, fun S1 μ1 H1 vs ds k1 s1 r1 h1 => ⟨by rw [r1.length]; exact h1.1, fun p hp => ?_⟩⟩
  obtain ⟨k2, s2⟩ := k1.alloc (o := .lst vs) hp
  exact post _ _ _ _ _ k2 (s1.trans s2) (.lst upd_same (r1.mono s2.same)) h1.2
theorem def_op {op : Operator} {r : R2} {g : G2} (ho : OpR X (binaryOp op) r) (s : Snd2 X.K r g) (ha : DEF X d fs a fa) (hb : DEF X d fs b fb) : DEF X d fs (.BinOp a op b pos) (rOp g fa fb) := pe_imp (pe_op ho ha hb) fun σ H Q ⟨S, μ, ρ, R, x, k, e, h, post⟩ => by
  refine ⟨S, μ, ρ, _, x, k, e, h, fun S1 μ1 H1 v1 d1 k1 s1 r1 h1 => ?_⟩
  refine ⟨S1, μ1, ρ, _, x.mono s1.same, k1, e.mono s1.same, h1, fun S2 μ2 H2 v2 d2 k2 s2 r2 h2 => ?_⟩
  exact s S2 μ2 H2 v1 v2 d1 d2 R Q k2 (r1.mono s2.same) r2 h2 fun S3 μ3 H3 v d k3 s3 r3 h3 => post S3 μ3 H3 v d k3 ((s1.trans s2).trans s3) r3 h3
theorem def_add (ha : DEF X d fs a fa) (hb : DEF X d fs b fb) : DEF X d fs (.BinOp a .Add b pos) (rOp gAdd fa fb) := def_op (op_add.or (op_add_str.or (op_catA.or op_cat))) snd_add ha hb
theorem dtf_val (h : DEF X d fs a fa) (he : ∀ whole, isTrue a X.env whole = (do let v ← whole; standAt a.pos; holding [v] (truthy v)) := by intro _; rfl) : DTF X d fs a (rB fa) := pt_imp (pt_val h he) fun σ H Q ⟨S, μ, ρ, R, x, k, e, h, post⟩ => by
  refine ⟨S, μ, ρ, _, x, k, e, h, fun S1 μ1 H1 v1 d1 k1 s1 r1 h1 => ?_⟩
  cases d1 <;> first | exact False.elim h1 | skip
  exact ⟨_, r1.toBl, post S1 μ1 H1 _ k1 s1 h1⟩
theorem dtf_not (ha : DTF X d fs a ta) : DTF X d fs (.UnaryOp .Not a pos) (rNot ta) := pt_imp (pt_not ha) fun σ H Q ⟨S, μ, ρ, R, x, k, e, h, post⟩ =>
  ⟨S, μ, ρ, _, x, k, e, h, fun S1 μ1 H1 b1 k1 s1 h1 => post S1 μ1 H1 _ k1 s1 h1⟩
theorem dwf_or1 (ha : DTF X d fs a ta) : DWF X d fs (.BoolOp .Or [a] pos) ta := pw_or1 ha
theorem dwf_or (ha : DTF X d fs a ta) (hb : DWF X d fs (.BoolOp .Or (b :: rest) pos) tb) : DWF X d fs (.BoolOp .Or (a :: b :: rest) pos) (rOr ta tb) := pw_imp (pw_or ha hb) fun σ H Q ⟨S, μ, ρ, R, x, k, e, h, post⟩ => by
  refine ⟨S, μ, ρ, _, x, k, e, h, fun S1 μ1 H1 b1 k1 s1 h1 => ?_⟩
  cases b1 with
  | true => rw [if_pos rfl] at h1 ⊢; exact post S1 μ1 H1 _ k1 s1 h1
  | false => rw [if_neg Bool.false_ne_true] at h1 ⊢; exact ⟨S1, μ1, ρ, _, x.mono s1.same, k1, e.mono s1.same, h1, fun S2 μ2 H2 b2 k2 s2 h2 => post S2 μ2 H2 b2 k2 (s1.trans s2) h2⟩
theorem dtf_w (h : DWF X d fs a ta) : DTF X d fs a ta := PW.pt h
theorem dsf_ifF (hc : DTF X d fs c ft) (ha : DSsF X d fs as f) (hb : DSsF X d fs bs g) : DSF X d fs (.If c as bs pos) (rIf ft f g) := ps_imp (ps_if hc ha hb) fun D σ H ⟨S, μ, ρ, DD, x, k, e, h, l⟩ => by
  refine ⟨S, μ, ρ, _, x, k, e, h, fun S1 μ1 H1 b1 k1 s1 h1 => ?_⟩
  cases b1 with
  | true => rw [if_pos rfl] at h1 ⊢; exact ⟨S1, μ1, ρ, DD, x.mono s1.same, k1, e.mono s1.same, h1, l.stp s1⟩
  | false => rw [if_neg Bool.false_ne_true] at h1 ⊢; exact ⟨S1, μ1, ρ, DD, x.mono s1.same, k1, e.mono s1.same, h1, l.stp s1⟩
theorem dsf_set {i : Nat} {x : Str} {pos' : Pos} (hN : X.N.Nodup) (he : DEF X d fs e fe) (hi : X.N[i]? = some x := by rfl) (hx : Loc X.env.scope x := by first | exact Or.inl rfl | exact Or.inr rfl) (hs : swapsWith e (some (.Name x pos')) pos.line X.env = pure false := by rfl)
    (hf : X.fn x = true ∨ X.env.scope.names.lookup x = some .local := by first | exact .inl rfl | exact .inr rfl) : DSF X d fs (.Assign [.Name x pos'] e pos) (rAsg fe (rGN i)) := ps_imp (ps_set hN hi hx he hs hf) fun D σ H ⟨S, μ, ρ, DD, x, k, e, h, l⟩ =>
  ⟨S, μ, ρ, _, x, k, e, h, fun S1 μ1 H1 v d k1 s1 r1 q1 => l.nx S1 μ1 H1 _ _ k1 s1 ((e.mono s1.same).set r1 i) q1⟩
end
section
variable {X : Cx} {a Dc c : Addr} {oe : Obj} {d : Option Addr} {fs : List (Str × D)} {pn : List (Addr × Obj)} {x : Str} {e : Expr} {fe : RX} {b : Bool} {p p2 pos : Pos}
theorem XF.dict {K : PySem.W.Frag} {S H : Hp} {μ : MH} (hd : d = none ↔ fs = []) (x : XF K d fs S) (k : OK K S μ H) : ∀ dd, d = some dd → ∃ fs, H dd = some (.xd fs) := fun dd e => by
  rcases x with x | ⟨dd', vfs, e2, h1, _⟩
  · rw [hd.mpr x] at e; cases e
  · rw [e2] at e
    cases e
    exact ⟨vfs, k.sub _ _ h1⟩
theorem def_isE (hd2 : d = none ↔ fs = []) (hm : X.mg "isinstance" = none) (hg : Gl X "isinstance") (C : ExcC X.K Dc) (hz : Zc (.ref Dc) d oe) (hf : ∃ vs, oe.data = .fields vs) (gC : X.mg x = some (.ref c)) (hk : PySem.W.kitOne X.K (.ref Dc) (.ref c) = some b) (hgx : Gl X x)
    (ha : DE (X.suite a ((a, oe) :: pn)) e fe) (hd : (x == ("__debug__" : Str)) = false := by decide)
    (he : starEach [e, .Name x p2] X.env = (false, eval e X.env) :: starEach [.Name x p2] X.env := by rfl) (he2 : starEach [.Name x p2] X.env = (false, eval (.Name x p2) X.env) :: starEach [] X.env := by rfl) (hpl : (backTo pos (starEach [.Name x p2] X.env)).any (·.1) = false := by rfl) :
    DEF (X.suite a ((a, oe) :: pn)) d fs (.Call (.Name "isinstance" p) [e, .Name x p2] [] pos) (rIsEx a b fe) :=
  pe_imp (pe_callB (X := X.suite a ((a, oe) :: pn)) (call_isEd C hz hf) hg hm (by decide +kernel) (pa_cons ha (pa_cons (pe_glob (v := .ref c) hgx gC rfl hd) pa_nil he2) he) (by decide) (by decide) he hpl) fun σ H Q ⟨S, μ, ρ, R, y, k, e, h, post⟩ => by
    refine ⟨S, μ, ρ, _, k, e, h, fun S1 μ1 H1 v1 d1 k1 s1 r1 h1 => ?_⟩
    obtain ⟨rfl, h1⟩ := h1
    cases r1.toRef
    exact ⟨.ref c, .ref c, b, rfl, fun u ru => ru, hk, (y.mono s1.same).dict hd2 k1, post S1 μ1 H1 _ _ k1 s1 (.bl b) h1⟩
theorem def_isEV {n : String} (hd2 : d = none ↔ fs = []) (hm : X.mg "isinstance" = none) (hg : Gl X "isinstance") (C : ExcC X.K Dc) (hz : Zc (.ref Dc) d oe) (hf : ∃ vs, oe.data = .fields vs) (gC : X.mg x = none) (hv : bootBuiltins x = some (.type n)) (hk : PySem.W.kitOne X.K (.ref Dc) (.type n) = some b) (hgx : Gl X x)
    (ha : DE (X.suite a ((a, oe) :: pn)) e fe) (hd : (x == ("__debug__" : Str)) = false := by decide) (hn : x ≠ "__name__" := by decide)
    (he : starEach [e, .Name x p2] X.env = (false, eval e X.env) :: starEach [.Name x p2] X.env := by rfl) (he2 : starEach [.Name x p2] X.env = (false, eval (.Name x p2) X.env) :: starEach [] X.env := by rfl) (hpl : (backTo pos (starEach [.Name x p2] X.env)).any (·.1) = false := by rfl) :
    DEF (X.suite a ((a, oe) :: pn)) d fs (.Call (.Name "isinstance" p) [e, .Name x p2] [] pos) (rIsEx a b fe) :=
  pe_imp (pe_callB (X := X.suite a ((a, oe) :: pn)) (call_isEd C hz hf) hg hm (by decide +kernel) (pa_cons ha (pa_cons (de_ty (X := X.suite a ((a, oe) :: pn)) hgx gC hv hn hd) pa_nil he2) he) (by decide) (by decide) he hpl) fun σ H Q ⟨S, μ, ρ, R, y, k, e, h, post⟩ => by
    refine ⟨S, μ, ρ, _, k, e, h, fun S1 μ1 H1 v1 d1 k1 s1 r1 h1 => ?_⟩
    obtain ⟨rfl, h1⟩ := h1
    cases r1.toRef
    refine ⟨S1, μ1, ρ, fun d μ' => d = .ty n ∧ μ' = μ1, k1, e.mono s1.same, ⟨rfl, rfl⟩, fun S2 μ2 H2 v d k2 s2 r2 h2 => ?_⟩
    obtain ⟨rfl, rfl⟩ := h2
    have ev : v = .ty n := by cases r2; rfl
    subst ev
    exact ⟨.ty n, .type n, b, rfl, fun u ru => ru, hk, (y.mono (s1.same.trans s2.same)).dict hd2 k2, post S2 μ2 H2 _ _ k2 (s1.trans s2) (.bl b) h1⟩
end
end L3

/-! ## L3y -/
set_option Elab.async false
set_option linter.all false
set_option maxRecDepth 100000
set_option maxHeartbeats 4000000
/-! The head's look at classes of errors with attributes. -/
namespace L3
open PySem PySem.Spec PyProof.Rows L2









/-- what the head says of the class -/
structure GotY (P : Program) (K : PySem.W.Frag) (mg : Str → Option Value) (d : FnY) : Prop where
  lk : ∃ oc od osl kV doc pm an cd ct, K.lookup (d.f K) = some ⟨oc, od, .func (PySem.W.ksFn "__init__" d.qual d.params d.body d.scope .none kV doc pm an cd ct (cellOf K (d.f K))), osl⟩ ∧ PySem.W.codeIn K cd d.qual = true ∧ SupK P K mg (d.f K) (cellOf K (d.f K)) (d.C K) cd "self"
  init : PySem.W.findIn K (.ref (d.C K)) "__init__" = some (some (.ref (d.f K)))
  typ : PySem.W.typeIn K (.ref (d.f K)) = some (.type "function")
  no : ∀ n ∈ d.names, PySem.W.findIn K (.ref (d.C K)) n = some none
theorem GotY.binds {P : Program} {K : PySem.W.Frag} {mg : Str → Option Value} {d : FnY} {ps : List Str} {kV doc pm cd ct : Value} {an : Option Addr} {cc : Addr}
    (h : ∀ us : List Value, us.length = ps.length → bindArgs (PySem.W.ksFn "__init__" d.qual d.params d.body d.scope .none kV doc pm an cd ct cc) ⟨us, []⟩ = pure (ps.zip us)) : L2.Binds K (PySem.W.ksFn "__init__" d.qual d.params d.body d.scope .none kV doc pm an cd ct cc) ps [] := .all h
/-! ### what the module's names reach, each once: the seen addresses are the bits of a number -/






/-! ### the hook with such classes -/







/-! ### what is told of errors -/


structure ErrA (K : PySem.W.Frag) (C CE : Addr) (gx : Str → Addr) (m : Nat) : Prop where
  k : ErrK K C CE gx m
  xf : XfC K C
  no : ∀ f ∈ attrAll, PySem.W.findIn K (.ref C) f = some none
theorem ErrA.at {K : PySem.W.Frag} {C CE : Addr} {gx : Str → Addr} {m : Nat} (e : ErrA K C CE gx m) (f : Str) (h : f ∈ attrAll) : XfA K C f := ⟨e.xf, e.no f h⟩

theorem errAB_ok {K : PySem.W.Frag} {C CE : Addr} {gx : Str → Addr} {m : Nat} (h : errAB K C CE gx m = true) : ErrA K C CE gx m := by
  unfold errAB at h
  simp only [Bool.and_eq_true, List.all_eq_true, decide_eq_true_eq] at h
  exact ⟨errB_ok h.1, xfB_ok h.2.1, h.2.2⟩
end L3

/-! ## L4h -/
set_option Elab.async false
set_option linter.all false
/-! The head's run in three looks, joined. -/
namespace L3
open PySem PySem.W PySem.Spec PyProof.Rows L2





end L3

/-! ## L3z -/
set_option Elab.async false
set_option linter.all false
set_option maxRecDepth 100000
set_option maxHeartbeats 4000000
/-! list(range(..)), o[i] by an own __getitem__, x not in a list, == with what is of another kind. -/
theorem L2.Room.u65 {k : Nat} {A : PySem.Around} (r : L2.Room k A) : A.units + 65 < PySem.cLine := by have := r.un; omega
namespace L3
open PySem PySem.Spec PyProof.Rows L2
def rLRg2 (fa fb : RX) : RX := fun ρ μ R => fa ρ μ fun x μ1 => fb ρ μ1 fun y μ2 => match x, y with
  | .int i, .int j => RgOk i j ∧ R (.lst (rangeD i (j - i).toNat)) μ2
  | _, _ => False
theorem reps_rg {K : PySem.W.Frag} {S : Hp} : ∀ (n : Nat) (lo : Int), Reps K S ((List.range n).map fun i => V.int (lo + (i : Nat))) (rangeD lo n)
  | 0, _ => .nil
  | n + 1, lo => by
    rw [List.range_succ_eq_map, List.map_cons, List.map_map]
    show Reps K S _ (.int lo :: rangeD (lo + 1) n)
    have e : V.int (lo + ((0 : Nat) : Int)) = V.int lo := by simp
    rw [e]
    refine .cons (.int lo) ?_
    have z := reps_rg (K := K) (S := S) n (lo + 1)
    have e2 : ((List.range n).map fun i => V.int (lo + 1 + (i : Nat))) = (List.range n).map ((fun i : Nat => V.int (lo + (i : Nat))) ∘ Nat.succ) := by
      refine List.map_congr_left fun i _ => ?_
      show V.int _ = V.int _
      congr 1
      simp only [Nat.succ_eq_add_one, Int.natCast_add]
      omega
    rw [e2] at z
    exact z
section
variable {X : Cx} {a b : Expr} {fa fb : RX} {p p2 rpos pos : Pos}
theorem de_listRg2 (hg : Gl X "range") (hm : X.mg "range" = none) (hg2 : Gl X "list") (hm2 : X.mg "list" = none) (ha : DE X a fa) (hb : DE X b fb) (hc : X.calm = true := by rfl) (na : starEach [a, b] X.env = (false, eval a X.env) :: starEach [b] X.env := by rfl)
    (nb0 : starEach [b] X.env = (false, eval b X.env) :: starEach [] X.env := by rfl) (hp : (backTo rpos (starEach [b] X.env)).any (·.1) = false := by rfl)
    (nb : starEach [.Call (.Name "range" p2) [a, b] [] rpos] X.env = (false, eval (.Call (.Name "range" p2) [a, b] [] rpos) X.env) :: starEach [] X.env := by rfl) : DE X (.Call (.Name "list" p) [.Call (.Name "range" p2) [a, b] [] rpos] [] pos) (rLRg2 fa fb) :=
  pe_imp (pe_listRg hc hg2 hm2 (prg_2 hg hm ha hb na nb0 hp) nb) fun σ H Q ⟨S, μ, ρ, R, k, e, h, post⟩ => by
  refine ⟨S, μ, ρ, _, k, e, h, fun S1 μ1 H1 v d k1 s1 r1 h1 => ?_⟩
  refine ⟨S1, μ1, ρ, _, k1, e.mono s1.same, h1, fun S2 μ2 H2 v2 d2 k2 s2 r2 h2 => ?_⟩
  cases d <;> cases d2 <;> first | exact False.elim h2 | skip
  rename_i i j
  cases r1.toInt
  cases r2.toInt
  obtain ⟨ok, h2⟩ := h2
  refine ⟨i, j, rfl, rfl, ok, fun q hq => ?_⟩
  obtain ⟨k3, s3⟩ := k2.alloc (o := .lst (rgV i j)) hq
  exact post _ _ _ _ _ k3 ((s1.trans s2).trans s3) (.lst upd_same (reps_rg (K := X.K) (S := upd S2 q (.lst (rgV i j))) (j - i).toNat i)) h2
/-- o[i] by the own __getitem__ of C -/
def gOwnI (C : Addr) (s : GN) : G2 := fun x y μ R => (insD μ x).map (·.1) = some C ∧ s [x, y] μ R
theorem de_ixO {k : Nat} {C g : Addr} {s : GN} (F : MtG X.prog X.w X.K X.mg X.base k C g s) (hr : Room (k + 1) X.A) (hs : PySem.W.findIn X.K (.ref C) "__getitem__" = some (some (.ref g))) (hf : PySem.W.isFn X.K (.ref g) = true) (hfi : PySem.W.fnIn X.K g = true)
    (ha : DE X a fa) (hb : DE X b fb) (hsl : ∀ o i, subscripted b true o i = runValue (.builtin "lifetime.subscript" ⟨[o, i], []⟩) := by intro o i; with_unfolding_all rfl) : DE X (.Subscript a b pos) (rOp (gOwnI C s) fa fb) := by
  have P : PE X (.Subscript a b pos) (tOp (fun x y H Q => ∃ p dx fs, x = .ref p ∧ H p = some (.ins C dx fs) ∧ spD X.K s [x, y] H Q E0) (up X.K fa) (up X.K fb)) := by
    refine ⟨fun pins s0 σ H Q I h => Subscript_ (binT ha hb I h fun v u s2 x y H2 I2 rx ry q => ?_)⟩
    obtain ⟨p, dx, fs, rfl, h1, hsp⟩ := q
    obtain ⟨mA, O, _⟩ := ins_get I2.hok h1
    obtain ⟨od, J, _⟩ := O.look
    obtain ⟨m, hF⟩ := I2.fr
    cases rx
    refine PySem.W.sub_K hF I2.ok.mod.kin J hs hfi hf ?_ (hsl _ _)
    refine wpAny_mono (Q := EP X pins σ Q) (wpAny_call (codeAny_mono (F.raw X.A.in1 X.stack s2 H2 [.ref p, u] [V.ref p, y] Q E0 hr.in1 I2.env0.in1 (.cons rfl (.cons ry .nil)) hsp) fun r s' hq => ?_)) (fun _ _ z => z) fun _ _ z => z
    cases r with
    | error e => exact pass0 pins σ H2 s2 e s' I2 hq
    | ok fl =>
      cases fl with
      | ret u => exact I2.after hq
      | next => exact hq.elim
      | brk => exact hq.elim
      | cont => exact hq.elim
  refine pe_imp P (up_op ?_)
  intro S μ H x y dx dy R Q k rx ry q post
  obtain ⟨e1, q⟩ := q
  obtain ⟨a, da, va, rfl, h1⟩ := insC_rep k rx e1
  exact ⟨a, da, va, rfl, h1, S, μ, [dx, dy], R, k, .cons rx (.cons ry .nil), q, post⟩
end
/-! ### == with what is of another kind -/
section
variable {X : Cx} {k : Nat} {C g : Addr} {okc : Addr → Prop} {s : GN} {a b : Expr} {fa fb : RX} {pos : Pos}
end
/-! ### a list or a tuple walked -/
def iSeqX (K : PySem.W.Frag) (tl : TE) : TI := fun σ H R => tl σ H fun x H1 => ∃ a, x = .ref a ∧ (((∃ xs, SqL K H1 a xs) ∧ R (Itl K a) H1) ∨ ((∃ xs, SqT K H1 a xs) ∧ R (Itt K a) H1))
theorem pi_seq {X : Cx} {tg l : Expr} {tl : TE} (hl : PE X l tl) : PI X tg l (iSeqX X.K tl) := by
  refine ⟨fun pins s σ H R I h => ?_⟩
  refine thn (hl.run pins s σ H _ I h) fun v s1 ⟨x, H1, I1, r1, q1⟩ => ?_
  obtain ⟨a, e, q⟩ := q1
  subst e
  cases r1
  rcases q with ⟨⟨xs, hq⟩, q⟩ | ⟨⟨xs, hq⟩, q⟩
  · obtain ⟨its, rv, p, hz⟩ := I1.list hq
    refine wpAny_pyIter_list p.isList ?_
    refine ⟨s1.heap.objs.size, [s1.heap.objs.size], _, _, H1, rfl, I1.kept (t' := s1.toks) fun b o e => Heap.get?_push_of_some _ e, turn_list a _, ⟨_, Heap.get?_push_size _ rfl, rfl, rfl⟩, fun b hb => ?_, q⟩
    have e : b = s1.heap.objs.size := by simpa using hb
    subst e
    exact I1.fpOk (Nat.le_refl _) (I1.hok.fresh (Nat.le_refl _))
  · obtain ⟨its, rv, p, hz⟩ := I1.tuple hq
    refine wpAny_pyIter_tuple (show s1.heap.IsTuple a its.toArray from p) ?_
    refine ⟨s1.heap.objs.size, [s1.heap.objs.size], _, _, H1, rfl, I1.kept (t' := s1.toks) fun b o e => Heap.get?_push_of_some _ e, turn_tuple a _, ⟨_, Heap.get?_push_size _ rfl, rfl, rfl⟩, fun b hb => ?_, q⟩
    have e : b = s1.heap.objs.size := by simpa using hb
    subst e
    exact I1.fpOk (Nat.le_refl _) (I1.hok.fresh (Nat.le_refl _))
def rISeq (f : RX) : RI := fun ρ μ R => f ρ μ fun d μ1 => match d with
  | .lst ds => R ds tru μ1
  | .scr ds => R ds tru μ1
  | .tup ds => R ds tru μ1
  | .ref p => (match μ1 p with
    | some (.lst ds) => R ds (fun μ => μ p = some (.lst ds)) μ1
    | _ => False)
  | _ => False
theorem di_seq {X : Cx} {tg e : Expr} {fe : RX} (h : DE X e fe) : DI X tg e (rISeq fe) := pi_imp (pi_seq h) fun σ H R ⟨S, μ, ρ, RR, k, e, h, post⟩ => by
  refine ⟨S, μ, ρ, _, k, e, h, fun S1 μ1 H1 v d k1 s1 r1 q1 => ?_⟩
  cases d with
  | lst ds =>
    cases r1 with
    | lst a r =>
      exact ⟨_, rfl, .inl ⟨⟨_, .of (k1.sub _ _ a)⟩, post S1 μ1 H1 _ ds tru k1 s1 (itok_list (vs := []) fun S2 μ2 H2 k2 e2 _ => ⟨_, .of (k2.sub _ _ (e2 _ _ a)), r.mono e2⟩) q1⟩⟩
  | scr ds =>
    cases r1 with
    | scr a r =>
      exact ⟨_, rfl, .inl ⟨⟨_, sqL_same k1.sub a⟩, post S1 μ1 H1 _ ds tru k1 s1 (itok_list (vs := []) fun S2 μ2 H2 k2 e2 _ => ⟨_, sqL_same k2.sub (sqL_same e2 a), r.mono e2⟩) q1⟩⟩
  | tup ds =>
    obtain ⟨a, vs, rfl, h2, r2⟩ := r1.toTup
    exact ⟨a, rfl, .inr ⟨⟨vs, sqT_same k1.sub h2⟩, post S1 μ1 H1 _ ds tru k1 s1 (itok_tup h2 r2) q1⟩⟩
  | ref p =>
    cases r1.toRef
    cases q : μ1 p with
    | none =>
      have q1 : (match μ1 p with | some (.lst ds) => RR ds (fun μ => μ p = some (.lst ds)) μ1 | _ => False) := q1
      rw [q] at q1; exact q1.elim
    | some m =>
      have q1 : (match μ1 p with | some (.lst ds) => RR ds (fun μ => μ p = some (.lst ds)) μ1 | _ => False) := q1
      rw [q] at q1
      cases m with
      | ins _ _ => exact q1.elim
      | tab _ => exact q1.elim
      | dk _ => exact q1.elim
      | dct _ _ => exact q1.elim
      | dkl _ _ _ => exact q1.elim
      | lst ds =>
        obtain ⟨_, vs, h2, r2⟩ := k1.mts p _ q
        exact ⟨p, rfl, .inl ⟨⟨vs, .of h2⟩, post S1 μ1 H1 _ ds _ k1 s1 (itok_list (vs := []) fun S2 μ2 H2 k2 e2 c2 => by
          obtain ⟨_, vs', h3, r3⟩ := k2.mts p _ c2
          exact ⟨vs', .of h3, r3⟩) q1⟩⟩
  | _ => exact False.elim q1
end L3

/-! ## L4a -/
set_option Elab.async false
set_option linter.all false
set_option maxRecDepth 100000
set_option maxHeartbeats 4000000
/-! == of two tuples of instances with an own __eq__. -/
namespace L3
open PySem PySem.Spec PyProof.Rows L2
section
variable {prog : Program} {w : World} {A : Around} {R : Result → Shared → Prop} {E : Value → Shared → Prop} {s : Shared}
end
/-! ### over data -/
section
variable {X : Cx} {k : Nat} {C g : Addr} {s : GN} {a b : Expr} {fa fb : RX} {pos : Pos}
end
/-! ### what one object holds -/
end L3

/-! ## L4b -/
set_option Elab.async false
set_option linter.all false
set_option maxRecDepth 100000
set_option maxHeartbeats 4000000
/-! Instances made, own operators and calls of instances that may raise. -/
namespace L3
open PySem PySem.Spec PyProof.Rows L2 StX
section
variable {K : PySem.W.Frag} {S H : Hp} {μ : MH} {C : Addr} {s : GX}
end
structure MkGX (P : Program) (w : World) (K : PySem.W.Frag) (mg : Str → Option Value) (base : Heap) (k : Nat) (x : Str) (C : Addr) (s : GX) : Prop where
  ex : ∃ f fd ps, FnOk P w K mg base (L2.CX P w) k f fd ps (spX K s) ∧ mg x = some (.ref C) ∧ Mk K C f ∧ Binds K fd ps []
structure MkKX (P : Program) (w : World) (K : PySem.W.Frag) (mg : Str → Option Value) (base : Heap) (k : Nat) (x : Str) (C : Addr) (s : GX) (n : Nat) (ks : List Str) (gD : List D → List D → List D) : Prop where
  ex : ∃ f fd ps g gV, FnOk P w K mg base (L2.CX P w) k f fd ps (spX K s) ∧ mg x = some (.ref C) ∧ Mk K C f ∧ KBn K fd ps (n + 1) ks g gV ∧
    ∀ (y : V) (b : D) (vs zs : List V) (ds es : List D) (S : Hp), Rep K S y b → Reps K S vs ds → Reps K S zs es → Reps K S (gV (y :: vs) zs) (b :: gD ds es)
structure MkDX (P : Program) (w : World) (K : PySem.W.Frag) (mg : Str → Option Value) (base : Heap) (k : Nat) (x : Str) (C : Addr) (s : GX) (dd : List D) : Prop where
  ex : ∃ f fd ps ds dvs, FnOk P w K mg base (L2.CX P w) k f fd ps (spX K s) ∧ mg x = some (.ref C) ∧ Mk K C f ∧ Binds K fd ps ds ∧ Vals dvs ds ∧ ∀ S, Reps K S dvs dd
structure MkSX (P : Program) (w : World) (K : PySem.W.Frag) (mg : Str → Option Value) (base : Heap) (k : Nat) (x : Str) (C : Addr) (s : GX) : Prop where
  ex : ∃ f, FnR P w K mg base (L2.CX P w) k f (starSp (spX K s)) ∧ mg x = some (.ref C) ∧ Mk K C f
section
variable {X : Cx} {W : WX} {k n m : Nat} {C : Addr} {x : Str} {s : GX} {ks : List Str} {gD : List D → List D → List D} {dd : List D} {e : Expr} {es : List Expr} {kws : List Keyword} {fe : RX} {fa fk : RA} {p pos sp_ : Pos}
end
section
variable {P : Program} {w : World} {K : PySem.W.Frag} {mg : Str → Option Value} {base : Heap}
end
/-! ### own operators and calls of instances -/
theorem MtGX.raw {P : Program} {w : World} {K : PySem.W.Frag} {mg : Str → Option Value} {base : Heap} {k : Nat} {C f : Addr} {s : GX} (F : MtGX P w K mg base k C f s) : FnR P w K mg base (L2.CX P w) k f (spX K s) := by
  obtain ⟨fd, ps, a, b⟩ := F.ex
  have z := a.raw b (dvs := []) .nil
  simp only [List.append_nil] at z
  exact z
section
variable {X : Cx} {W : WX} {k : Nat} {C g : Addr} {s : GX} {a b o e : Expr} {es : List Expr} {fa fb fo : RX} {fes : RA} {pos : Pos}
end
end L3

/-! ## L7b -/
set_option Elab.async false
set_option linter.all false
set_option maxRecDepth 100000
set_option maxHeartbeats 4000000
/-! x not in a list of instances with an own __eq__. -/
namespace L3
open PySem PySem.Spec PyProof.Rows L2
open AutoSeq1 (wpAny_loadPart')
open MeetsSeq MeetsSeq2 MeetsSeq3 SeqRoads2 SeqAt
section
variable {prog : Program} {w : World} {A : Around} {R : Result → Shared → Prop} {E : Value → Shared → Prop}
end
section
variable {X : Cx} {k : Nat} {C g : Addr} {s : GN} {a b : Expr} {fa fb : RX} {pos : Pos}
end
end L3

/-! ## L8a -/
set_option Elab.async false
set_option linter.all false
set_option maxRecDepth 100000
set_option maxHeartbeats 4000000
/-! sorted(xs, key=lambda p: (p[0] * (sc // p[2]), p[1] * (sc // p[2]))): spots in the order of their places. -/
namespace L3
open PySem PySem.Spec PySem.Calls PyProof.Rows L2
/-! ### expressions of ints that change nothing -/
/-- what the lambda's body sees: the spot at a, the scale in the cell c -/
structure KeyI (env : Env) (p : Str) (a c : Addr) (x y d S : Int) (h : Heap) : Prop where
  loc : ∃ m, h.Ns env.locals m ∧ m p = some (.ref a)
  tup : ∃ t1 t2 t3, IsTup h a #[.int x t1, .int y t2, .int d t3]
  cell : ∃ t, h.IsCell c (some (.int S t))
section
variable {prog : Program} {w : World} {A : Around} {env : Env} {p sc : Str} {a c : Addr} {x y d S : Int} {e1 e2 : Expr} {n m : Int} {pos p1 p2 : Pos} {k : Nat}
end
/-! ### the key of a spot -/
/-- the scope of the lambda -/
structure KeySc (p sc : Str) (scope : Scope) : Prop where
  kind : scope.kind = .function
  co : scope.isCoroutine = false
  gen : scope.isGenerator = false
  nc : ∀ y ∈ scope.names, y.2 ≠ .cell
  pl : scope.names.lookup p = some .local
  fr : scope.names.lookup sc = some .free
  all : ∀ y ∈ scope.names, y.2 = .free → y.1 = sc
/-! ### the lambda is called -/
section
variable {prog : Program} {w : World} {A : Around} {p sc qual : Str} {params : Arguments} {body : Expr} {scope : Scope} {cl : List (Str × Addr)} {pm ctv : Value} {f c' a c : Addr} {x y d S : Int} {s : Shared} {E : Value → Shared → Prop}
end
/-! ### sorted(xs, key=lambda ..) -/
section
variable {X : Cx} {i j k : Nat} {xs sc p : Str} {c Pt : Addr} {params : Arguments} {body : Expr} {scope : Scope} {p1 p2 lpos pos kpos : Pos}
end
/-! ### over data -/
section
variable {X : Cx} {i j k : Nat} {xs sc p : Str} {c Pt : Addr} {params : Arguments} {body : Expr} {scope : Scope} {p1 p2 lpos pos kpos : Pos}
end
end L3
namespace L3
open PySem PySem.Spec PySem.Calls PyProof.Rows L2
end L3

/-! ## L8b -/
set_option Elab.async false
set_option linter.all false
set_option maxRecDepth 100000
set_option maxHeartbeats 4000000
/-! The head and the end of a law whose lambda is the one of "ascending". -/
namespace L3
open PySem PySem.Spec PyProof.Rows L2
section
variable {P : Program} {w : World} {K : PySem.W.Frag} {mg : Str → Option Value} {base : Heap}
end
end L3

/-! ## L3u -/
set_option Elab.async false
set_option linter.all false
set_option maxRecDepth 100000
set_option maxHeartbeats 4000000
/-! max, min of two ints; a list many times. -/
namespace L3
open PySem PySem.Spec PyProof.Rows L2
section
variable {K : PySem.W.Frag} {X : Cx}
/-- xs * n -/
def repD (ds : List L3.D) (n : Nat) : List L3.D := (List.replicate n ds).flatten
def gRep : G2 := fun x y μ R => match res μ x, y with
  | .lst ds, .int n => -(2 ^ 62) ≤ n ∧ n < 2 ^ 62 ∧ ds.length * n.toNat ≤ sizeLine ∧ R (.lst (repD ds n.toNat)) μ
  | _, _ => False
theorem reps_rep {S : Hp} {vs : List V} {ds : List L3.D} (r : Reps K S vs ds) : ∀ n : Nat, Reps K S (List.replicate n vs).flatten (repD ds n)
  | 0 => .nil
  | n + 1 => by
    unfold repD
    rw [List.replicate_succ, List.replicate_succ, List.flatten_cons, List.flatten_cons]
    exact r.append (reps_rep r n)
theorem snd_rep : Snd2 K rRep gRep := by
  intro S μ H x y dx dy R Q k rx ry q post
  unfold gRep at q
  cases e1 : res μ dx <;> rw [e1] at q <;> first | exact False.elim q | skip
  rename_i ds
  cases dy <;> first | exact False.elim q | skip
  rename_i n
  obtain ⟨n1, n2, n3, q⟩ := q
  obtain ⟨a, vs, rfl, h1, r1⟩ := res_lst k rx e1
  cases ry.toInt
  refine ⟨a, n, vs, rfl, rfl, h1, by omega, by omega, by rw [r1.length]; exact n3, fun p hp => ?_⟩
  obtain ⟨k2, s2⟩ := k.alloc (o := .lst (List.replicate n.toNat vs).flatten) hp
  exact post _ _ _ _ _ k2 s2 (.lst upd_same ((reps_rep r1 _).mono s2.same)) q
theorem de_rep {a b : Expr} {fa fb : RX} {pos : Pos} (ha : DE X a fa) (hb : DE X b fb) : DE X (.BinOp a .Mult b pos) (rOp gRep fa fb) := de_op op_rep snd_rep ha hb
theorem dt_chain_lt_lt {a b c : Expr} {fa fb fc : RX} {pos : Pos} (ha : DE X a fa) (hb : DE X b fb) (hc : DE X c fc) (hm : lastMarks [.Lt, .Lt] [b, c] = false := by with_unfolding_all rfl) : DT X (.Compare a [.Lt, .Lt] [b, c] pos) (rB (rChain gLt gLt fa fb fc)) :=
  dt_chain op_lt op_lt (snd_I0 fun i j S => .bl _) (snd_I0 fun i j S => .bl _) ha hb hc hm
/-- x(e, .., *y) -/
theorem de_callS2 {k : Nat} {x : Str} {s : GN} {e : Expr} {es : List Expr} {fa : RA} {p pos : Pos} (F : FnG X.prog X.w X.K X.mg X.base k x s) (hr : Room k X.A) (hg : Gl X x) (ha : DA X (e :: es) fa) (hdb : (x == ("__debug__" : Str)) = false := by decide)
    (he : starEach (e :: es) X.env = (false, eval e X.env) :: starEach es X.env := by rfl) (hst : (backTo pos (starEach es X.env)).any (·.1) = true := by rfl) : DE X (.Call (.Name x p) (e :: es) [] pos) (rCl s fa) := by
  obtain ⟨f, a, b, c⟩ := F.raw
  refine pe_imp (StX.pe_callS2 a hr c hg b pass0 ha hdb he hst) fun σ H Q ⟨S, μ, ρ, R, k, e, h, post⟩ => ?_
  refine ⟨S, μ, ρ, _, k, e, h, fun S1 μ1 H1 vs ds k1 s1 r1 h1 => ?_⟩
  exact ⟨S1, μ1, ds, R, k1, r1, h1, fun S3 μ3 H3 v d k3 s3 r3 h3 => post S3 μ3 H3 v d k3 (s1.trans s3) r3 h3⟩
end
end L3

/-! ## NM -/
set_option maxHeartbeats 1000000
set_option linter.all false
/-! Numbers of two parts: lowest terms, sums, products, by their values in Rat. Plain Lean. -/
namespace NM

structure Num where
  x : Int
  y : Int
  d : Int
  deriving DecidableEq

def gz (a b : Int) : Int := ((Int.gcd a b : Nat) : Int)
/-- the program's: sign * v // g -/
def low (x y d : Int) : Num :=
  let g := gz (gz x y) d
  let s : Int := if 0 < d then 1 else -1
  ⟨(s * x).fdiv g, (s * y).fdiv g, (s * d).fdiv g⟩
/-- the law's: v // (+-g) -/
def lowL (x y d : Int) : Num :=
  let g := gz (gz x y) d
  let g2 := if 0 < d then g else 0 - g
  ⟨x.fdiv g2, y.fdiv g2, d.fdiv g2⟩
/-- in lowest terms, d positive -/
def Can (z : Num) : Prop := 0 < z.d ∧ gz (gz z.x z.y) z.d = 1

theorem gz_dl (a b : Int) : gz a b ∣ a := Int.gcd_dvd_left ..
theorem gz_dr (a b : Int) : gz a b ∣ b := Int.gcd_dvd_right ..
theorem gz_pos {a b : Int} (h : b ≠ 0) : 0 < gz a b := by
  have : Int.gcd a b ≠ 0 := fun e => h (Int.gcd_eq_zero_iff.mp e).2
  unfold gz; omega
theorem dvd_gz {k a b : Int} (h1 : k ∣ a) (h2 : k ∣ b) : k ∣ gz a b := Int.dvd_coe_gcd h1 h2
theorem g3_x (x y d : Int) : gz (gz x y) d ∣ x := Int.dvd_trans (gz_dl _ _) (gz_dl _ _)
theorem g3_y (x y d : Int) : gz (gz x y) d ∣ y := Int.dvd_trans (gz_dl _ _) (gz_dr _ _)
theorem g3_d (x y d : Int) : gz (gz x y) d ∣ d := gz_dr _ _
theorem fdiv_mul' {g k : Int} (h : g ≠ 0) : (g * k).fdiv g = k := by
  rw [Int.fdiv_eq_ediv_of_dvd (Int.dvd_mul_right ..)]
  exact Int.mul_ediv_cancel_left _ h
/-- low as a quotient: v = k * part -/
theorem gz_mul_g (s v : Int) : ∀ k l, s = gz s v * k → v = gz s v * l → 0 < gz s v → Nat.Coprime k.natAbs l.natAbs := by
  intro k l hk hl hg
  have e : Int.gcd (gz s v * k) (gz s v * l) = (gz s v).natAbs * Int.gcd k l := Int.gcd_mul_left ..
  rw [← hk, ← hl] at e
  have e2 : (gz s v).natAbs = Int.gcd s v := by unfold gz; exact Int.natAbs_natCast _
  rw [e2] at e
  have pos : 0 < Int.gcd s v := by rw [← e2]; omega
  have : Int.gcd s v * 1 = Int.gcd s v * Int.gcd k l := by rw [Nat.mul_one]; exact e
  exact (Nat.eq_of_mul_eq_mul_left pos this).symm
theorem low_spec {x y d : Int} (h : d ≠ 0) : ∃ k : Int, k ≠ 0 ∧ x = k * (low x y d).x ∧ y = k * (low x y d).y ∧ d = k * (low x y d).d ∧ 0 < (low x y d).d ∧ k.natAbs = (gz (gz x y) d).natAbs := by
  have hg : 0 < gz (gz x y) d := gz_pos h
  obtain ⟨a, ha⟩ := g3_x x y d
  obtain ⟨b, hb⟩ := g3_y x y d
  obtain ⟨c, hc⟩ := g3_d x y d
  have hgn : gz (gz x y) d ≠ 0 := by omega
  unfold low
  generalize gz (gz x y) d = g at *
  by_cases hd : 0 < d
  · simp only [if_pos hd]
    refine ⟨g, hgn, ?_, ?_, ?_, ?_, rfl⟩
    · rw [Int.one_mul, ha, fdiv_mul' hgn]
    · rw [Int.one_mul, hb, fdiv_mul' hgn]
    · rw [Int.one_mul, hc, fdiv_mul' hgn]
    · rw [Int.one_mul, hc, fdiv_mul' hgn]
      rw [hc] at hd
      exact Int.pos_of_mul_pos_right hd hg
  · simp only [if_neg hd]
    refine ⟨-g, by omega, ?_, ?_, ?_, ?_, by omega⟩
    · rw [ha, show -1 * (g * a) = g * (-a) by grind, fdiv_mul' hgn]; grind
    · rw [hb, show -1 * (g * b) = g * (-b) by grind, fdiv_mul' hgn]; grind
    · rw [hc, show -1 * (g * c) = g * (-c) by grind, fdiv_mul' hgn]; grind
    · rw [hc, show -1 * (g * c) = g * (-c) by grind, fdiv_mul' hgn]
      have : 0 < g * (-c) := by rw [hc] at hd h; grind
      exact Int.pos_of_mul_pos_right this hg
theorem low_can {x y d : Int} (h : d ≠ 0) : Can (low x y d) := by
  obtain ⟨k, hk, ex, ey, ed, hp, hkg⟩ := low_spec (x := x) (y := y) h
  refine ⟨hp, ?_⟩
  generalize low x y d = z at *
  -- k * g' divides all, so it divides g
  have h1 : k * gz (gz z.x z.y) z.d ∣ gz (gz x y) d := by
    refine dvd_gz (dvd_gz ?_ ?_) ?_
    · rw [ex]; exact Int.mul_dvd_mul_left _ (g3_x ..)
    · rw [ey]; exact Int.mul_dvd_mul_left _ (g3_y ..)
    · rw [ed]; exact Int.mul_dvd_mul_left _ (g3_d ..)
  have hg' : 0 < gz (gz z.x z.y) z.d := gz_pos (by omega)
  have h2 := Int.natAbs_dvd_natAbs.mpr h1
  rw [Int.natAbs_mul, ← hkg] at h2
  have hk' : 0 < k.natAbs := by omega
  have h3 : (gz (gz z.x z.y) z.d).natAbs ∣ 1 := by
    obtain ⟨c, hc⟩ := h2
    refine ⟨c, ?_⟩
    have : k.natAbs * 1 = k.natAbs * ((gz (gz z.x z.y) z.d).natAbs * c) := by rw [Nat.mul_one, ← Nat.mul_assoc]; exact hc
    exact Nat.eq_of_mul_eq_mul_left hk' this
  have h4 := Nat.dvd_one.mp h3
  omega
/-- two canonical numbers of one value are one -/
theorem can_ext {a b : Num} (ha : Can a) (hb : Can b) (h1 : a.x * b.d = b.x * a.d) (h2 : a.y * b.d = b.y * a.d) : a = b := by
  obtain ⟨pa, ga⟩ := ha
  obtain ⟨pb, gb⟩ := hb
  -- a.d divides b.d: a.d divides b.d * a.x, b.d * a.y, b.d * a.d
  have key : ∀ (p q : Num), 0 < p.d → gz (gz p.x p.y) p.d = 1 → p.x * q.d = q.x * p.d → p.y * q.d = q.y * p.d → p.d ∣ q.d := by
    intro p q pp gp e1 e2
    have d1 : p.d ∣ p.x * q.d := ⟨q.x, by rw [e1]; exact Int.mul_comm ..⟩
    have d2 : p.d ∣ p.y * q.d := ⟨q.y, by rw [e2]; exact Int.mul_comm ..⟩
    have d3 : p.d ∣ p.d * q.d := ⟨q.d, rfl⟩
    have e : ((Int.gcd (((Int.gcd p.x p.y : Nat) : Int)) p.d : Nat) : Int) = 1 := gp
    have e' : Int.gcd (((Int.gcd p.x p.y : Nat) : Int)) p.d = 1 := by omega
    have m1 : p.d ∣ ((Int.gcd (p.x * q.d) (p.y * q.d) : Nat) : Int) := Int.dvd_coe_gcd d1 d2
    rw [Int.gcd_mul_right] at m1
    have m2 : p.d ∣ ((Int.gcd p.x p.y : Nat) : Int) * q.d := by
      have : (((Int.gcd p.x p.y) * q.d.natAbs : Nat) : Int) = ((Int.gcd p.x p.y : Nat) : Int) * (q.d.natAbs : Int) := by simp
      rw [this] at m1
      rcases Int.natAbs_eq q.d with h | h
      · rw [h]; exact m1
      · rw [h, Int.mul_neg]; exact Int.dvd_neg.mpr m1
    have m3 : p.d ∣ ((Int.gcd (((Int.gcd p.x p.y : Nat) : Int) * q.d) (p.d * q.d) : Nat) : Int) := Int.dvd_coe_gcd m2 d3
    rw [Int.gcd_mul_right, e', Nat.one_mul] at m3
    exact Int.dvd_natAbs.mp m3
  have k1 := key a b pa ga h1 h2
  have k2 := key b a pb gb h1.symm h2.symm
  have ed : a.d = b.d := Int.dvd_antisymm (by omega) (by omega) k1 k2
  have hd : a.d ≠ 0 := by omega
  have ex : a.x = b.x := by
    rw [← ed] at h1
    exact Int.eq_of_mul_eq_mul_right hd h1
  have ey : a.y = b.y := by
    rw [← ed] at h2
    exact Int.eq_of_mul_eq_mul_right hd h2
  cases a; cases b
  simp only at ex ey ed
  subst ex ey ed
  rfl
theorem low_self {z : Num} (h : Can z) : low z.x z.y z.d = z := by
  have hd : z.d ≠ 0 := by have := h.1; omega
  obtain ⟨k, hk, ex, ey, ed, _⟩ := low_spec (x := z.x) (y := z.y) hd
  refine can_ext (low_can hd) h ?_ ?_ <;> grind
theorem lowL_eq {x y d : Int} (h : d ≠ 0) : lowL x y d = low x y d := by
  have hg : 0 < gz (gz x y) d := gz_pos h
  obtain ⟨a, ha⟩ := g3_x x y d
  obtain ⟨b, hb⟩ := g3_y x y d
  obtain ⟨c, hc⟩ := g3_d x y d
  have hgn : gz (gz x y) d ≠ 0 := by omega
  unfold low lowL
  generalize gz (gz x y) d = g at *
  by_cases hd : 0 < d
  · simp only [if_pos hd, Int.one_mul]
  · simp only [if_neg hd]
    have n : ∀ k : Int, (g * k).fdiv (0 - g) = (-1 * (g * k)).fdiv g := fun k => by
      rw [show g * k = (0 - g) * (-k) by grind, fdiv_mul' (by omega), show -1 * ((0 - g) * -k) = g * (-k) by grind, fdiv_mul' hgn]
    rw [ha, hb, hc, n, n, n]

/-! ### values -/
def re (z : Num) : Rat := (z.x : Rat) / (z.d : Rat)
def im (z : Num) : Rat := (z.y : Rat) / (z.d : Rat)
theorem cast_ne {a : Int} (h : a ≠ 0) : (a : Rat) ≠ 0 := fun e => h (by exact_mod_cast e)
theorem re_low {x y d : Int} (h : d ≠ 0) : re (low x y d) = (x : Rat) / (d : Rat) := by
  obtain ⟨k, hk, ex, ey, ed, hp, _⟩ := low_spec (x := x) (y := y) h
  generalize low x y d = z at *
  unfold re
  have h1 : ((z.d : Int) : Rat) ≠ 0 := cast_ne (by omega)
  have h2 : ((k : Int) : Rat) ≠ 0 := cast_ne hk
  have e1 : (x : Rat) = (k : Rat) * (z.x : Rat) := by rw [ex]; simp [Rat.intCast_mul]
  have e2 : (d : Rat) = (k : Rat) * (z.d : Rat) := by rw [ed]; simp [Rat.intCast_mul]
  rw [e1, e2]
  grind
theorem im_low {x y d : Int} (h : d ≠ 0) : im (low x y d) = (y : Rat) / (d : Rat) := by
  obtain ⟨k, hk, ex, ey, ed, hp, _⟩ := low_spec (x := x) (y := y) h
  generalize low x y d = z at *
  unfold im
  have h1 : ((z.d : Int) : Rat) ≠ 0 := cast_ne (by omega)
  have h2 : ((k : Int) : Rat) ≠ 0 := cast_ne hk
  have e1 : (y : Rat) = (k : Rat) * (z.y : Rat) := by rw [ey]; simp [Rat.intCast_mul]
  have e2 : (d : Rat) = (k : Rat) * (z.d : Rat) := by rw [ed]; simp [Rat.intCast_mul]
  rw [e1, e2]
  grind
theorem ext {a b : Num} (ha : Can a) (hb : Can b) (h1 : re a = re b) (h2 : im a = im b) : a = b := by
  have na : ((a.d : Int) : Rat) ≠ 0 := cast_ne (by have := ha.1; omega)
  have nb : ((b.d : Int) : Rat) ≠ 0 := cast_ne (by have := hb.1; omega)
  unfold re at h1
  unfold im at h2
  refine can_ext ha hb ?_ ?_
  · have : (a.x : Rat) * (b.d : Rat) = (b.x : Rat) * (a.d : Rat) := by grind
    exact_mod_cast this
  · have : (a.y : Rat) * (b.d : Rat) = (b.y : Rat) * (a.d : Rat) := by grind
    exact_mod_cast this

/-! ### the operations -/
def zero : Num := ⟨0, 0, 1⟩
def one : Num := ⟨1, 0, 1⟩
def add (a b : Num) : Num := low (a.x * b.d + b.x * a.d) (a.y * b.d + b.y * a.d) (a.d * b.d)
def opp (a : Num) : Num := ⟨0 - a.x, 0 - a.y, a.d⟩
def mul (a b : Num) : Num := low (a.x * b.x - a.y * b.y) (a.x * b.y + a.y * b.x) (a.d * b.d)
def ovr (a : Num) : Num := ⟨a.x, 0 - a.y, a.d⟩
def inv (a : Num) : Num := low (a.x * a.d) (0 - a.y * a.d) (a.x * a.x + a.y * a.y)
def sub (a b : Num) : Num := add a (opp b)
theorem ne_d {a : Num} (h : Can a) : a.d ≠ 0 := by have := h.1; omega
theorem dd {a b : Num} (ha : Can a) (hb : Can b) : a.d * b.d ≠ 0 := Int.mul_ne_zero (ne_d ha) (ne_d hb)
theorem can_zero : Can zero := ⟨by decide, by decide⟩
theorem can_one : Can one := ⟨by decide, by decide⟩
theorem can_add {a b : Num} (ha : Can a) (hb : Can b) : Can (add a b) := low_can (dd ha hb)
theorem can_mul {a b : Num} (ha : Can a) (hb : Can b) : Can (mul a b) := low_can (dd ha hb)
theorem gz_neg (a b : Int) : gz (0 - a) b = gz a b := by unfold gz; rw [Int.zero_sub, Int.neg_gcd]
theorem gz_neg' (a b : Int) : gz a (0 - b) = gz a b := by unfold gz; rw [Int.zero_sub, Int.gcd_neg]
theorem can_opp {a : Num} (ha : Can a) : Can (opp a) := by
  refine ⟨ha.1, ?_⟩
  show gz (gz (0 - a.x) (0 - a.y)) a.d = 1
  rw [gz_neg, gz_neg']
  exact ha.2
theorem can_ovr {a : Num} (ha : Can a) : Can (ovr a) := by
  refine ⟨ha.1, ?_⟩
  show gz (gz a.x (0 - a.y)) a.d = 1
  rw [gz_neg']
  exact ha.2
theorem can_sub {a b : Num} (ha : Can a) (hb : Can b) : Can (sub a b) := can_add ha (can_opp hb)
theorem sq_nn (a : Int) : 0 ≤ a * a := by
  rcases Int.le_total 0 a with h | h
  · exact Int.mul_nonneg h h
  · have := Int.mul_nonneg (a := -a) (b := -a) (by omega) (by omega)
    rwa [Int.neg_mul_neg] at this
theorem sq_ne {a : Num} (hz : ¬ (a.x = 0 ∧ a.y = 0)) : a.x * a.x + a.y * a.y ≠ 0 := by
  intro h
  have h1 : 0 ≤ a.x * a.x := sq_nn _
  have h2 : 0 ≤ a.y * a.y := sq_nn _
  have e1 : a.x * a.x = 0 := by omega
  have e2 : a.y * a.y = 0 := by omega
  exact hz ⟨by rcases Int.mul_eq_zero.mp e1 with h | h <;> exact h, by rcases Int.mul_eq_zero.mp e2 with h | h <;> exact h⟩
/-- not 0 -/
def NZ (a : Num) : Prop := ¬ (a.x = 0 ∧ a.y = 0)
theorem can_inv {a : Num} (hz : NZ a) : Can (inv a) := low_can (sq_ne hz)
section
variable {a b : Num}
theorem rat_d (h : Can a) : ((a.d : Int) : Rat) ≠ 0 := cast_ne (ne_d h)
theorem re_add (ha : Can a) (hb : Can b) : re (add a b) = re a + re b := by
  unfold add
  rw [re_low (dd ha hb)]
  have n1 := rat_d ha
  have n2 := rat_d hb
  unfold re
  simp only [Rat.intCast_add, Rat.intCast_mul]
  grind
theorem im_add (ha : Can a) (hb : Can b) : im (add a b) = im a + im b := by
  unfold add
  rw [im_low (dd ha hb)]
  have n1 := rat_d ha
  have n2 := rat_d hb
  unfold im
  simp only [Rat.intCast_add, Rat.intCast_mul]
  grind
theorem re_opp : re (opp a) = - re a := by
  unfold re opp
  simp only [Rat.intCast_sub, Int.zero_sub, Rat.intCast_neg]
  grind
theorem im_opp : im (opp a) = - im a := by
  unfold im opp
  simp only [Rat.intCast_sub, Int.zero_sub, Rat.intCast_neg]
  grind
theorem re_sub (ha : Can a) (hb : Can b) : re (sub a b) = re a - re b := by
  unfold sub; rw [re_add ha (can_opp hb), re_opp]; grind
theorem im_sub (ha : Can a) (hb : Can b) : im (sub a b) = im a - im b := by
  unfold sub; rw [im_add ha (can_opp hb), im_opp]; grind
theorem re_mul (ha : Can a) (hb : Can b) : re (mul a b) = re a * re b - im a * im b := by
  unfold mul
  rw [re_low (dd ha hb)]
  have n1 := rat_d ha
  have n2 := rat_d hb
  unfold re im
  simp only [Rat.intCast_sub, Rat.intCast_mul]
  grind
theorem im_mul (ha : Can a) (hb : Can b) : im (mul a b) = re a * im b + im a * re b := by
  unfold mul
  rw [im_low (dd ha hb)]
  have n1 := rat_d ha
  have n2 := rat_d hb
  unfold re im
  simp only [Rat.intCast_add, Rat.intCast_mul]
  grind
theorem re_ovr : re (ovr a) = re a := rfl
theorem im_ovr : im (ovr a) = - im a := by
  unfold im ovr
  simp only [Int.zero_sub, Rat.intCast_neg]
  grind
/-- the square of the size -/
def nrm (a : Num) : Rat := re a * re a + im a * im a
theorem nz_iff (ha : Can a) : NZ a ↔ nrm a ≠ 0 := by
  have n1 := rat_d ha
  unfold NZ nrm re im
  constructor
  · intro h e
    have h2 : ((a.x * a.x + a.y * a.y : Int) : Rat) = 0 := by
      simp only [Rat.intCast_add, Rat.intCast_mul]
      grind
    exact sq_ne h (by exact_mod_cast h2)
  · intro h ⟨e1, e2⟩
    apply h
    rw [e1, e2]
    have z : ((0 : Int) : Rat) = 0 := rfl
    rw [z]
    grind
theorem re_inv (ha : Can a) (hz : NZ a) : re (inv a) = re a / nrm a := by
  unfold inv
  rw [re_low (sq_ne hz)]
  have n1 := rat_d ha
  have n2 : ((a.x * a.x + a.y * a.y : Int) : Rat) ≠ 0 := cast_ne (sq_ne hz)
  simp only [Rat.intCast_add, Rat.intCast_mul] at n2 ⊢
  unfold nrm re im
  grind
theorem im_inv (ha : Can a) (hz : NZ a) : im (inv a) = - im a / nrm a := by
  unfold inv
  rw [im_low (sq_ne hz)]
  have n1 := rat_d ha
  have n2 : ((a.x * a.x + a.y * a.y : Int) : Rat) ≠ 0 := cast_ne (sq_ne hz)
  simp only [Rat.intCast_add, Rat.intCast_mul, Int.zero_sub, Rat.intCast_neg] at n2 ⊢
  unfold nrm re im
  grind
end
theorem re_zero : re zero = 0 := by decide +kernel
theorem im_zero : im zero = 0 := by decide +kernel
theorem re_one : re one = 1 := by decide +kernel
theorem im_one : im one = 0 := by decide +kernel
end NM

/-! ## SP -/
set_option Elab.async false
set_option linter.all false
set_option maxRecDepth 100000
set_option maxHeartbeats 4000000
/-! What each def is worth: specs over data. -/
namespace L3
open PySem NM L2

structure CL where
  Copy : Addr
  Drawing : Addr
  Arm : Addr
  Chain : Addr
  Reader : Addr
  /-- the law's table of code objects -/
  tab : Addr
  /-- the table of Web.__init__ -/
  wtab : Addr
  /-- the classes of errors -/
  gx : Str → Addr

def numD (z : Num) : D := .tup [.int z.x, .int z.y, .int z.d]
def c_ZERO : D := .tup [.int 0, .int 0, .int 1]
def c_ONE : D := .tup [.int 1, .int 0, .int 1]
/-- sizes of a number -/
def Sz (n : Nat) (z : Num) : Prop := Bt n z.x ∧ Bt n z.y ∧ Bt n z.d
theorem Bt.mono {n m : Nat} {i : Int} (h : Bt n i) (l : n ≤ m) : Bt m i := Nat.lt_of_lt_of_le h (Nat.pow_le_pow_right (by decide) l)
theorem Bt.mul {n m : Nat} {i j : Int} (h : Bt n i) (l : Bt m j) : Bt (n + m) (i * j) := wide_lt h l
theorem Bt.add {n : Nat} {i j : Int} (h : Bt n i) (l : Bt n j) : Bt (n + 1) (i + j) := by
  unfold Bt at *
  rw [Nat.pow_succ]
  omega
theorem Bt.sub {n : Nat} {i j : Int} (h : Bt n i) (l : Bt n j) : Bt (n + 1) (i - j) := by
  unfold Bt at *
  rw [Nat.pow_succ]
  omega
theorem Bt.neg {n : Nat} {i : Int} (h : Bt n i) : Bt n (0 - i) := by
  unfold Bt at *
  omega
theorem Bt.le {n : Nat} {i j : Int} (h : Bt n i) (l : j.natAbs ≤ i.natAbs) : Bt n j := Nat.lt_of_le_of_lt l h
theorem Sz.mono {n m : Nat} {z : Num} (h : Sz n z) (l : n ≤ m) : Sz m z := ⟨h.1.mono l, h.2.1.mono l, h.2.2.mono l⟩
theorem low_sz {n : Nat} {x y d : Int} (h : d ≠ 0) (hx : Bt n x) (hy : Bt n y) (hd : Bt n d) : Sz n (low x y d) := by
  obtain ⟨k, hk, ex, ey, ed, _⟩ := low_spec (x := x) (y := y) h
  have le : ∀ a : Int, a.natAbs ≤ (k * a).natAbs := fun a => by
    rw [Int.natAbs_mul]
    exact Nat.le_mul_of_pos_left _ (by omega)
  refine ⟨hx.le ?_, hy.le ?_, hd.le ?_⟩
  · conv => rhs; rw [ex]
    exact le _
  · conv => rhs; rw [ey]
    exact le _
  · conv => rhs; rw [ed]
    exact le _
theorem Sz.add {n m : Nat} {a b : Num} (ha : Can a) (hb : Can b) (h : Sz n a) (l : Sz m b) : Sz (n + m + 1) (NM.add a b) :=
  low_sz (dd ha hb) ((h.1.mul l.2.2).add ((l.1.mul h.2.2).mono (by omega))) ((h.2.1.mul l.2.2).add ((l.2.1.mul h.2.2).mono (by omega))) ((h.2.2.mul l.2.2).mono (by omega))
theorem Sz.mul {n m : Nat} {a b : Num} (ha : Can a) (hb : Can b) (h : Sz n a) (l : Sz m b) : Sz (n + m + 1) (NM.mul a b) :=
  low_sz (dd ha hb) ((h.1.mul l.1).sub (h.2.1.mul l.2.1)) ((h.1.mul l.2.1).add (h.2.1.mul l.1)) ((h.2.2.mul l.2.2).mono (by omega))
theorem Sz.inv {n : Nat} {a : Num} (hz : NZ a) (h : Sz n a) : Sz (n + n + 1) (NM.inv a) :=
  low_sz (sq_ne hz) ((h.1.mul h.2.2).mono (by omega)) ((h.2.1.mul h.2.2).neg.mono (by omega)) ((h.1.mul h.1).add (h.2.1.mul h.2.1))
theorem Sz.ovr {n : Nat} {a : Num} (h : Sz n a) : Sz n (NM.ovr a) := ⟨h.1, h.2.1.neg, h.2.2⟩
theorem Sz.opp {n : Nat} {a : Num} (h : Sz n a) : Sz n (NM.opp a) := ⟨h.1.neg, h.2.1.neg, h.2.2⟩

/-! ### numbers -/
def sp_is_int (Γ : CL) : GN := fun ds μ R => match ds with
  | [.int _] => R (.bl true) μ
  | [.bl _] => R (.bl false) μ
  | [.non] => R (.bl false) μ
  | [.str _] => R (.bl false) μ
  | [.tup _] => R (.bl false) μ
  | [.lst _] => R (.bl false) μ
  | _ => False
def sp_common_divisor (Γ : CL) : GN := fun ds μ R => match ds with
  | [.int a, .int b] => R (.int (gz a b)) μ
  | _ => False
def ratD (n d : Int) : D := .tup [.int (n.fdiv (gz n d)), .int (d.fdiv (gz n d))]
def sp_ratio (Γ : CL) : GN := fun ds μ R => match ds with
  | [.int a, .int b] => b ≠ 0 ∧ Bt big b ∧ R (ratD a b) μ
  | _ => False
def sp_lowest (Γ : CL) : GN := fun ds μ R => match ds with
  | [.int x, .int y, .int d] => d ≠ 0 ∧ Bt big x ∧ Bt big y ∧ Bt big d ∧ R (numD (low x y d)) μ
  | _ => False
/-- data whose kind is known -/
def okD : D → Bool
  | .non => true
  | .bl _ => true
  | .int _ => true
  | .str _ => true
  | .tup _ => true
  | .lst _ => true
  | _ => false
def isNumD : D → Bool
  | .tup [.int x, .int y, .int d] => decide (0 < d) && decide (low x y d = ⟨x, y, d⟩)
  | _ => false
def numOk (d : D) : Prop := okD d = true ∧ ∀ ds, d = .tup ds → ds.all okD = true ∧ ∀ x y z, ds = [.int x, .int y, .int z] → Bt big x ∧ Bt big y ∧ Bt big z
def sp_is_number (Γ : CL) : GN := fun ds μ R => match ds with
  | [d] => numOk d ∧ R (.bl (isNumD d)) μ
  | _ => False
abbrev half : Nat := 2000
def sp_added (Γ : CL) : GN := fun ds μ R => match ds with
  | [.tup [.int x, .int y, .int d], .tup [.int u, .int v, .int w]] => d ≠ 0 ∧ w ≠ 0 ∧ Sz half ⟨x, y, d⟩ ∧ Sz half ⟨u, v, w⟩ ∧ R (numD (add ⟨x, y, d⟩ ⟨u, v, w⟩)) μ
  | _ => False
def sp_multiplied (Γ : CL) : GN := fun ds μ R => match ds with
  | [.tup [.int x, .int y, .int d], .tup [.int u, .int v, .int w]] => d ≠ 0 ∧ w ≠ 0 ∧ Sz half ⟨x, y, d⟩ ∧ Sz half ⟨u, v, w⟩ ∧ R (numD (mul ⟨x, y, d⟩ ⟨u, v, w⟩)) μ
  | _ => False
def sp_less (Γ : CL) : GN := fun ds μ R => match ds with
  | [.tup [.int x, .int y, .int d], .tup [.int u, .int v, .int w]] => d ≠ 0 ∧ w ≠ 0 ∧ Sz half ⟨x, y, d⟩ ∧ Sz half ⟨u, v, w⟩ ∧ R (numD (sub ⟨x, y, d⟩ ⟨u, v, w⟩)) μ
  | _ => False
def sp_opposite (Γ : CL) : GN := fun ds μ R => match ds with
  | [.tup [.int x, .int y, .int d]] => R (numD (opp ⟨x, y, d⟩)) μ
  | _ => False
def sp_turned_over (Γ : CL) : GN := fun ds μ R => match ds with
  | [.tup [.int x, .int y, .int d]] => R (numD (ovr ⟨x, y, d⟩)) μ
  | _ => False
def sp_inverse (Γ : CL) : GN := fun ds μ R => match ds with
  | [.tup [.int x, .int y, .int d]] => NZ ⟨x, y, d⟩ ∧ Sz half ⟨x, y, d⟩ ∧ R (numD (inv ⟨x, y, d⟩)) μ
  | _ => False
/-- the square of the size, a fraction -/
def sizeD (z : Num) : D := ratD (z.x * z.x + z.y * z.y) (z.d * z.d)
def sp_size (Γ : CL) : GN := fun ds μ R => match ds with
  | [.tup [.int x, .int y, .int d]] => d ≠ 0 ∧ Sz half ⟨x, y, d⟩ ∧ R (sizeD ⟨x, y, d⟩) μ
  | _ => False

/-! ### copies -/
def sp_check_spot (Γ : CL) : GN := fun ds μ R => match ds with
  | [.tup [.int x, .int y, .int d]] => Can ⟨x, y, d⟩ ∧ Sz big ⟨x, y, d⟩ ∧ R .non μ
  | _ => False
def sp_check_turn (Γ : CL) : GN := fun ds μ R => match ds with
  | [.tup [.int x, .int y, .int d]] => Can ⟨x, y, d⟩ ∧ NZ ⟨x, y, d⟩ ∧ Sz big ⟨x, y, d⟩ ∧ R .non μ
  | _ => False
/-- a copy -/
structure Cp where
  t : Num
  s : Num
  m : Bool
  deriving DecidableEq
def copyFs (c : Cp) : List (Str × D) := [("turn", numD c.t), ("shift", numD c.s), ("mirrored", .bl c.m), ("key", .tup [numD c.t, numD c.s, .bl c.m])]
def copyD (Γ : CL) (c : Cp) : D := .ins Γ.Copy (copyFs c)
/-- one that can be -/
def Cp.ok (c : Cp) : Prop := Can c.t ∧ NZ c.t ∧ Can c.s
def Cp.sz (n : Nat) (c : Cp) : Prop := Sz n c.t ∧ Sz n c.s
def Cp.at (c : Cp) (z : Num) : Num := add (mul c.t (if c.m then ovr z else z)) c.s
def Cp.comp (a b : Cp) : Cp := ⟨mul b.t (if b.m then ovr a.t else a.t), b.at a.s, a.m != b.m⟩
def Cp.inv (a : Cp) : Cp :=
  let back := NM.inv (if a.m then ovr a.t else a.t)
  ⟨back, opp (mul back (if a.m then ovr a.s else a.s)), a.m⟩
abbrev quart : Nat := 900
def sp_carried (Γ : CL) : GN := fun ds μ R => ∃ c z, ds = [copyD Γ c, numD z] ∧ c.ok ∧ c.sz quart ∧ Can z ∧ Sz quart z ∧ R (numD (c.at z)) μ
def sp_Copy___init (Γ : CL) : GN := fun ds μ R => match ds with
  | [.ref a, .tup [.int x, .int y, .int d], .tup [.int u, .int v, .int w], .bl m] => Can ⟨x, y, d⟩ ∧ NZ ⟨x, y, d⟩ ∧ Can ⟨u, v, w⟩ ∧ Sz big ⟨x, y, d⟩ ∧ Sz big ⟨u, v, w⟩ ∧ μ a = some (.ins Γ.Copy []) ∧ R .non (updM μ a (.ins Γ.Copy (copyFs ⟨⟨x, y, d⟩, ⟨u, v, w⟩, m⟩)))
  | _ => False
def sp_Copy___rshift (Γ : CL) : GN := fun ds μ R => ∃ a b, ds = [copyD Γ a, copyD Γ b] ∧ a.ok ∧ b.ok ∧ a.sz quart ∧ b.sz quart ∧ R (copyD Γ (a.comp b)) μ
def sp_Copy___invert (Γ : CL) : GN := fun ds μ R => ∃ a, ds = [copyD Γ a] ∧ a.ok ∧ a.sz 400 ∧ R (copyD Γ a.inv) μ
def sp_Copy_growth (Γ : CL) : GN := fun ds μ R => ∃ a : Cp, ds = [copyD Γ a] ∧ a.t.d ≠ 0 ∧ Sz half a.t ∧ R (sizeD a.t) μ
def gD_Copy_mirrored : List D → List D → List D := fun ds zs => ds ++ zs

/-! ### the law's own source of numbers -/
/-- the source: a list of ints, the first not negative, the second too -/
def RL (ds : List D) : Prop := ∃ (s p : Int) (r : List Int), ds = .int s :: .int p :: r.map D.int ∧ 0 ≤ s ∧ s < 2147483648 ∧ 0 ≤ p ∧ ∀ x ∈ r, 0 ≤ x
def sp_law_random (Γ : CL) : GN := fun ds μ R => ∃ (ns : List Int) (salt : Int), ds = [.scr (ns.map D.int), .int salt] ∧ 0 ≤ salt ∧ salt < 1000 ∧ ns.length ≤ 63 ∧ ∀ g xs, μ g = none → RL xs → R (.ref g) (updM μ g (.lst xs))
def sp_law_below (Γ : CL) : GN := fun ds μ R => ∃ g n xs, ds = [.ref g, .int n] ∧ 0 < n ∧ n < 1000 ∧ μ g = some (.lst xs) ∧ RL xs ∧ ∀ r ys, 0 ≤ r → r < n → RL ys → R (.int r) (updM μ g (.lst ys))
/-- a small number in lowest terms -/
def Small (z : Num) : Prop := Can z ∧ Sz 5 z
def sp_law_turn (Γ : CL) : GN := fun ds μ R => ∃ g xs, ds = [.ref g] ∧ μ g = some (.lst xs) ∧ RL xs ∧ ∀ z ys, Small z → NZ z → RL ys → R (numD z) (updM μ g (.lst ys))
def sp_law_spot (Γ : CL) : GN := fun ds μ R => ∃ g xs, ds = [.ref g] ∧ μ g = some (.lst xs) ∧ RL xs ∧ ∀ z ys, Small z → RL ys → R (numD z) (updM μ g (.lst ys))
def toldD (c : Cp) : D := .tup [numD c.t, numD c.s, .bl c.m]
def Cp.small (c : Cp) : Prop := Small c.t ∧ NZ c.t ∧ Small c.s
def sp_law_common (Γ : CL) : GN := sp_common_divisor Γ
def sp_law_lowest (Γ : CL) : GN := sp_lowest Γ
def sp_law_plus (Γ : CL) : GN := sp_added Γ
def sp_law_minus (Γ : CL) : GN := sp_less Γ
def sp_law_times (Γ : CL) : GN := sp_multiplied Γ
def sp_law_over (Γ : CL) : GN := sp_turned_over Γ
def sp_law_carried (Γ : CL) : GN := fun ds μ R => ∃ c z, ds = [toldD c, numD z] ∧ c.ok ∧ c.sz quart ∧ Can z ∧ Sz quart z ∧ R (numD (c.at z)) μ
mutual
def same : D → D → Bool
  | .non, .non => true
  | .bl a, .bl b => a == b
  | .int a, .int b => a == b
  | .str a, .str b => a == b
  | .tup as, .tup bs => sames as bs
  | .lst as, .lst bs => sames as bs
  | _, _ => false
def sames : List D → List D → Bool
  | [], [] => true
  | a :: as, b :: bs => same a b && sames as bs
  | _, _ => false
end
/-- pure data no deeper than n, no row too long -/
def okq : Nat → D → Bool
  | _, .non => true
  | _, .bl _ => true
  | _, .int _ => true
  | _, .str x => PyData.strOk x
  | n + 1, .tup ds => decide (ds.length ≤ 1000000) && ds.all (okq n)
  | n + 1, .lst ds => decide (ds.length ≤ 1000000) && ds.all (okq n)
  | _, _ => false
def eqSp (n : Nat) : GN := fun ds μ R => match ds with
  | [a, e] => okq n a = true ∧ okq n e = true ∧ R (.bl (same a e)) μ
  | _ => False
def sp_law_equal (Γ : CL) : Nat → GN
  | 0 => fun _ _ _ => False
  | n + 1 => eqSp n
/-! ### spots that are kept -/
def szN (z : Num) : Num := low (z.x * z.x + z.y * z.y) 0 (z.d * z.d)
inductive Kp where
  | all
  | none
  | spot (z : Num)
  | line (a b c : Int)
  deriving DecidableEq
def Kp.D : Kp → L3.D
  | .all => .tup [.str "all"]
  | .none => .tup [.str "none"]
  | .spot z => .tup [.str "spot", numD z]
  | .line a b c => .tup [.str "line", .int a, .int b, .int c]
/-! ### copies done several times -/
def Cp.id : Cp := ⟨one, zero, false⟩
def natD : Option Nat → D
  | some j => .int (j : Int)
  | none => .non
def Cp.stp (c : Cp) (i : Int) : Cp := if i < 0 then c.inv else c
def inIntD : D → Int → Int → Bool
  | .int i, lo, hi => decide (lo ≤ i) && decide (i ≤ hi)
  | _, _, _ => false
def sp_is_int_in (Γ : CL) : GN := fun ds μ R => ∃ d lo hi, ds = [d, .int lo, .int hi] ∧ okD d = true ∧ R (.bl (inIntD d lo hi)) μ
/-! ### arms and chains -/
structure Am where
  p : Num
  t : Num
  lo : Int
  hi : Int
  m : Bool
  deriving DecidableEq
def c_MAX_REACH_arms : D := .int 1000
def c_MAX_REACH : D := .int 1000
def c_MAX_ARMS : D := .int 6
def armFs (a : Am) : List (Str × D) := [("pole", numD a.p), ("turn", numD a.t), ("near", .int a.lo), ("far", .int a.hi), ("mirrored", .bl a.m), ("key", .tup [numD a.p, numD a.t, .int a.lo, .int a.hi, .bl a.m])]
def armD (Γ : CL) (a : Am) : D := .ins Γ.Arm (armFs a)
def armTD (a : Am) : D := .tup [numD a.p, numD a.t, .int a.lo, .int a.hi, .bl a.m]
def Am.ok (a : Am) : Prop := Can a.p ∧ Can a.t ∧ NZ a.t ∧ 0 ≤ a.lo ∧ a.lo ≤ a.hi ∧ a.hi ≤ 1000
def Am.sz (n : Nat) (a : Am) : Prop := Sz n a.p ∧ Sz n a.t
def Am.small (a : Am) : Prop := Small a.p ∧ Small a.t ∧ NZ a.t ∧ 0 ≤ a.lo ∧ a.lo ≤ 2 ∧ a.lo ≤ a.hi ∧ a.hi ≤ 101
def aboutC (p t : Num) (m : Bool) : Cp := ⟨t, sub p (mul t (if m then ovr p else p)), m⟩
def Am.eff (a : Am) : Cp := aboutC a.p a.t a.m
def chainFs (Γ : CL) (as : List Am) : List (Str × D) := [("arms", .tup (as.map (armD Γ)))]
def chainD (Γ : CL) (as : List Am) : D := .ins Γ.Chain (chainFs Γ as)
def effFrom : Cp → List Am → Cp
  | c, [] => c
  | c, a :: r => effFrom (c.comp a.eff) r
def effAll (as : List Am) : Cp := effFrom Cp.id as
def aheads : Cp → List Am → List Cp
  | c, [] => [c]
  | c, a :: r => c :: aheads (c.comp a.eff) r
def okA : Cp → List Am → Prop
  | _, [] => True
  | c, a :: r => c.sz quart ∧ a.sz quart ∧ a.eff.sz quart ∧ a.ok ∧ okA (c.comp a.eff) r
def sp_Arm___init (Γ : CL) : GN := fun ds μ R => match ds with
  | [.ref a, .tup [.int x, .int y, .int d], .tup [.int u, .int v, .int w], .int lo, .int hi, .bl m] => Can ⟨x, y, d⟩ ∧ Can ⟨u, v, w⟩ ∧ NZ ⟨u, v, w⟩ ∧ (0 ≤ lo ∧ lo ≤ hi ∧ hi ≤ 1000) ∧ Sz big ⟨x, y, d⟩ ∧ Sz big ⟨u, v, w⟩ ∧ μ a = some (.ins Γ.Arm []) ∧ R .non (updM μ a (.ins Γ.Arm (armFs ⟨⟨x, y, d⟩, ⟨u, v, w⟩, lo, hi, m⟩)))
  | _ => False
def sp_Chain___init (Γ : CL) : GN := fun ds μ R => match ds with
  | [.ref a, .tup xs] => xs.length ≤ 6 ∧ μ a = some (.ins Γ.Chain []) ∧ R .non (updM μ a (.ins Γ.Chain [("arms", .tup xs)]))
  | _ => False
def sp_Chain___add (Γ : CL) : GN := fun ds μ R => ∃ as bs, ds = [chainD Γ as, chainD Γ bs] ∧ as.length + bs.length ≤ 6 ∧ R (chainD Γ (as ++ bs)) μ
def sp_copy_about (Γ : CL) : GN := fun ds μ R => ∃ p t m, ds = [numD p, numD t, .bl m] ∧ Can p ∧ Can t ∧ NZ t ∧ Sz quart p ∧ Sz quart t ∧ R (copyD Γ (aboutC p t m)) μ
def sp_Arm_effect (Γ : CL) : GN := fun ds μ R => ∃ a, ds = [armD Γ a] ∧ a.ok ∧ a.sz quart ∧ R (copyD Γ a.eff) μ
def sp_copies_ahead (Γ : CL) : GN := fun ds μ R => ∃ as, ds = [.tup (as.map (armD Γ))] ∧ okA Cp.id as ∧ as.length ≤ 6 ∧ R (.lst ((aheads Cp.id as).map (copyD Γ))) μ
def gD_Arm_mirrored : List D → List D → List D := fun ds zs => ds ++ zs
def sp_law_step (Γ : CL) : GN := fun ds μ R => ∃ g n xs, ds = [.ref g, .int n] ∧ 0 < n ∧ n ≤ 10 ∧ μ g = some (.lst xs) ∧ RL xs ∧ ∀ x y ys, -n ≤ x → x ≤ n → -n ≤ y → y ≤ n → RL ys → R (numD ⟨x, y, 1⟩) (updM μ g (.lst ys))
def sp_law_arm_told (Γ : CL) : GN := fun ds μ R => ∃ g xs, ds = [.ref g] ∧ μ g = some (.lst xs) ∧ RL xs ∧ ∀ a ys, a.small → RL ys → R (armTD a) (updM μ g (.lst ys))
def sp_law_arm (Γ : CL) : GN := fun ds μ R => ∃ a, ds = [armTD a] ∧ a.ok ∧ a.sz big ∧ R (armD Γ a) μ
def sp_law_chain (Γ : CL) : GN := fun ds μ R => ∃ as, ds = [.lst (as.map armTD)] ∧ (∀ a ∈ as, a.ok ∧ a.sz big) ∧ as.length ≤ 6 ∧ R (chainD Γ as) μ
/-! ### zones -/
/-- a fraction, told as a number without second part -/
def frD (z : Num) : D := .tup [.int z.x, .int z.d]
structure Rg where
  c : Num
  lo : Num
  hi : Num
  deriving DecidableEq
def rgD (r : Rg) : D := .tup [numD r.c, frD r.lo, frD r.hi]
def zoneOf (c : Cp) (a : Am) : Rg := ⟨c.inv.at a.p, low (a.lo * a.lo * (szN c.t).d) 0 (szN c.t).x, low (a.hi * a.hi * (szN c.t).d) 0 (szN c.t).x⟩
def zonesL : Cp → List Am → List Rg
  | _, [] => []
  | c, a :: r => zoneOf c a :: zonesL (c.comp a.eff) r
def okZ : Cp → List Am → Prop
  | _, [] => True
  | c, a :: r => c.ok ∧ c.sz 150 ∧ a.ok ∧ a.sz 150 ∧ okZ (c.comp a.eff) r
def sp_zones (Γ : CL) : GN := fun ds μ R => ∃ as, ds = [chainD Γ as] ∧ okA Cp.id as ∧ okZ Cp.id as ∧ as.length ≤ 6 ∧ R (.lst ((zonesL Cp.id as).map rgD)) μ
def sp_law_ratio (Γ : CL) : GN := fun ds μ R => match ds with
  | [.int p, .int q] => q ≠ 0 ∧ Bt big p ∧ Bt big q ∧ R (frD (low p 0 q)) μ
  | _ => False
def sp_law_size (Γ : CL) : GN := fun ds μ R => match ds with
  | [.tup [.int x, .int y, .int d]] => d ≠ 0 ∧ Sz half ⟨x, y, d⟩ ∧ R (frD (szN ⟨x, y, d⟩)) μ
  | _ => False
def sp_law_less (Γ : CL) : GN := fun ds μ R => match ds with
  | [.tup [.int a, .int b], .tup [.int c, .int d]] => Bt big a ∧ Bt big b ∧ Bt big c ∧ Bt big d ∧ R (.bl (decide (a * d < c * b))) μ
  | _ => False
def reachB (a : Am) (z : Num) : Bool := !decide ((szN (sub z a.p)).x * 1 < a.lo * a.lo * (szN (sub z a.p)).d) && !decide (a.hi * a.hi * (szN (sub z a.p)).d < (szN (sub z a.p)).x * 1)
def sp_law_reached (Γ : CL) : GN := fun ds μ R => ∃ a z, ds = [armTD a, numD z] ∧ a.ok ∧ Sz quart a.p ∧ Can z ∧ Sz quart z ∧ R (.bl (reachB a z)) μ
def sp_law_about (Γ : CL) : GN := fun ds μ R => ∃ a, ds = [armTD a] ∧ a.ok ∧ a.sz quart ∧ R (toldD a.eff) μ
/-! ### poles -/
def pairD (p : Num × Num) : D := .tup [numD p.1, numD p.2]
end L3

/-! ## RB -/
set_option Elab.async false
set_option linter.all false
set_option maxRecDepth 100000
set_option maxHeartbeats 4000000
namespace L3
open PySem NM L2
/-- is_int(value) : 0 value -/
def rd_is_int (Γ : CL) : RS := (rRet (rAndV (rCl gIsi (rCons (rVar 0) (rCons (rC (.ty "int")) rNil))) (rNotV (rCl gIsi (rCons (rVar 0) (rCons (rC (.ty "bool")) rNil))))))
/-- common_divisor(one, other) : 0 one, 1 other -/
def rd_common_divisor (Γ : CL) : RS := (rSeq (rPar 0 1 (rCons (rCl gAbs (rCons (rVar 0) rNil)) (rCons (rCl gAbs (rCons (rVar 1) rNil)) rNil)))
 (rSeq (rWhile (rB (rOp gGt (rVar 1) (rC (.int 0)))) (rPar 0 1 (rCons (rVar 1) (rCons (rOp gMod (rVar 0) (rVar 1)) rNil))))
 (rRet (rVar 0))))
/-- ratio(numerator, denominator) : 0 numerator, 1 denominator, 2 divisor -/
def rd_ratio (Γ : CL) : RS := (rSeq (rAsg (rCl (sp_common_divisor Γ) (rCons (rVar 0) (rCons (rVar 1) rNil))) (rGN 2))
 (rRet (rTup (rCons (rOp gDiv (rVar 0) (rVar 2)) (rCons (rOp gDiv (rVar 1) (rVar 2)) rNil)))))
/-- lowest(x, y, d) : 0 x, 1 y, 2 d, 3 divisor, 4 sign -/
def rd_lowest (Γ : CL) : RS := (rSeq (rAsg (rCl (sp_common_divisor Γ) (rCons (rCl (sp_common_divisor Γ) (rCons (rVar 0) (rCons (rVar 1) rNil))) (rCons (rVar 2) rNil))) (rGN 3))
 (rSeq (rAsg (rIfE (rB (rOp gGt (rVar 2) (rC (.int 0)))) (rC (.int 1)) (rUn (gU fun i => .int (-i)) (rC (.int 1)))) (rGN 4))
 (rRet (rTup (rCons (rOp gDiv (rOp gMul (rVar 4) (rVar 0)) (rVar 3)) (rCons (rOp gDiv (rOp gMul (rVar 4) (rVar 1)) (rVar 3)) (rCons (rOp gDiv (rOp gMul (rVar 4) (rVar 2)) (rVar 3)) rNil)))))))
/-- is_number(value) : 0 value, 1 part -/
def rd_is_number (Γ : CL) : RS := (rSeq (rIf (rOr (rNot (rB (rCl gIsi (rCons (rVar 0) (rCons (rC (.ty "tuple")) rNil))))) (rOr (rB (rOp gNe (rCl gLen (rCons (rVar 0) rNil)) (rC (.int 3)))) (rNot (rB (rCl gAll (rCons (rLc (rITup (rVar 0)) (rGN 1) rTrue (rCl (sp_is_int Γ) (rCons (rVar 1) rNil)) [1]) rNil))))))
 (rRet (rC (.bl false)))
 rNext)
 (rRet (rAndV (rOp gGt (rOp gIx (rVar 0) (rC (.int 2))) (rC (.int 0))) (rOp gEq (rCl (sp_lowest Γ) (rStar (rVar 0) rNil)) (rVar 0)))))
/-- added(one, other) : 0 one, 1 other -/
def rd_added (Γ : CL) : RS := (rRet (rCl (sp_lowest Γ) (rCons (rOp gAdd (rOp gMul (rOp gIx (rVar 0) (rC (.int 0))) (rOp gIx (rVar 1) (rC (.int 2)))) (rOp gMul (rOp gIx (rVar 1) (rC (.int 0))) (rOp gIx (rVar 0) (rC (.int 2))))) (rCons (rOp gAdd (rOp gMul (rOp gIx (rVar 0) (rC (.int 1))) (rOp gIx (rVar 1) (rC (.int 2)))) (rOp gMul (rOp gIx (rVar 1) (rC (.int 1))) (rOp gIx (rVar 0) (rC (.int 2))))) (rCons (rOp gMul (rOp gIx (rVar 0) (rC (.int 2))) (rOp gIx (rVar 1) (rC (.int 2)))) rNil)))))
/-- opposite(one) : 0 one -/
def rd_opposite (Γ : CL) : RS := (rRet (rTup (rCons (rOp gSub (rC (.int 0)) (rOp gIx (rVar 0) (rC (.int 0)))) (rCons (rOp gSub (rC (.int 0)) (rOp gIx (rVar 0) (rC (.int 1)))) (rCons (rOp gIx (rVar 0) (rC (.int 2))) rNil)))))
/-- multiplied(one, other) : 0 one, 1 other, 2 x -/
def rd_multiplied (Γ : CL) : RS := (rSeq (rAsg (rOp gSub (rOp gMul (rOp gIx (rVar 0) (rC (.int 0))) (rOp gIx (rVar 1) (rC (.int 0)))) (rOp gMul (rOp gIx (rVar 0) (rC (.int 1))) (rOp gIx (rVar 1) (rC (.int 1))))) (rGN 2))
 (rRet (rCl (sp_lowest Γ) (rCons (rVar 2) (rCons (rOp gAdd (rOp gMul (rOp gIx (rVar 0) (rC (.int 0))) (rOp gIx (rVar 1) (rC (.int 1)))) (rOp gMul (rOp gIx (rVar 0) (rC (.int 1))) (rOp gIx (rVar 1) (rC (.int 0))))) (rCons (rOp gMul (rOp gIx (rVar 0) (rC (.int 2))) (rOp gIx (rVar 1) (rC (.int 2)))) rNil))))))
/-- turned_over(one) : 0 one -/
def rd_turned_over (Γ : CL) : RS := (rRet (rTup (rCons (rOp gIx (rVar 0) (rC (.int 0))) (rCons (rOp gSub (rC (.int 0)) (rOp gIx (rVar 0) (rC (.int 1)))) (rCons (rOp gIx (rVar 0) (rC (.int 2))) rNil)))))
/-- inverse(one) : 0 one -/
def rd_inverse (Γ : CL) : RS := (rRet (rCl (sp_lowest Γ) (rCons (rOp gMul (rOp gIx (rVar 0) (rC (.int 0))) (rOp gIx (rVar 0) (rC (.int 2)))) (rCons (rOp gSub (rC (.int 0)) (rOp gMul (rOp gIx (rVar 0) (rC (.int 1))) (rOp gIx (rVar 0) (rC (.int 2))))) (rCons (rOp gAdd (rOp gMul (rOp gIx (rVar 0) (rC (.int 0))) (rOp gIx (rVar 0) (rC (.int 0)))) (rOp gMul (rOp gIx (rVar 0) (rC (.int 1))) (rOp gIx (rVar 0) (rC (.int 1))))) rNil)))))
/-- size(one) : 0 one -/
def rd_size (Γ : CL) : RS := (rRet (rCl (sp_ratio Γ) (rCons (rOp gAdd (rOp gMul (rOp gIx (rVar 0) (rC (.int 0))) (rOp gIx (rVar 0) (rC (.int 0)))) (rOp gMul (rOp gIx (rVar 0) (rC (.int 1))) (rOp gIx (rVar 0) (rC (.int 1))))) (rCons (rOp gMul (rOp gIx (rVar 0) (rC (.int 2))) (rOp gIx (rVar 0) (rC (.int 2)))) rNil))))
/-- check_spot(value) : 0 value -/
def rd_check_spot (Γ : CL) : RS := (rIf (rNot (rB (rCl (sp_is_number Γ) (rCons (rVar 0) rNil))))
 rNever
 rNext)
/-- check_turn(value) : 0 value -/
def rd_check_turn (Γ : CL) : RS := (rIf (rOr (rNot (rB (rCl (sp_is_number Γ) (rCons (rVar 0) rNil)))) (rB (rOp gEq (rVar 0) (rC c_ZERO))))
 rNever
 rNext)
/-- carried(copy, spot) : 0 copy, 1 spot -/
def rd_carried (Γ : CL) : RS := (rRet (rCl (sp_added Γ) (rCons (rCl (sp_multiplied Γ) (rCons (rFld Γ.Copy "turn" (rVar 0)) (rCons (rIfE (rB (rFld Γ.Copy "mirrored" (rVar 0))) (rCl (sp_turned_over Γ) (rCons (rVar 1) rNil)) (rVar 1)) rNil))) (rCons (rFld Γ.Copy "shift" (rVar 0)) rNil))))
/-- Copy.__init__(self, turn, shift, mirrored) : 0 self, 1 turn, 2 shift, 3 mirrored -/
def rd_Copy___init (Γ : CL) : RS := (rSeq (rDrop (rCl (sp_check_turn Γ) (rCons (rVar 1) rNil)))
 (rSeq (rDrop (rCl (sp_check_spot Γ) (rCons (rVar 2) rNil)))
 (rSeq (rFldS Γ.Copy "turn" (rVar 0) (rVar 1))
 (rSeq (rFldS Γ.Copy "shift" (rVar 0) (rVar 2))
 (rSeq (rFldS Γ.Copy "mirrored" (rVar 0) (rVar 3))
 (rFldS Γ.Copy "key" (rVar 0) (rTup (rCons (rVar 1) (rCons (rVar 2) (rCons (rVar 3) rNil))))))))))
/-- Copy.__rshift__(self, other) : 0 self, 1 other, 2 turn -/
def rd_Copy___rshift (Γ : CL) : RS := (rSeq (rAsg (rIfE (rB (rFld Γ.Copy "mirrored" (rVar 1))) (rCl (sp_turned_over Γ) (rCons (rFld Γ.Copy "turn" (rVar 0)) rNil)) (rFld Γ.Copy "turn" (rVar 0))) (rGN 2))
 (rRet (rMakeK (gMake Γ.Copy (sp_Copy___init Γ)) 2 1 gD_Copy_mirrored (rCons (rCl (sp_multiplied Γ) (rCons (rFld Γ.Copy "turn" (rVar 1)) (rCons (rVar 2) rNil))) (rCons (rCl (sp_carried Γ) (rCons (rVar 1) (rCons (rFld Γ.Copy "shift" (rVar 0)) rNil))) rNil)) (rCons (rOp gNe (rFld Γ.Copy "mirrored" (rVar 0)) (rFld Γ.Copy "mirrored" (rVar 1))) rNil))))
/-- Copy.__invert__(self) : 0 self, 1 back, 2 shift -/
def rd_Copy___invert (Γ : CL) : RS := (rSeq (rAsg (rCl (sp_inverse Γ) (rCons (rIfE (rB (rFld Γ.Copy "mirrored" (rVar 0))) (rCl (sp_turned_over Γ) (rCons (rFld Γ.Copy "turn" (rVar 0)) rNil)) (rFld Γ.Copy "turn" (rVar 0))) rNil)) (rGN 1))
 (rSeq (rAsg (rIfE (rB (rFld Γ.Copy "mirrored" (rVar 0))) (rCl (sp_turned_over Γ) (rCons (rFld Γ.Copy "shift" (rVar 0)) rNil)) (rFld Γ.Copy "shift" (rVar 0))) (rGN 2))
 (rRet (rMakeK (gMake Γ.Copy (sp_Copy___init Γ)) 2 1 gD_Copy_mirrored (rCons (rVar 1) (rCons (rCl (sp_opposite Γ) (rCons (rCl (sp_multiplied Γ) (rCons (rVar 1) (rCons (rVar 2) rNil))) rNil)) rNil)) (rCons (rFld Γ.Copy "mirrored" (rVar 0)) rNil)))))
/-- Copy.growth(self) : 0 self -/
def rd_Copy_growth (Γ : CL) : RS := (rRet (rCl (sp_size Γ) (rCons (rFld Γ.Copy "turn" (rVar 0)) rNil)))
/-- _law_random(_law_script, _law_salt) : 0 _law_script, 1 _law_salt, 2 _law_seed, 3 _law_cell -/
def rd_law_random (Γ : CL) : RS := (rSeq (rAsg (rVar 1) (rGN 2))
 (rSeq (rFor (rILst (rVar 0)) (rGN 3)
 (rAsg (rOp gMod (rOp gAdd (rOp gMul (rVar 2) (rC (.int 31))) (rCl gAbs (rCons (rVar 3) rNil))) (rC (.int 2147483647))) (rGN 2)))
 (rRet (rOp gAddM (rLst (rCons (rVar 2) (rCons (rC (.int 0)) rNil))) (rLc (rILst (rVar 0)) (rGN 3) (rB (rOp gGe (rVar 3) (rOp gPow (rC (.int 10)) (rC (.int 18))))) (rVar 3) [3])))))
/-- _law_below(_law_d, _law_limit) : 0 _law_d, 1 _law_limit, 2 _law_result -/
def rd_law_below (Γ : CL) : RS := (rSeq (rIf (rAnd (rB (rOp gEq (rOp gIx (rVar 0) (rC (.int 1))) (rC (.int 0)))) (rB (rOp gGt (rCl gLen (rCons (rVar 0) rNil)) (rC (.int 2)))))
 (rSetIx (rMut (rVar 0) (rCons (rC (.int 2)) rNil) gPopAt) (rVar 0) (rC (.int 1)))
 rNext)
 (rSeq (rIf (rB (rOp gGt (rOp gIx (rVar 0) (rC (.int 1))) (rC (.int 0))))
 (rSeq (rAsg (rOp gMod (rOp gIx (rVar 0) (rC (.int 1))) (rVar 1)) (rGN 2))
 (rSeq (rSetIx (rOp gDiv (rOp gIx (rVar 0) (rC (.int 1))) (rVar 1)) (rVar 0) (rC (.int 1)))
 (rRet (rVar 2))))
 rNext)
 (rSeq (rSetIx (rOp gMod (rOp gAdd (rOp gMul (rOp gIx (rVar 0) (rC (.int 0))) (rC (.int 48271))) (rC (.int 11))) (rC (.int 2147483647))) (rVar 0) (rC (.int 0)))
 (rRet (rOp gMod (rOp gDiv (rOp gIx (rVar 0) (rC (.int 0))) (rC (.int 64))) (rVar 1))))))
/-- _law_turn(_law_d) : 0 _law_d, 1 _law_some -/
def rd_law_turn (Γ : CL) : RS := (rSeq (rAsg (rLst (rCons (rTup (rCons (rC (.int 1)) (rCons (rC (.int 0)) (rCons (rC (.int 1)) rNil)))) (rCons (rTup (rCons (rOp gSub (rC (.int 0)) (rC (.int 1))) (rCons (rC (.int 0)) (rCons (rC (.int 1)) rNil)))) (rCons (rTup (rCons (rC (.int 0)) (rCons (rC (.int 1)) (rCons (rC (.int 1)) rNil)))) (rCons (rTup (rCons (rC (.int 0)) (rCons (rOp gSub (rC (.int 0)) (rC (.int 1))) (rCons (rC (.int 1)) rNil)))) (rCons (rTup (rCons (rC (.int 2)) (rCons (rC (.int 0)) (rCons (rC (.int 1)) rNil)))) (rCons (rTup (rCons (rC (.int 1)) (rCons (rC (.int 0)) (rCons (rC (.int 2)) rNil)))) (rCons (rTup (rCons (rC (.int 1)) (rCons (rC (.int 1)) (rCons (rC (.int 1)) rNil)))) (rCons (rTup (rCons (rC (.int 3)) (rCons (rC (.int 4)) (rCons (rC (.int 5)) rNil)))) rNil))))))))) (rGN 1))
 (rSeq (rAsg (rOp gAdd (rVar 1) (rLst (rCons (rTup (rCons (rC (.int 0)) (rCons (rC (.int 2)) (rCons (rC (.int 1)) rNil)))) (rCons (rTup (rCons (rOp gSub (rC (.int 0)) (rC (.int 1))) (rCons (rC (.int 0)) (rCons (rC (.int 3)) rNil)))) (rCons (rTup (rCons (rC (.int 1)) (rCons (rOp gSub (rC (.int 0)) (rC (.int 1))) (rCons (rC (.int 2)) rNil)))) (rCons (rTup (rCons (rC (.int 2)) (rCons (rC (.int 1)) (rCons (rC (.int 1)) rNil)))) (rCons (rTup (rCons (rOp gSub (rC (.int 0)) (rC (.int 4))) (rCons (rC (.int 3)) (rCons (rC (.int 5)) rNil)))) rNil))))))) (rGN 1))
 (rRet (rOp gIx (rVar 1) (rCl (sp_law_below Γ) (rCons (rVar 0) (rCons (rC (.int 13)) rNil)))))))
/-- _law_common(_law_one, _law_other) : 0 _law_one, 1 _law_other -/
def rd_law_common (Γ : CL) : RS := (rSeq (rPar 0 1 (rCons (rCl gAbs (rCons (rVar 0) rNil)) (rCons (rCl gAbs (rCons (rVar 1) rNil)) rNil)))
 (rSeq (rWhile (rB (rOp gGt (rVar 1) (rC (.int 0)))) (rPar 0 1 (rCons (rVar 1) (rCons (rOp gMod (rVar 0) (rVar 1)) rNil))))
 (rRet (rVar 0))))
/-- _law_lowest(_law_x, _law_y, _law_q) : 0 _law_x, 1 _law_y, 2 _law_q, 3 _law_common_now -/
def rd_law_lowest (Γ : CL) : RS := (rSeq (rAsg (rCl (sp_law_common Γ) (rCons (rCl (sp_law_common Γ) (rCons (rVar 0) (rCons (rVar 1) rNil))) (rCons (rVar 2) rNil))) (rGN 3))
 (rSeq (rAsg (rIfE (rB (rOp gGt (rVar 2) (rC (.int 0)))) (rVar 3) (rOp gSub (rC (.int 0)) (rVar 3))) (rGN 3))
 (rRet (rTup (rCons (rOp gDiv (rVar 0) (rVar 3)) (rCons (rOp gDiv (rVar 1) (rVar 3)) (rCons (rOp gDiv (rVar 2) (rVar 3)) rNil)))))))
/-- _law_spot(_law_d) : 0 _law_d, 1 _law_below_here -/
def rd_law_spot (Γ : CL) : RS := (rSeq (rAsg (rOp gIx (rLst (rCons (rC (.int 1)) (rCons (rC (.int 1)) (rCons (rC (.int 1)) (rCons (rC (.int 2)) (rCons (rC (.int 3)) (rCons (rC (.int 4)) rNil))))))) (rCl (sp_law_below Γ) (rCons (rVar 0) (rCons (rC (.int 6)) rNil)))) (rGN 1))
 (rRet (rCl (sp_law_lowest Γ) (rCons (rOp gSub (rCl (sp_law_below Γ) (rCons (rVar 0) (rCons (rC (.int 13)) rNil))) (rC (.int 6))) (rCons (rOp gSub (rCl (sp_law_below Γ) (rCons (rVar 0) (rCons (rC (.int 13)) rNil))) (rC (.int 6))) (rCons (rVar 1) rNil))))))
/-- _law_equal(_law_actual, _law_expected) : 0 _law_actual, 1 _law_expected, 2 _law_k -/
def rd_law_equal (Γ : CL) (m : Nat) : RS := (rSeq (rIf (rB (rOp gIsN (rVar 1) (rC .non)))
 (rRet (rOp gIsN (rVar 0) (rC .non)))
 rNext)
 (rSeq (rIf (rB (rCl gIsi (rCons (rVar 1) (rCons (rC (.ty "bool")) rNil))))
 (rRet (rAndV (rCl gIsi (rCons (rVar 0) (rCons (rC (.ty "bool")) rNil))) (rOp gEq (rVar 0) (rVar 1))))
 rNext)
 (rSeq (rIf (rB (rCl gIsi (rCons (rVar 1) (rCons (rC (.ty "int")) rNil))))
 (rRet (rAndV (rCl gIsi (rCons (rVar 0) (rCons (rC (.ty "int")) rNil))) (rAndV (rNotV (rCl gIsi (rCons (rVar 0) (rCons (rC (.ty "bool")) rNil)))) (rOp gEq (rVar 0) (rVar 1)))))
 rNext)
 (rSeq (rIf (rB (rCl gIsi (rCons (rVar 1) (rCons (rC (.ty "str")) rNil))))
 (rRet (rAndV (rCl gIsi (rCons (rVar 0) (rCons (rC (.ty "str")) rNil))) (rOp gEq (rVar 0) (rVar 1))))
 rNext)
 (rSeq (rIf (rB (rOp gNe (rCl gIsi (rCons (rVar 1) (rCons (rC (.ty "tuple")) rNil))) (rCl gIsi (rCons (rVar 0) (rCons (rC (.ty "tuple")) rNil)))))
 (rRet (rC (.bl false)))
 rNext)
 (rSeq (rIf (rB (rOp gNe (rCl gIsi (rCons (rVar 1) (rCons (rC (.ty "list")) rNil))) (rCl gIsi (rCons (rVar 0) (rCons (rC (.ty "list")) rNil)))))
 (rRet (rC (.bl false)))
 rNext)
 (rSeq (rIf (rB (rOp gNe (rCl gLen (rCons (rVar 0) rNil)) (rCl gLen (rCons (rVar 1) rNil))))
 (rRet (rC (.bl false)))
 rNext)
 (rRet (rCl gAll (rCons (rLc (rIRng1 (rCons (rCl gLen (rCons (rVar 1) rNil)) rNil)) (rGN 2) rTrue (rCl (sp_law_equal Γ m) (rCons (rOp gIx (rVar 0) (rVar 2)) (rCons (rOp gIx (rVar 1) (rVar 2)) rNil))) [2]) rNil))))))))))
/-- _law_plus(_law_one, _law_other) : 0 _law_one, 1 _law_other, 2 _law_x, 3 _law_y -/
def rd_law_plus (Γ : CL) : RS := (rSeq (rAsg (rOp gAdd (rOp gMul (rOp gIx (rVar 0) (rC (.int 0))) (rOp gIx (rVar 1) (rC (.int 2)))) (rOp gMul (rOp gIx (rVar 1) (rC (.int 0))) (rOp gIx (rVar 0) (rC (.int 2))))) (rGN 2))
 (rSeq (rAsg (rOp gAdd (rOp gMul (rOp gIx (rVar 0) (rC (.int 1))) (rOp gIx (rVar 1) (rC (.int 2)))) (rOp gMul (rOp gIx (rVar 1) (rC (.int 1))) (rOp gIx (rVar 0) (rC (.int 2))))) (rGN 3))
 (rRet (rCl (sp_law_lowest Γ) (rCons (rVar 2) (rCons (rVar 3) (rCons (rOp gMul (rOp gIx (rVar 0) (rC (.int 2))) (rOp gIx (rVar 1) (rC (.int 2)))) rNil)))))))
/-- _law_times(_law_one, _law_other) : 0 _law_one, 1 _law_other, 2 _law_x, 3 _law_y -/
def rd_law_times (Γ : CL) : RS := (rSeq (rAsg (rOp gSub (rOp gMul (rOp gIx (rVar 0) (rC (.int 0))) (rOp gIx (rVar 1) (rC (.int 0)))) (rOp gMul (rOp gIx (rVar 0) (rC (.int 1))) (rOp gIx (rVar 1) (rC (.int 1))))) (rGN 2))
 (rSeq (rAsg (rOp gAdd (rOp gMul (rOp gIx (rVar 0) (rC (.int 0))) (rOp gIx (rVar 1) (rC (.int 1)))) (rOp gMul (rOp gIx (rVar 0) (rC (.int 1))) (rOp gIx (rVar 1) (rC (.int 0))))) (rGN 3))
 (rRet (rCl (sp_law_lowest Γ) (rCons (rVar 2) (rCons (rVar 3) (rCons (rOp gMul (rOp gIx (rVar 0) (rC (.int 2))) (rOp gIx (rVar 1) (rC (.int 2)))) rNil)))))))
/-- _law_over(_law_one) : 0 _law_one -/
def rd_law_over (Γ : CL) : RS := (rRet (rTup (rCons (rOp gIx (rVar 0) (rC (.int 0))) (rCons (rOp gSub (rC (.int 0)) (rOp gIx (rVar 0) (rC (.int 1)))) (rCons (rOp gIx (rVar 0) (rC (.int 2))) rNil)))))
/-- _law_carried(_law_told_here, _law_spot_here) : 0 _law_told_here, 1 _law_spot_here -/
def rd_law_carried (Γ : CL) : RS := (rRet (rCl (sp_law_plus Γ) (rCons (rCl (sp_law_times Γ) (rCons (rOp gIx (rVar 0) (rC (.int 0))) (rCons (rIfE (rB (rOp gIx (rVar 0) (rC (.int 2)))) (rCl (sp_law_over Γ) (rCons (rVar 1) rNil)) (rVar 1)) rNil))) (rCons (rOp gIx (rVar 0) (rC (.int 1))) rNil))))
/-- less(one, other) : 0 one, 1 other -/
def rd_less (Γ : CL) : RS := (rRet (rCl (sp_added Γ) (rCons (rVar 0) (rCons (rCl (sp_opposite Γ) (rCons (rVar 1) rNil)) rNil))))
/-- _law_minus(_law_one, _law_other) : 0 _law_one, 1 _law_other -/
def rd_law_minus (Γ : CL) : RS := (rRet (rCl (sp_law_plus Γ) (rCons (rVar 0) (rCons (rTup (rCons (rOp gSub (rC (.int 0)) (rOp gIx (rVar 1) (rC (.int 0)))) (rCons (rOp gSub (rC (.int 0)) (rOp gIx (rVar 1) (rC (.int 1)))) (rCons (rOp gIx (rVar 1) (rC (.int 2))) rNil)))) rNil))))
/-- is_int_in(value, low, high) : 0 value, 1 low, 2 high -/
def rd_is_int_in (Γ : CL) : RS := (rRet (rAndV (rCl gIsi (rCons (rVar 0) (rCons (rC (.ty "int")) rNil))) (rAndV (rNotV (rCl gIsi (rCons (rVar 0) (rCons (rC (.ty "bool")) rNil)))) (rChain gLe gLe (rVar 1) (rVar 0) (rVar 2)))))
/-- _law_step(_law_d, _law_size_now) : 0 _law_d, 1 _law_size_now -/
def rd_law_step (Γ : CL) : RS := (rRet (rTup (rCons (rOp gSub (rCl (sp_law_below Γ) (rCons (rVar 0) (rCons (rOp gAdd (rOp gMul (rC (.int 2)) (rVar 1)) (rC (.int 1))) rNil))) (rVar 1)) (rCons (rOp gSub (rCl (sp_law_below Γ) (rCons (rVar 0) (rCons (rOp gAdd (rOp gMul (rC (.int 2)) (rVar 1)) (rC (.int 1))) rNil))) (rVar 1)) (rCons (rC (.int 1)) rNil)))))
/-- _law_arm_told(_law_d) : 0 _law_d, 1 _law_near, 2 _law_pole -/
def rd_law_arm_told (Γ : CL) : RS := (rSeq (rAsg (rOp gIx (rLst (rCons (rC (.int 0)) (rCons (rC (.int 0)) (rCons (rC (.int 1)) (rCons (rC (.int 2)) rNil))))) (rCl (sp_law_below Γ) (rCons (rVar 0) (rCons (rC (.int 4)) rNil)))) (rGN 1))
 (rSeq (rAsg (rIfE (rB (rOp gGt (rCl (sp_law_below Γ) (rCons (rVar 0) (rCons (rC (.int 3)) rNil))) (rC (.int 0)))) (rCl (sp_law_step Γ) (rCons (rVar 0) (rCons (rC (.int 4)) rNil))) (rCl (sp_law_spot Γ) (rCons (rVar 0) rNil))) (rGN 2))
 (rRet (rTup (rCons (rVar 2) (rCons (rCl (sp_law_turn Γ) (rCons (rVar 0) rNil)) (rCons (rVar 1) (rCons (rOp gAdd (rVar 1) (rOp gIx (rLst (rCons (rC (.int 3)) (rCons (rC (.int 8)) (rCons (rC (.int 20)) (rCons (rC (.int 99)) rNil))))) (rCl (sp_law_below Γ) (rCons (rVar 0) (rCons (rC (.int 4)) rNil))))) (rCons (rOp gEq (rCl (sp_law_below Γ) (rCons (rVar 0) (rCons (rC (.int 3)) rNil))) (rC (.int 0))) rNil)))))))))
/-- Chain.__init__(self, arms) : 0 self, 1 arms -/
def rd_Chain___init (Γ : CL) : RS := (rSeq (rIf (rB (rOp gGt (rCl gLen (rCons (rVar 1) rNil)) (rC c_MAX_ARMS)))
 rNever
 rNext)
 (rFldS Γ.Chain "arms" (rVar 0) (rVar 1)))
/-- Arm.__init__(self, pole, turn, near, far, mirrored) : 0 self, 1 pole, 2 turn, 3 near, 4 far, 5 mirrored -/
def rd_Arm___init (Γ : CL) : RS := (rSeq (rDrop (rCl (sp_check_spot Γ) (rCons (rVar 1) rNil)))
 (rSeq (rDrop (rCl (sp_check_turn Γ) (rCons (rVar 2) rNil)))
 (rSeq (rIf (rOr (rNot (rB (rCl (sp_is_int_in Γ) (rCons (rVar 3) (rCons (rC (.int 0)) (rCons (rC c_MAX_REACH_arms) rNil)))))) (rNot (rB (rCl (sp_is_int_in Γ) (rCons (rVar 4) (rCons (rVar 3) (rCons (rC c_MAX_REACH_arms) rNil)))))))
 rNever
 rNext)
 (rSeq (rFldS Γ.Arm "pole" (rVar 0) (rVar 1))
 (rSeq (rFldS Γ.Arm "turn" (rVar 0) (rVar 2))
 (rSeq (rFldS Γ.Arm "near" (rVar 0) (rVar 3))
 (rSeq (rFldS Γ.Arm "far" (rVar 0) (rVar 4))
 (rSeq (rFldS Γ.Arm "mirrored" (rVar 0) (rVar 5))
 (rFldS Γ.Arm "key" (rVar 0) (rTup (rCons (rVar 1) (rCons (rVar 2) (rCons (rVar 3) (rCons (rVar 4) (rCons (rVar 5) rNil)))))))))))))))
/-- _law_arm(_law_told) : 0 _law_told -/
def rd_law_arm (Γ : CL) : RS := (rRet (rMakeK (gMake Γ.Arm (sp_Arm___init Γ)) 4 1 gD_Arm_mirrored (rCons (rOp gIx (rVar 0) (rC (.int 0))) (rCons (rOp gIx (rVar 0) (rC (.int 1))) (rCons (rOp gIx (rVar 0) (rC (.int 2))) (rCons (rOp gIx (rVar 0) (rC (.int 3))) rNil)))) (rCons (rOp gIx (rVar 0) (rC (.int 4))) rNil)))
/-- Chain.__add__(self, other) : 0 self, 1 other, 2 arms -/
def rd_Chain___add (Γ : CL) : RS := (rSeq (rAsg (rTup (rStar (rFld Γ.Chain "arms" (rVar 0)) (rStar (rFld Γ.Chain "arms" (rVar 1)) rNil))) (rGN 2))
 (rRet (rCl (gMakeS Γ.Chain (sp_Chain___init Γ)) (rStar (rVar 2) rNil))))
/-- _law_chain(_law_tolds) : 0 _law_tolds, 1 _law_chain_here, 2 _law_told -/
def rd_law_chain (Γ : CL) : RS := (rSeq (rAsg (rCl (gMakeS Γ.Chain (sp_Chain___init Γ)) rNil) (rGN 1))
 (rSeq (rFor (rILst (rVar 0)) (rGN 2)
 (rAsg (rOp (gOwn2 Γ.Chain (sp_Chain___add Γ)) (rVar 1) (rCl (gMakeS Γ.Chain (sp_Chain___init Γ)) (rCons (rCl (sp_law_arm Γ) (rCons (rVar 2) rNil)) rNil))) (rGN 1)))
 (rRet (rVar 1))))
/-- copy_about(pole, turn, mirrored) : 0 pole, 1 turn, 2 mirrored, 3 carried -/
def rd_copy_about (Γ : CL) : RS := (rSeq (rAsg (rCl (sp_multiplied Γ) (rCons (rVar 1) (rCons (rIfE (rB (rVar 2)) (rCl (sp_turned_over Γ) (rCons (rVar 0) rNil)) (rVar 0)) rNil))) (rGN 3))
 (rRet (rMakeK (gMake Γ.Copy (sp_Copy___init Γ)) 2 1 gD_Copy_mirrored (rCons (rVar 1) (rCons (rCl (sp_less Γ) (rCons (rVar 0) (rCons (rVar 3) rNil))) rNil)) (rCons (rVar 2) rNil))))
/-- Arm.effect(self) : 0 self -/
def rd_Arm_effect (Γ : CL) : RS := (rRet (rCl (sp_copy_about Γ) (rCons (rFld Γ.Arm "pole" (rVar 0)) (rCons (rFld Γ.Arm "turn" (rVar 0)) (rCons (rFld Γ.Arm "mirrored" (rVar 0)) rNil)))))
/-- copies_ahead(arms) : 0 arms, 1 found, 2 arm -/
def rd_copies_ahead (Γ : CL) : RS := (rSeq (rAsg (rLstM (rCons (rMakeD (gMake Γ.Copy (sp_Copy___init Γ)) [.bl false] (rCons (rC c_ONE) (rCons (rC c_ZERO) rNil))) rNil)) (rGN 1))
 (rSeq (rFor (rITup (rVar 0)) (rGN 2)
 (rDrop (rMut (rVar 1) (rCons (rOp (gOwn2 Γ.Copy (sp_Copy___rshift Γ)) (rOp gIx (rVar 1) (rUn (gU fun i => .int (-i)) (rC (.int 1)))) (rOwn Γ.Arm (sp_Arm_effect Γ) (rVar 2) rNil)) rNil) gAppend)))
 (rRet (rFrz (rVar 1)))))
/-- zones(chain) : 0 chain, 1 found, 2 arm, 3 ahead, 4 growth, 5 ends, 6 reach -/
def rd_zones (Γ : CL) : RS := (rSeq (rAsg (rLstM rNil) (rGN 1))
 (rSeq (rFor (rIZip (rCons (rFld Γ.Chain "arms" (rVar 0)) (rCons (rCl (sp_copies_ahead Γ) (rCons (rFld Γ.Chain "arms" (rVar 0)) rNil)) rNil))) (rGTup 2 (rGCons (rGN 2) (rGCons (rGN 3) rGNil)))
 (rSeq (rAsg (rOwn Γ.Copy (sp_Copy_growth Γ) (rVar 3) rNil) (rGN 4))
 (rSeq (rAsg (rLc (rITup (rTup (rCons (rFld Γ.Arm "near" (rVar 2)) (rCons (rFld Γ.Arm "far" (rVar 2)) rNil)))) (rGN 6) rTrue (rCl (sp_ratio Γ) (rCons (rOp gMul (rOp gMul (rVar 6) (rVar 6)) (rOp gIx (rVar 4) (rC (.int 1)))) (rCons (rOp gIx (rVar 4) (rC (.int 0))) rNil))) [6]) (rGN 5))
 (rDrop (rMut (rVar 1) (rCons (rTup (rCons (rCl (sp_carried Γ) (rCons (rUn (gOwn1 Γ.Copy (sp_Copy___invert Γ)) (rVar 3)) (rCons (rFld Γ.Arm "pole" (rVar 2)) rNil))) (rCons (rOp gIx (rVar 5) (rC (.int 0))) (rCons (rOp gIx (rVar 5) (rC (.int 1))) rNil)))) rNil) gAppend)))))
 (rRet (rFrz (rVar 1)))))
/-- _law_ratio(_law_p, _law_q) : 0 _law_p, 1 _law_q -/
def rd_law_ratio (Γ : CL) : RS := (rRet (rTup (rCons (rOp gIx (rCl (sp_law_lowest Γ) (rCons (rVar 0) (rCons (rC (.int 0)) (rCons (rVar 1) rNil)))) (rC (.int 0))) (rCons (rOp gIx (rCl (sp_law_lowest Γ) (rCons (rVar 0) (rCons (rC (.int 0)) (rCons (rVar 1) rNil)))) (rC (.int 2))) rNil))))
/-- _law_size(_law_one) : 0 _law_one -/
def rd_law_size (Γ : CL) : RS := (rRet (rCl (sp_law_ratio Γ) (rCons (rOp gAdd (rOp gMul (rOp gIx (rVar 0) (rC (.int 0))) (rOp gIx (rVar 0) (rC (.int 0)))) (rOp gMul (rOp gIx (rVar 0) (rC (.int 1))) (rOp gIx (rVar 0) (rC (.int 1))))) (rCons (rOp gMul (rOp gIx (rVar 0) (rC (.int 2))) (rOp gIx (rVar 0) (rC (.int 2)))) rNil))))
/-- _law_less(_law_one, _law_other) : 0 _law_one, 1 _law_other -/
def rd_law_less (Γ : CL) : RS := (rRet (rOp gLt (rOp gMul (rOp gIx (rVar 0) (rC (.int 0))) (rOp gIx (rVar 1) (rC (.int 1)))) (rOp gMul (rOp gIx (rVar 1) (rC (.int 0))) (rOp gIx (rVar 0) (rC (.int 1))))))
/-- _law_reached(_law_told, _law_spot_here) : 0 _law_told, 1 _law_spot_here, 2 _law_distance -/
def rd_law_reached (Γ : CL) : RS := (rSeq (rAsg (rCl (sp_law_size Γ) (rCons (rCl (sp_law_minus Γ) (rCons (rVar 1) (rCons (rOp gIx (rVar 0) (rC (.int 0))) rNil))) rNil)) (rGN 2))
 (rRet (rAndV (rNotV (rCl (sp_law_less Γ) (rCons (rVar 2) (rCons (rTup (rCons (rOp gMul (rOp gIx (rVar 0) (rC (.int 2))) (rOp gIx (rVar 0) (rC (.int 2)))) (rCons (rC (.int 1)) rNil))) rNil)))) (rNotV (rCl (sp_law_less Γ) (rCons (rTup (rCons (rOp gMul (rOp gIx (rVar 0) (rC (.int 3))) (rOp gIx (rVar 0) (rC (.int 3)))) (rCons (rC (.int 1)) rNil))) (rCons (rVar 2) rNil)))))))
/-- _law_about(_law_told) : 0 _law_told, 1 _law_pole, 2 _law_turn_here, 3 _law_near, 4 _law_far, 5 _law_flipped, 6 _law_carried_to -/
def rd_law_about (Γ : CL) : RS := (rSeq (rAsg (rVar 0) (rGTup 5 (rGCons (rGN 1) (rGCons (rGN 2) (rGCons (rGN 3) (rGCons (rGN 4) (rGCons (rGN 5) rGNil)))))))
 (rSeq (rAsg (rCl (sp_law_times Γ) (rCons (rVar 2) (rCons (rIfE (rB (rVar 5)) (rCl (sp_law_over Γ) (rCons (rVar 1) rNil)) (rVar 1)) rNil))) (rGN 6))
 (rRet (rTup (rCons (rVar 2) (rCons (rCl (sp_law_minus Γ) (rCons (rVar 1) (rCons (rVar 6) rNil))) (rCons (rVar 5) rNil)))))))
end L3

/-! ## V1 -/
set_option Elab.async false
set_option linter.all false
set_option maxRecDepth 100000
set_option maxHeartbeats 4000000
namespace L3
open PySem NM L2
abbrev fin (R : D → MH → Prop) : Ed := { nx := fun _ μ' => R .non μ', rt := R }
theorem ite_no {c : Prop} [Decidable c] {a b : Prop} (h : ¬ c) (q : b) : if c then a else b := by
  rw [if_neg h]
  exact q
theorem ite_yes {c : Prop} [Decidable c] {a b : Prop} (h : c) (q : a) : if c then a else b := by
  rw [if_pos h]
  exact q
theorem ln {n : Nat} (h : n ≤ 1000) : (n ≤ sizeLine) = True := eq_true (Nat.le_trans h (by decide))
local macro_rules | `(tactic| walk_at "d") => `(tactic| (try (simp only [rSeq, rAsg, rRet, rRetN, rDrop, rIf, rNext, rPar, rPar3, rCons, rNil, rStar, rCl, rOp, rUn, rVar, rC, rGN, rTup, rLst, rB, rAnd, rOr, rNot, rIfE, rAndV, rOrV, rNotV, rNever, rFld, rOwn, rMeth, rMakeK, rMakeD, rFldS, rFrz, rSetIx, rMut, rILst, rITup, rIRng1, rIRng2, rFor, rLc, rLcM, rTrue, gt, st, gI, gI0, gU, gIx, gEq, gNe, gAdd, gSub, gMul, gDiv, gMod, gPow, gLt, gLe, gGt, gGe, gIsi, gAbs, gLen, gAll, gIsN, gNotN, gOwn1, gOwn2, isNonD, seqD, res, atI_0, atI_1, atI_2, atI_3, atI_4, List.getElem?_cons_zero, List.getElem?_cons_succ, List.length_cons, List.length_nil, decide_eq_true_eq, List.map_cons, List.map_nil, startD, List.cons_append, List.nil_append, List.replicate, Nat.zero_add, numD, if_true, if_false, Bool.false_eq_true, and_self, true_and, ite_true, ite_false, Nat.reduceAdd, Nat.reduceSub, ln, Nat.reduceLeDiff, fin, String.reduceBEq, Bool.not_true, Bool.not_false, pureN, deq_int, deq_tt, deq_t0, deq_bl, List.all_cons, List.all_nil, Bool.and_true, Bool.true_and, Bool.and_eq_true, List.append_nil])))

theorem vc_is_int (Γ : CL) : ∀ ds μ R, sp_is_int Γ ds μ R → rd_is_int Γ (fin R) (startD 1 ds) μ := by
  intro ds μ R h
  unfold sp_is_int at h
  split at h <;> first | exact h.elim | skip
  all_goals (unfold rd_is_int; walk_at "d"; simp only [isiD]; exact ⟨by decide, by simpa [isiD, tyOK] using h⟩)

/-! ### gcd -/
theorem gz_step {a b : Int} (ha : 0 ≤ a) (hb : 0 < b) : gz b (a.fmod b) = gz a b := by
  rw [Int.fmod_eq_emod_of_nonneg _ (by omega)]
  obtain ⟨n, rfl⟩ := Int.eq_ofNat_of_zero_le ha
  obtain ⟨m, rfl⟩ := Int.eq_ofNat_of_zero_le (show 0 ≤ b by omega)
  unfold gz
  rw [show ((n : Int) % (m : Int)) = ((n % m : Nat) : Int) by simp]
  simp only [Int.gcd_natCast_natCast]
  rw [Nat.gcd_comm m (n % m), Nat.gcd_comm n m, ← Nat.gcd_rec]
theorem gz_abs (a b : Int) : gz (if a < 0 then -a else a) (if b < 0 then -b else b) = gz a b := by
  unfold gz
  split <;> split <;> simp
theorem gz_zero {a : Int} (h : 0 ≤ a) : gz a 0 = a := by
  unfold gz
  rw [Int.gcd_zero_right]
  omega
theorem vc_common_divisor (Γ : CL) : ∀ ds μ R, sp_common_divisor Γ ds μ R → rd_common_divisor Γ (fin R) (startD 2 ds) μ := by
  intro ds μ R h
  unfold sp_common_divisor at h
  split at h <;> first | exact h.elim | skip
  rename_i a b
  unfold rd_common_divisor
  walk_at "d"
  rw [← gz_abs a b] at h
  have na : 0 ≤ (if a < 0 then -a else a) := by split <;> omega
  have nb : 0 ≤ (if b < 0 then -b else b) := by split <;> omega
  generalize (if a < 0 then -a else a) = a at *
  generalize (if b < 0 then -b else b) = b at *
  refine ⟨fun ρ μ' => ∃ u v : Int, ρ = [some (.int u), some (.int v)] ∧ 0 ≤ u ∧ 0 ≤ v ∧ gz u v = gz a b ∧ μ' = μ, fun ρ _ => match gt ρ 1 with | some (.int v) => v.toNat | _ => 0, ⟨a, b, rfl, na, nb, rfl, rfl⟩, ?_⟩
  rintro ρ μ' ⟨u, v, rfl, hu, hv, e, rfl⟩
  walk_at "d"
  split
  · rename_i hp
    refine ⟨by omega, ⟨_, _, rfl, hv, ?_, ?_, trivial⟩, ?_⟩
    · rw [Int.fmod_eq_emod_of_nonneg _ hv]; exact Int.emod_nonneg _ (by omega)
    · rw [gz_step hu hp]; exact e
    · rw [Int.fmod_eq_emod_of_nonneg _ hv]
      have := Int.emod_lt_of_pos u hp
      omega
  · rename_i hp
    have : v = 0 := by omega
    subst this
    rw [gz_zero hu] at e
    rw [e]
    exact h
theorem bt_gz {n : Nat} {a b : Int} (h : b ≠ 0) (hb : Bt n b) : Bt n (gz a b) := by
  refine hb.le ?_
  have := Int.natAbs_dvd_natAbs.mpr (gz_dr a b)
  exact Nat.le_of_dvd (by omega) this
theorem gz_ne {a b : Int} (h : b ≠ 0) : gz a b ≠ 0 := by have := gz_pos (a := a) h; omega
theorem vc_ratio (Γ : CL) : ∀ ds μ R, sp_ratio Γ ds μ R → rd_ratio Γ (fin R) (startD 3 ds) μ := by
  intro ds μ R h
  unfold sp_ratio at h
  split at h <;> first | exact h.elim | skip
  obtain ⟨h1, h2, h⟩ := h
  unfold rd_ratio
  walk_at "d"
  simp only [sp_common_divisor]
  walk_at "d"
  exact ⟨⟨gz_ne h1, bt_gz h1 h2⟩, ⟨gz_ne h1, bt_gz h1 h2⟩, h⟩
theorem bt1 : Bt big 1 := Bt.mono (n := 1) (by unfold Bt; decide) (by decide)
theorem btm1 : Bt big (-1) := Bt.mono (n := 1) (by unfold Bt; decide) (by decide)
theorem vc_lowest (Γ : CL) : ∀ ds μ R, sp_lowest Γ ds μ R → rd_lowest Γ (fin R) (startD 5 ds) μ := by
  intro ds μ R h
  unfold sp_lowest at h
  split at h <;> first | exact h.elim | skip
  rename_i x y d
  obtain ⟨h1, hx, hy, hd, h⟩ := h
  unfold rd_lowest
  walk_at "d"
  simp only [sp_common_divisor]
  walk_at "d"
  have g1 := gz_ne (a := gz x y) h1
  have g2 := bt_gz (a := gz x y) h1 hd
  unfold low at h
  simp only [numD] at h
  split <;> rename_i hp
  · simp only [if_pos hp] at h
    exact ⟨⟨bt1, hx⟩, ⟨g1, g2⟩, ⟨bt1, hy⟩, ⟨g1, g2⟩, ⟨bt1, hd⟩, ⟨g1, g2⟩, h⟩
  · simp only [if_neg hp] at h
    exact ⟨⟨btm1, hx⟩, ⟨g1, g2⟩, ⟨btm1, hy⟩, ⟨g1, g2⟩, ⟨btm1, hd⟩, ⟨g1, g2⟩, h⟩
/-- a comprehension whose element and test are functions -/
theorem lcD_map {i : Nat} {f : RX} {ρ : EV} {g : D → D} {R : List D → MH → Prop} {μ : MH} : ∀ (ds acc : List D), (∀ d ∈ ds, ∀ Q : D → MH → Prop, Q (g d) μ → f (st ρ i d) μ Q) → R (acc ++ ds.map g) μ → lcD (rGN i) rTrue f tru ρ ds acc μ R
  | [], acc, _, h => by
    rw [List.map_nil, List.append_nil] at h
    exact ⟨trivial, h⟩
  | d :: r, acc, hf, h => by
    refine ⟨trivial, ?_⟩
    simp only [rGN, rTrue, if_true]
    refine hf d (List.mem_cons_self ..) _ ?_
    refine lcD_map r _ (fun e he => hf e (List.mem_cons_of_mem _ he)) ?_
    rw [List.append_assoc]
    exact h
def isIntD : D → Bool
  | .int _ => true
  | _ => false
theorem sp_is_int_i {Γ : CL} {d : D} {μ : MH} {Q : D → MH → Prop} (h : okD d = true) (q : Q (.bl (isIntD d)) μ) : sp_is_int Γ [d] μ Q := by
  cases d <;> first | exact q | cases h
theorem bools_map {f : D → Bool} : ∀ ds : List D, bools (ds.map fun d => .bl (f d)) = some (ds.map f)
  | [] => rfl
  | d :: r => by
    show (bools (r.map fun d => .bl (f d))).map (f d :: ·) = _
    rw [bools_map r]
    rfl
theorem deq_num {a b : Num} : deq (numD a) (numD b) = decide (a = b) := by
  unfold numD
  rw [deq_tt, deq_tt, deq_tt, deq_t0, deq_int, deq_int, deq_int]
  by_cases h : a = b
  · subst h
    simp
  · rw [decide_eq_false h]
    obtain ⟨x, y, d⟩ := a
    obtain ⟨u, v, w⟩ := b
    by_cases h1 : x = u <;> by_cases h2 : y = v <;> by_cases h3 : d = w <;> simp_all
theorem all3 {ds : List D} (h : ds.length = 3) : ∃ a b c, ds = [a, b, c] := by
  match ds, h with
  | [a, b, c], _ => exact ⟨a, b, c, rfl⟩
theorem isNum_len {ds : List D} (h : ds.length ≠ 3) : isNumD (.tup ds) = false := by
  unfold isNumD
  split
  · rename_i e
    cases e
    exact absurd rfl h
  · rfl
theorem isNum_ints {a b c : D} (h : [a, b, c].all isIntD = false) : isNumD (.tup [a, b, c]) = false := by
  unfold isNumD
  split
  · rename_i e
    cases e
    cases h
  · rfl
theorem int_of {d : D} (h : isIntD d = true) : ∃ i, d = .int i := by
  cases d <;> first | exact ⟨_, rfl⟩ | cases h
theorem vc_is_number (Γ : CL) : ∀ ds μ R, sp_is_number Γ ds μ R → rd_is_number Γ (fin R) (startD 2 ds) μ := by
  intro ds μ R h
  unfold sp_is_number at h
  split at h <;> first | exact h.elim | skip
  rename_i d
  obtain ⟨⟨ok, h1⟩, h⟩ := h
  unfold rd_is_number
  walk_at "d"
  cases d with
  | tup ds =>
    obtain ⟨ha, hb⟩ := h1 ds rfl
    walk_at "d"
    simp only [isiD]
    refine ⟨by decide, ?_⟩
    walk_at "d"
    split
    · rename_i hl
      have hl' : ds.length ≠ 3 := fun e => by rw [e] at hl; simp at hl
      rw [isNum_len hl'] at h
      exact h
    · rename_i hl
      have hl' : ds.length = 3 := by
        have hl2 : ((ds.length : Int) == 3) = true := by simpa using hl
        have := eq_of_beq hl2
        omega
      obtain ⟨a, b, c, rfl⟩ := all3 hl'
      refine ⟨by show 3 ≤ sizeLine; decide, ?_⟩
      refine lcD_map (g := fun d => .bl (isIntD d)) _ _ (fun e he Q q => ?_) ?_
      · simp only [rms, rm, st, rCl, rCons, rVar, rNil, gt]
        exact sp_is_int_i (List.all_eq_true.mp ha e he) q
      · rw [List.nil_append, bools_map]
        dsimp only
        split
        · rename_i hn
          rw [isNum_ints (by cases q : [a, b, c].all isIntD with | false => rfl | true => (exfalso; simp_all))] at h
          exact h
        · rename_i hn
          have hn' : isIntD a = true ∧ isIntD b = true ∧ isIntD c = true := by simpa using hn
          obtain ⟨x, rfl⟩ := int_of hn'.1
          obtain ⟨y, rfl⟩ := int_of hn'.2.1
          obtain ⟨z, rfl⟩ := int_of hn'.2.2
          obtain ⟨b1, b2, b3⟩ := hb x y z rfl
          walk_at "d"
          split
          · rename_i hp
            simp only [sp_lowest]
            refine ⟨by omega, b1, b2, b3, ?_⟩
            walk_at "d"
            have e := deq_num (a := low x y z) (b := ⟨x, y, z⟩)
            simp only [numD, deq_tt, deq_t0, deq_int] at e
            have e2 : isNumD (.tup [.int x, .int y, .int z]) = decide (low x y z = ⟨x, y, z⟩) := by
              show (decide (0 < z) && _) = _
              rw [decide_eq_true hp, Bool.true_and]
            rw [e2, ← e] at h
            simpa using h
          · rename_i hp
            have e2 : isNumD (.tup [.int x, .int y, .int z]) = false := by
              show (decide (0 < z) && _) = _
              rw [decide_eq_false hp, Bool.false_and]
            rw [e2] at h
            exact h
  | non => walk_at "d"; simp only [isiD]; refine ⟨by decide, ?_⟩; walk_at "d"; exact h
  | int i => walk_at "d"; simp only [isiD]; refine ⟨by decide, ?_⟩; walk_at "d"; exact h
  | bl i => walk_at "d"; simp only [isiD]; refine ⟨by decide, ?_⟩; walk_at "d"; exact h
  | str i => walk_at "d"; simp only [isiD]; refine ⟨by decide, ?_⟩; walk_at "d"; exact h
  | lst i => walk_at "d"; simp only [isiD]; refine ⟨by decide, ?_⟩; walk_at "d"; exact h
  | _ => cases ok
/-! ### sums and products -/
theorem Sz.big {z : Num} (h : Sz half z) : Sz big z := h.mono (by decide)
theorem bb {a b : Int} (h : Bt half a) (l : Bt half b) : Bt big (a * b) := (h.mul l).mono (by decide)
theorem vc_added (Γ : CL) : ∀ ds μ R, sp_added Γ ds μ R → rd_added Γ (fin R) (startD 2 ds) μ := by
  intro ds μ R h
  unfold sp_added at h
  split at h <;> first | exact h.elim | skip
  obtain ⟨h1, h2, ⟨x1, x2, x3⟩, ⟨y1, y2, y3⟩, h⟩ := h
  unfold rd_added
  walk_at "d"
  simp only [sp_lowest]
  have c : ∀ {a b : Int}, Bt half a → Bt half b → CBig a b := fun h l => ⟨h.mono (by decide), l.mono (by decide)⟩
  refine ⟨c x1 y3, c y1 x3, c x2 y3, c y2 x3, c x3 y3, Int.mul_ne_zero h1 h2, ((x1.mul y3).add (y1.mul x3)).mono (by decide), ((x2.mul y3).add (y2.mul x3)).mono (by decide), bb x3 y3, h⟩
theorem vc_multiplied (Γ : CL) : ∀ ds μ R, sp_multiplied Γ ds μ R → rd_multiplied Γ (fin R) (startD 3 ds) μ := by
  intro ds μ R h
  unfold sp_multiplied at h
  split at h <;> first | exact h.elim | skip
  obtain ⟨h1, h2, ⟨x1, x2, x3⟩, ⟨y1, y2, y3⟩, h⟩ := h
  unfold rd_multiplied
  walk_at "d"
  simp only [sp_lowest]
  have c : ∀ {a b : Int}, Bt half a → Bt half b → CBig a b := fun h l => ⟨h.mono (by decide), l.mono (by decide)⟩
  refine ⟨c x1 y1, c x2 y2, c x1 y2, c x2 y1, c x3 y3, Int.mul_ne_zero h1 h2, ((x1.mul y1).sub (x2.mul y2)).mono (by decide), ((x1.mul y2).add (x2.mul y1)).mono (by decide), bb x3 y3, h⟩
theorem vc_opposite (Γ : CL) : ∀ ds μ R, sp_opposite Γ ds μ R → rd_opposite Γ (fin R) (startD 1 ds) μ := by
  intro ds μ R h
  unfold sp_opposite at h
  split at h <;> first | exact h.elim | skip
  unfold rd_opposite
  walk_at "d"
  exact h
theorem vc_turned_over (Γ : CL) : ∀ ds μ R, sp_turned_over Γ ds μ R → rd_turned_over Γ (fin R) (startD 1 ds) μ := by
  intro ds μ R h
  unfold sp_turned_over at h
  split at h <;> first | exact h.elim | skip
  unfold rd_turned_over
  walk_at "d"
  exact h
theorem vc_inverse (Γ : CL) : ∀ ds μ R, sp_inverse Γ ds μ R → rd_inverse Γ (fin R) (startD 1 ds) μ := by
  intro ds μ R h
  unfold sp_inverse at h
  split at h <;> first | exact h.elim | skip
  obtain ⟨h1, ⟨x1, x2, x3⟩, h⟩ := h
  unfold rd_inverse
  walk_at "d"
  simp only [sp_lowest]
  have c : ∀ {a b : Int}, Bt half a → Bt half b → CBig a b := fun h l => ⟨h.mono (by decide), l.mono (by decide)⟩
  exact ⟨c x1 x3, c x2 x3, c x1 x1, c x2 x2, sq_ne h1, bb x1 x3, ((x2.mul x3).neg).mono (by decide), ((x1.mul x1).add (x2.mul x2)).mono (by decide), h⟩
theorem vc_size (Γ : CL) : ∀ ds μ R, sp_size Γ ds μ R → rd_size Γ (fin R) (startD 1 ds) μ := by
  intro ds μ R h
  unfold sp_size at h
  split at h <;> first | exact h.elim | skip
  obtain ⟨h1, ⟨x1, x2, x3⟩, h⟩ := h
  unfold rd_size
  walk_at "d"
  simp only [sp_ratio]
  have c : ∀ {a b : Int}, Bt half a → Bt half b → CBig a b := fun h l => ⟨h.mono (by decide), l.mono (by decide)⟩
  exact ⟨c x1 x1, c x2 x2, c x3 x3, Int.mul_ne_zero h1 h1, bb x3 x3, h⟩
/-! ### spots -/
theorem is_number_i {Γ : CL} {z : Num} {μ : MH} {Q : D → MH → Prop} (h : Can z) (hz : Sz big z) (q : Q (.bl true) μ) : sp_is_number Γ [numD z] μ Q := by
  refine ⟨⟨rfl, fun ds e => ?_⟩, ?_⟩
  · cases e
    exact ⟨rfl, fun x y w e => by cases e; exact hz⟩
  · have : isNumD (numD z) = true := by
      show (decide (0 < z.d) && decide (low z.x z.y z.d = z)) = true
      rw [decide_eq_true h.1, decide_eq_true (low_self h)]
      rfl
    rw [this]
    exact q
theorem vc_check_spot (Γ : CL) : ∀ ds μ R, sp_check_spot Γ ds μ R → rd_check_spot Γ (fin R) (startD 1 ds) μ := by
  intro ds μ R h
  unfold sp_check_spot at h
  split at h <;> first | exact h.elim | skip
  obtain ⟨h1, h2, h⟩ := h
  unfold rd_check_spot
  walk_at "d"
  refine is_number_i (z := ⟨_, _, _⟩) h1 h2 ?_
  walk_at "d"
  exact h
theorem vc_check_turn (Γ : CL) : ∀ ds μ R, sp_check_turn Γ ds μ R → rd_check_turn Γ (fin R) (startD 1 ds) μ := by
  intro ds μ R h
  unfold sp_check_turn at h
  split at h <;> first | exact h.elim | skip
  rename_i x y d
  obtain ⟨h1, hz, h2, h⟩ := h
  unfold rd_check_turn
  walk_at "d"
  refine is_number_i (z := ⟨_, _, _⟩) h1 h2 ?_
  simp only [c_ZERO]
  walk_at "d"
  have : ¬ ((x == 0) = true ∧ (y == 0) = true ∧ (d == 1) = true) := fun ⟨a, b, _⟩ => hz ⟨eq_of_beq a, eq_of_beq b⟩
  rw [if_neg (by simpa using this)]
  exact h
end L3

/-! ## V2 -/
set_option Elab.async false
set_option linter.all false
set_option maxRecDepth 100000
set_option maxHeartbeats 4000000
namespace L3
open PySem NM L2
theorem lk_turn (c : Cp) : (copyFs c).lookup ("turn" : Str) = some (numD c.t) := rfl
theorem lk_shift (c : Cp) : (copyFs c).lookup ("shift" : Str) = some (numD c.s) := rfl
theorem lk_mirrored (c : Cp) : (copyFs c).lookup ("mirrored" : Str) = some (D.bl c.m) := rfl
theorem lk_key (c : Cp) : (copyFs c).lookup ("key" : Str) = some (D.tup [numD c.t, numD c.s, .bl c.m]) := rfl
local macro_rules | `(tactic| walk_at "d") => `(tactic| (try (simp only [rSeq, rAsg, rRet, rRetN, rDrop, rIf, rNext, rPar, rPar3, rCons, rNil, rStar, rCl, rOp, rUn, rVar, rC, rGN, rTup, rLst, rB, rAnd, rOr, rNot, rIfE, rAndV, rOrV, rNotV, rNever, rFld, rOwn, rMeth, rMakeK, rMakeD, rFldS, rFrz, rSetIx, rMut, rILst, rITup, rIRng1, rIRng2, rFor, rLc, rLcM, rTrue, gt, st, gI, gI0, gU, gIx, gEq, gNe, gAdd, gSub, gMul, gDiv, gMod, gPow, gLt, gLe, gGt, gGe, gIsi, gAbs, gLen, gAll, gIsN, gNotN, gOwn1, gOwn2, isNonD, seqD, res, atI_0, atI_1, atI_2, atI_3, atI_4, List.getElem?_cons_zero, List.getElem?_cons_succ, List.length_cons, List.length_nil, decide_eq_true_eq, List.map_cons, List.map_nil, startD, List.cons_append, List.nil_append, List.replicate, Nat.zero_add, numD, if_true, if_false, Bool.false_eq_true, and_self, true_and, ite_true, ite_false, Nat.reduceAdd, Nat.reduceSub, ln, Nat.reduceLeDiff, fin, String.reduceBEq, Bool.not_true, Bool.not_false, pureN, deq_int, deq_tt, deq_t0, deq_bl, List.all_cons, List.all_nil, Bool.and_true, Bool.true_and, Bool.and_eq_true, List.append_nil, lk_turn, lk_shift, lk_mirrored, lk_key, insD, updM_same, updM_updM, Option.map_some, Option.map_none])))
/-! ### copies: mathematics -/
theorem NZ_ovr {a : Num} (h : NZ a) : NZ (ovr a) := fun ⟨h1, h2⟩ => h ⟨h1, by have : 0 - a.y = 0 := h2; omega⟩
theorem nrm_mul {a b : Num} (ha : Can a) (hb : Can b) : nrm (mul a b) = nrm a * nrm b := by
  unfold nrm
  rw [re_mul ha hb, im_mul ha hb]
  grind
theorem NZ_mul {a b : Num} (ha : Can a) (hb : Can b) (na : NZ a) (nb : NZ b) : NZ (mul a b) := by
  rw [nz_iff (can_mul ha hb), nrm_mul ha hb]
  rw [nz_iff ha] at na
  rw [nz_iff hb] at nb
  grind
theorem NZ_inv {a : Num} (ha : Can a) (na : NZ a) : NZ (NM.inv a) := by
  rw [nz_iff (can_inv na)]
  have h := (nz_iff ha).mp na
  have e : nrm (NM.inv a) * nrm a = 1 := by
    unfold nrm
    rw [re_inv ha na, im_inv ha na]
    unfold nrm at *
    grind
  grind
def flip (m : Bool) (z : Num) : Num := if m then ovr z else z
theorem can_flip {m : Bool} {z : Num} (h : Can z) : Can (flip m z) := by
  unfold flip; split
  · exact can_ovr h
  · exact h
theorem NZ_flip {m : Bool} {z : Num} (h : NZ z) : NZ (flip m z) := by
  unfold flip; split
  · exact NZ_ovr h
  · exact h
theorem sz_flip {m : Bool} {n : Nat} {z : Num} (h : Sz n z) : Sz n (flip m z) := by
  unfold flip; split
  · exact h.ovr
  · exact h
theorem Cp.at_eq (c : Cp) (z : Num) : c.at z = add (mul c.t (flip c.m z)) c.s := rfl
theorem Cp.can_at {c : Cp} {z : Num} (h : c.ok) (hz : Can z) : Can (c.at z) := can_add (can_mul h.1 (can_flip hz)) h.2.2
theorem Cp.sz_at {c : Cp} {z : Num} {n m : Nat} (h : c.ok) (hz : Can z) (s : c.sz n) (l : Sz m z) : Sz (n + m + 1 + n + 1) (c.at z) :=
  Sz.add (can_mul h.1 (can_flip hz)) h.2.2 (Sz.mul h.1 (can_flip hz) s.1 (sz_flip l)) s.2
theorem Cp.comp_ok {a b : Cp} (ha : a.ok) (hb : b.ok) : (a.comp b).ok := ⟨can_mul hb.1 (can_flip ha.1), NZ_mul hb.1 (can_flip ha.1) hb.2.1 (NZ_flip ha.2.1), Cp.can_at hb ha.2.2⟩
theorem Cp.comp_sz {a b : Cp} {n m : Nat} (ha : a.ok) (hb : b.ok) (sa : a.sz n) (sb : b.sz m) : (a.comp b).sz (m + n + 1 + m + 1) :=
  ⟨(Sz.mul hb.1 (can_flip (m := b.m) ha.1) sb.1 (sz_flip sa.1)).mono (by omega), Cp.sz_at hb ha.2.2 sb sa.2⟩
theorem Cp.inv_ok {a : Cp} (h : a.ok) : a.inv.ok :=
  ⟨can_inv (NZ_flip h.2.1), NZ_inv (can_flip h.1) (NZ_flip h.2.1), can_opp (can_mul (can_inv (NZ_flip h.2.1)) (can_flip h.2.2))⟩
theorem Cp.inv_sz {a : Cp} {n : Nat} (h : a.ok) (s : a.sz n) : a.inv.sz (n + n + 1 + n + 1) :=
  ⟨(Sz.inv (NZ_flip h.2.1) (sz_flip s.1)).mono (by omega), (Sz.mul (can_inv (NZ_flip h.2.1)) (can_flip h.2.2) (Sz.inv (NZ_flip (m := a.m) h.2.1) (sz_flip s.1)) (sz_flip s.2)).opp⟩
theorem Cp.sz.mono {a : Cp} {n m : Nat} (s : a.sz n) (h : n ≤ m) : a.sz m := ⟨s.1.mono h, s.2.mono h⟩
theorem Sz.one : Sz 1 one := ⟨by unfold Bt; decide, by unfold Bt; decide, by unfold Bt; decide⟩

/-! ### copies: the defs -/
theorem vc_carried (Γ : CL) : ∀ ds μ R, sp_carried Γ ds μ R → rd_carried Γ (fin R) (startD 2 ds) μ := by
  rintro ds μ R ⟨⟨t, s, m⟩, z, rfl, ⟨k1, k2, k3⟩, ⟨s1, s2⟩, kz, sz, h⟩
  simp only at k1 k2 k3 s1 s2
  unfold rd_carried copyD
  cases m with
  | false =>
    walk_at "d"
    simp only [sp_multiplied, sp_added]
    exact ⟨ne_d k1, ne_d kz, s1.mono (by decide), sz.mono (by decide), ne_d (can_mul k1 kz), ne_d k3, (Sz.mul k1 kz s1 sz).mono (by decide), s2.mono (by decide), h⟩
  | true =>
    walk_at "d"
    simp only [sp_turned_over, numD, sp_multiplied, sp_added]
    exact ⟨ne_d k1, ne_d (can_ovr kz), s1.mono (by decide), sz.ovr.mono (by decide), ne_d (can_mul k1 (can_ovr kz)), ne_d k3, (Sz.mul k1 (can_ovr kz) s1 sz.ovr).mono (by decide), s2.mono (by decide), h⟩
theorem vc_Copy___init (Γ : CL) : ∀ ds μ R, sp_Copy___init Γ ds μ R → rd_Copy___init Γ (fin R) (startD 4 ds) μ := by
  intro ds μ R h
  unfold sp_Copy___init at h
  split at h <;> first | exact h.elim | skip
  obtain ⟨h1, h2, h3, s1, s2, hm, h⟩ := h
  unfold rd_Copy___init
  walk_at "d"
  simp only [sp_check_turn, sp_check_spot, hm]
  walk_at "d"
  refine ⟨h1, h2, s1, h3, s2, (by show 0 < 1000; decide), (by show 1 < 1000; decide), (by show 2 < 1000; decide), (by show 3 < 1000; decide), ?_⟩
  exact h
theorem make_copy {Γ : CL} {t s : Num} {m : Bool} {μ : MH} {R : D → MH → Prop} (h1 : Can t) (h2 : NZ t) (h3 : Can s) (s1 : Sz big t) (s2 : Sz big s) (h : R (copyD Γ ⟨t, s, m⟩) μ) : gMake Γ.Copy (sp_Copy___init Γ) [numD t, numD s, .bl m] μ R := by
  intro x hx
  refine ⟨h1, h2, h3, s1, s2, updM_same, rfl, ?_⟩
  rw [updM_updM, updM_same]
  show R _ (delM (updM μ x _) x)
  rw [delM_updM hx]
  exact h
theorem vc_Copy___rshift (Γ : CL) : ∀ ds μ R, sp_Copy___rshift Γ ds μ R → rd_Copy___rshift Γ (fin R) (startD 3 ds) μ := by
  rintro ds μ R ⟨a, b, rfl, ka, kb, sa, sb, h⟩
  unfold rd_Copy___rshift copyD
  have kc := Cp.comp_ok ka kb
  have sc := Cp.comp_sz ka kb sa sb
  obtain ⟨t, s, m⟩ := a
  obtain ⟨t', s', m'⟩ := b
  obtain ⟨a1, a2, a3⟩ := ka
  obtain ⟨b1, b2, b3⟩ := kb
  simp only at a1 a2 a3 b1 b2 b3
  cases m' with
  | false =>
    walk_at "d"
    simp only [sp_multiplied]
    refine ⟨ne_d b1, ne_d a1, sb.1.mono (by decide), sa.1.mono (by decide), ⟨t', s', false⟩, s, rfl, ⟨b1, b2, b3⟩, sb, a3, sa.2, ?_⟩
    exact make_copy kc.1 kc.2.1 kc.2.2 (sc.1.mono (by decide)) (sc.2.mono (by decide)) h
  | true =>
    walk_at "d"
    simp only [sp_turned_over, numD, sp_multiplied]
    refine ⟨ne_d b1, ne_d (can_ovr a1), sb.1.mono (by decide), sa.1.ovr.mono (by decide), ⟨t', s', true⟩, s, rfl, ⟨b1, b2, b3⟩, sb, a3, sa.2, ?_⟩
    exact make_copy kc.1 kc.2.1 kc.2.2 (sc.1.mono (by decide)) (sc.2.mono (by decide)) h
theorem vc_Copy___invert (Γ : CL) : ∀ ds μ R, sp_Copy___invert Γ ds μ R → rd_Copy___invert Γ (fin R) (startD 3 ds) μ := by
  rintro ds μ R ⟨a, rfl, ka, sa, h⟩
  unfold rd_Copy___invert copyD
  have kc := Cp.inv_ok ka
  have sc := Cp.inv_sz ka sa
  obtain ⟨t, s, m⟩ := a
  obtain ⟨a1, a2, a3⟩ := ka
  simp only at a1 a2 a3
  cases m with
  | false =>
    walk_at "d"
    simp only [sp_inverse, numD]
    refine ⟨a2, sa.1.mono (by decide), ?_⟩
    walk_at "d"
    simp only [sp_multiplied, sp_opposite, numD]
    refine ⟨ne_d (can_inv a2), ne_d a3, (Sz.inv a2 sa.1).mono (by decide), sa.2.mono (by decide), ?_⟩
    exact make_copy kc.1 kc.2.1 kc.2.2 (sc.1.mono (by decide)) (sc.2.mono (by decide)) h
  | true =>
    walk_at "d"
    simp only [sp_turned_over, sp_inverse, numD]
    refine ⟨NZ_ovr a2, sa.1.ovr.mono (by decide), ?_⟩
    walk_at "d"
    simp only [sp_turned_over, sp_multiplied, sp_opposite, numD]
    refine ⟨ne_d (can_inv (NZ_ovr a2)), ne_d (can_ovr a3), (Sz.inv (NZ_ovr a2) sa.1.ovr).mono (by decide), sa.2.ovr.mono (by decide), ?_⟩
    exact make_copy kc.1 kc.2.1 kc.2.2 (sc.1.mono (by decide)) (sc.2.mono (by decide)) h
theorem vc_Copy_growth (Γ : CL) : ∀ ds μ R, sp_Copy_growth Γ ds μ R → rd_Copy_growth Γ (fin R) (startD 1 ds) μ := by
  rintro ds μ R ⟨a, rfl, k, s, h⟩
  unfold rd_Copy_growth copyD
  walk_at "d"
  simp only [sp_size]
  exact ⟨k, s, h⟩
end L3

/-! ## V3 -/
set_option Elab.async false
set_option linter.all false
set_option maxRecDepth 100000
set_option maxHeartbeats 4000000
namespace L3
open PySem NM L2
local macro_rules | `(tactic| walk_at "d") => `(tactic| (try (simp only [rSeq, rAsg, rRet, rRetN, rDrop, rIf, rNext, rPar, rPar3, rCons, rNil, rStar, rCl, rOp, rUn, rVar, rC, rGN, rTup, rLst, rB, rAnd, rOr, rNot, rIfE, rAndV, rOrV, rNotV, rNever, rFld, rOwn, rMeth, rMakeK, rMakeD, rFldS, rFrz, rSetIx, rMut, rILst, rITup, rIRng1, rIRng2, rFor, rLc, rLcM, rTrue, gt, st, gI, gI0, gU, gIx, gEq, gNe, gAdd, gSub, gMul, gDiv, gMod, gPow, gLt, gLe, gGt, gGe, gIsi, gAbs, gLen, gAll, gIsN, gNotN, gOwn1, gOwn2, isNonD, seqD, res, atI_0, atI_1, atI_2, atI_3, atI_4, List.getElem?_cons_zero, List.getElem?_cons_succ, List.length_cons, List.length_nil, decide_eq_true_eq, List.map_cons, List.map_nil, startD, List.cons_append, List.nil_append, List.replicate, Nat.zero_add, numD, if_true, if_false, Bool.false_eq_true, and_self, true_and, ite_true, ite_false, Nat.reduceAdd, Nat.reduceSub, ln, Nat.reduceLeDiff, fin, String.reduceBEq, Bool.not_true, Bool.not_false, pureN, deq_int, deq_tt, deq_t0, deq_bl, List.all_cons, List.all_nil, Bool.and_true, Bool.true_and, Bool.and_eq_true, List.append_nil, lk_turn, lk_shift, lk_mirrored, lk_key, insD, updM_same, updM_updM, Option.map_some, Option.map_none])))
theorem fmod_nn {a b : Int} (h : 0 < b) : 0 ≤ a.fmod b := by
  rw [Int.fmod_eq_emod_of_nonneg _ (by omega)]
  exact Int.emod_nonneg _ (by omega)
theorem fmod_lt {a b : Int} (h : 0 < b) : a.fmod b < b := by
  rw [Int.fmod_eq_emod_of_nonneg _ (by omega)]
  exact Int.emod_lt_of_pos _ h
theorem fdiv_nn {a b : Int} (ha : 0 ≤ a) (h : 0 < b) : 0 ≤ a.fdiv b := by
  rw [Int.fdiv_eq_ediv_of_nonneg _ (by omega)]
  exact Int.ediv_nonneg ha (by omega)
theorem bt_small {i : Int} {n : Nat} (h : i.natAbs < 1000) (l : 10 ≤ n) : Bt n i := Bt.mono (n := 10) (by unfold Bt; omega) l
theorem ixN_0 (n : Nat) : ixN (n + 1) 0 = some 0 := by
  unfold ixN
  rw [if_pos (by decide), if_pos (by omega)]
  rfl
theorem ixN_1 (n : Nat) : ixN (n + 1 + 1) 1 = some 1 := by
  unfold ixN
  rw [if_pos (by decide), if_pos (by omega)]
  rfl
theorem pop_2 (a b c : D) (r : List D) (R : D → List D → Prop) (h : R c (a :: b :: r)) : gPopAt (a :: b :: c :: r) [.int 2] R := by
  unfold gPopAt
  refine ⟨by decide, by decide, ?_⟩
  have : seqIndex? 2 (a :: b :: c :: r).length = some 2 := by
    unfold seqIndex?
    simp only [List.length_cons]
    rw [if_neg (show ¬ (2 : Int) < 0 by decide), decide_eq_true (show (0 : Int) ≤ 2 by decide), decide_eq_true (show (2 : Int) < ((r.length + 1 + 1 + 1 : Nat) : Int) by omega)]
    rfl
  rw [this]
  exact h
theorem RL.i {s p : Int} {r : List Int} (h1 : 0 ≤ s) (h2 : s < 2147483648) (h3 : 0 ≤ p) (h4 : ∀ x ∈ r, 0 ≤ x) : RL (.int s :: .int p :: r.map D.int) := ⟨s, p, r, rfl, h1, h2, h3, h4⟩
theorem bt_s {s : Int} (h1 : 0 ≤ s) (h2 : s < 2147483648) : Bt big s := Bt.mono (n := 31) (by unfold Bt; omega) (by decide)
theorem vc_law_below (Γ : CL) : ∀ ds μ R, sp_law_below Γ ds μ R → rd_law_below Γ (fin R) (startD 3 ds) μ := by
  rintro ds μ R ⟨g, n, xs, rfl, n0, n1, hm, ⟨s, p, r, rfl, hs, hs2, hp, hr⟩, h⟩
  unfold rd_law_below
  have cd : ∀ i, CDivX i n := fun i => ⟨by omega, bt_small (by omega) (by decide)⟩
  have cm : CBig s 48271 := ⟨bt_s hs hs2, Bt.mono (n := 31) (by unfold Bt; decide) (by decide)⟩
  have c64 : ∀ i, CDivX i 64 := fun i => ⟨by decide, bt_small (by decide) (by decide)⟩
  have n0' : n ≠ 0 := by omega
  have m1 : 0 ≤ (s * 48271 + 11).fmod 2147483647 := fmod_nn (by decide)
  have m2 : (s * 48271 + 11).fmod 2147483647 < 2147483647 := fmod_lt (by decide)
  by_cases p0 : p = 0
  · subst p0
    cases r with
    | nil =>
      walk_at "d"
      simp only [hm]
      walk_at "d"
      simp only [ixN_0, ixN_1, List.set_cons_zero, List.set_cons_succ]
      walk_at "d"
      exact ⟨cm, by decide, c64 _, n0', h _ _ (fmod_nn n0) (fmod_lt n0) (RL.i (r := []) m1 (by omega) hp (by simp))⟩
    | cons x r =>
      have hx := hr x (List.mem_cons_self ..)
      have hr' : ∀ y ∈ r, 0 ≤ y := fun y hy => hr y (List.mem_cons_of_mem _ hy)
      walk_at "d"
      simp only [hm]
      walk_at "d"
      rw [if_pos (by decide), if_pos (by omega)]
      refine pop_2 _ _ _ _ _ ?_
      simp only [List.length_cons, ixN_0, ixN_1, List.set_cons_zero, List.set_cons_succ]
      walk_at "d"
      split
      · exact ⟨n0', cd _, h _ _ (fmod_nn n0) (fmod_lt n0) (RL.i hs hs2 (fdiv_nn hx n0) hr')⟩
      · exact ⟨cm, by decide, c64 _, n0', h _ _ (fmod_nn n0) (fmod_lt n0) (RL.i m1 (by omega) hx hr')⟩
  · walk_at "d"
    simp only [hm]
    walk_at "d"
    rw [if_neg (by simpa using p0)]
    rw [if_pos (by omega)]
    simp only [ixN_0, ixN_1, List.set_cons_zero, List.set_cons_succ]
    exact ⟨n0', cd _, h _ _ (fmod_nn n0) (fmod_lt n0) (RL.i hs hs2 (fdiv_nn hp n0) hr)⟩

/-! ### random -/
theorem random_loop {D : Ed} {a b : Option L3.D} {μ : MH} : ∀ (ns : List Int) (seed : Int) (c : Option L3.D), 0 ≤ seed → seed < 2147483648 → (∀ s c, 0 ≤ s → s < 2147483648 → D.nx [a, b, some (.int s), c] μ) →
    forD (rGN 3) (rAsg (rOp gMod (rOp gAdd (rOp gMul (rVar 2) (rC (.int 31))) (rCl gAbs (rCons (rVar 3) rNil))) (rC (.int 2147483647))) (rGN 2)) tru D (ns.map L3.D.int) [a, b, some (.int seed), c] μ
  | [], seed, c, h1, h2, h => ⟨trivial, h _ _ h1 h2⟩
  | n :: ns, seed, c, h1, h2, h => by
    refine ⟨trivial, ?_⟩
    walk_at "d"
    refine ⟨⟨bt_s h1 h2, bt_small (by decide) (by decide)⟩, by decide, ?_⟩
    exact random_loop ns _ _ (fmod_nn (by decide)) (Int.lt_trans (fmod_lt (by decide)) (by decide)) h
theorem random_comp {ρ : EV} {μ : MH} {R : List D → MH → Prop} : ∀ (ns : List Int) (acc : List D), R (acc ++ (ns.filter fun n => decide ((1000000000000000000 : Int) ≤ n)).map D.int) μ →
    lcD (rGN 3) (rB (rOp gGe (rVar 3) (rOp gPow (rC (.int 10)) (rC (.int 18))))) (rVar 3) tru [ρ.getD 0 none, ρ.getD 1 none, ρ.getD 2 none, none] (ns.map D.int) acc μ R
  | [], acc, h => ⟨trivial, by simpa using h⟩
  | n :: ns, acc, h => by
    refine ⟨trivial, ?_⟩
    have e : (10 : Int) ^ (18 : Int).toNat = 1000000000000000000 := by decide +kernel
    walk_at "d"
    refine ⟨⟨by decide, by decide, by decide⟩, ?_⟩
    rw [e]
    rw [List.filter_cons] at h
    by_cases q : (1000000000000000000 : Int) ≤ n
    · rw [if_pos (decide_eq_true q)] at h
      rw [if_pos q]
      refine random_comp ns _ ?_
      rw [List.append_assoc]
      exact h
    · rw [if_neg (by simpa using q)] at h
      rw [if_neg q]
      exact random_comp ns _ h
theorem vc_law_random (Γ : CL) : ∀ ds μ R, sp_law_random Γ ds μ R → rd_law_random Γ (fin R) (startD 4 ds) μ := by
  rintro ds μ R ⟨ns, salt, rfl, h1, h2, h3, h⟩
  unfold rd_law_random
  walk_at "d"
  refine random_loop ns salt none h1 (by omega) fun s c s1 s2 => ?_
  simp only [rms, rm]
  refine ⟨Nat.le_trans (by rw [List.length_map]; exact h3) (show 63 ≤ sizeLine by decide), ?_⟩
  refine random_comp (ρ := [some (.scr (ns.map D.int)), some (.int salt), some (.int s), none]) ns [] ?_
  walk_at "d"
  simp only [gAddM, res]
  refine ⟨?_, fun g hg => h g _ hg ⟨s, 0, _, rfl, s1, s2, by decide, fun x hx => ?_⟩⟩
  · rw [List.length_map]
    have := List.length_filter_le (fun n => decide ((1000000000000000000 : Int) ≤ n)) ns
    show 0 + 1 + 1 + _ ≤ 2 ^ 24
    omega
  · have := (List.mem_filter.mp hx).2
    simp only [decide_eq_true_eq] at this
    omega

/-! ### random turns, spots, copies -/
theorem small_i {z : Num} (h1 : 0 < z.d) (h2 : gz (gz z.x z.y) z.d = 1) (h3 : z.x.natAbs < 32) (h4 : z.y.natAbs < 32) (h5 : z.d.natAbs < 32) : Small z := ⟨⟨h1, h2⟩, h3, h4, h5⟩
theorem vc_law_turn (Γ : CL) : ∀ ds μ R, sp_law_turn Γ ds μ R → rd_law_turn Γ (fin R) (startD 2 ds) μ := by
  rintro ds μ R ⟨g, xs, rfl, hm, hx, h⟩
  unfold rd_law_turn
  walk_at "d"
  refine ⟨g, 13, xs, rfl, by decide, by decide, hm, hx, fun r ys r0 r1 hy => ?_⟩
  have hh : ∀ x y d : Int, Small ⟨x, y, d⟩ → NZ ⟨x, y, d⟩ → R (.tup [.int x, .int y, .int d]) (updM μ g (.lst ys)) := fun x y d a b => h _ ys a b hy
  have : r = 0 ∨ r = 1 ∨ r = 2 ∨ r = 3 ∨ r = 4 ∨ r = 5 ∨ r = 6 ∨ r = 7 ∨ r = 8 ∨ r = 9 ∨ r = 10 ∨ r = 11 ∨ r = 12 := by omega
  rcases this with rfl | rfl | rfl | rfl | rfl | rfl | rfl | rfl | rfl | rfl | rfl | rfl | rfl <;> exact hh _ _ _ (small_i (by decide) (by decide) (by decide) (by decide) (by decide)) (by unfold NZ; decide)
theorem vc_law_common (Γ : CL) : ∀ ds μ R, sp_law_common Γ ds μ R → rd_law_common Γ (fin R) (startD 2 ds) μ := vc_common_divisor Γ
theorem vc_law_lowest (Γ : CL) : ∀ ds μ R, sp_law_lowest Γ ds μ R → rd_law_lowest Γ (fin R) (startD 4 ds) μ := by
  intro ds μ R h
  unfold sp_law_lowest sp_lowest at h
  split at h <;> first | exact h.elim | skip
  rename_i x y d
  obtain ⟨h1, hx, hy, hd, h⟩ := h
  unfold rd_law_lowest
  walk_at "d"
  simp only [sp_law_common, sp_common_divisor]
  walk_at "d"
  have g1 := gz_ne (a := gz x y) h1
  have g2 := bt_gz (a := gz x y) h1 hd
  rw [← lowL_eq h1] at h
  unfold lowL at h
  simp only [numD] at h
  split <;> rename_i hp
  · simp only [if_pos hp] at h
    exact ⟨⟨g1, g2⟩, ⟨g1, g2⟩, ⟨g1, g2⟩, h⟩
  · simp only [if_neg hp] at h
    have g1' : 0 - gz (gz x y) d ≠ 0 := by omega
    exact ⟨⟨g1', g2.neg⟩, ⟨g1', g2.neg⟩, ⟨g1', g2.neg⟩, h⟩
theorem vc_law_spot (Γ : CL) : ∀ ds μ R, sp_law_spot Γ ds μ R → rd_law_spot Γ (fin R) (startD 2 ds) μ := by
  rintro ds μ R ⟨g, xs, rfl, hm, hx, h⟩
  unfold rd_law_spot
  walk_at "d"
  refine ⟨g, 6, xs, rfl, by decide, by decide, hm, hx, fun r ys r0 r1 hy => ?_⟩
  have go : ∀ v : Int, 0 < v → v < 5 → sp_law_below Γ [.ref g, .int 13] (updM μ g (.lst ys)) fun d μ1 => rOp gSub (rCl (fun _ μ R => R d μ) rNil) (rC (.int 6)) [] μ1 fun a μ2 => sp_law_below Γ [.ref g, .int 13] μ2 fun d μ3 => rOp gSub (rCl (fun _ μ R => R d μ) rNil) (rC (.int 6)) [] μ3 fun b μ4 => sp_law_lowest Γ [a, b, .int v] μ4 R := by
    intro v v0 v5
    refine ⟨g, 13, ys, rfl, by decide, by decide, updM_same, hy, fun a ys1 a0 a1 hy1 => ?_⟩
    walk_at "d"
    refine ⟨g, 13, ys1, rfl, by decide, by decide, updM_same, hy1, fun b ys2 b0 b1 hy2 => ?_⟩
    walk_at "d"
    have f1 : Bt 5 (a - 6) := by unfold Bt; omega
    have f2 : Bt 5 (b - 6) := by unfold Bt; omega
    have f3 : Bt 5 v := by unfold Bt; omega
    have v0' : v ≠ 0 := by omega
    refine ⟨v0', f1.mono (by decide), f2.mono (by decide), f3.mono (by decide), ?_⟩
    exact h _ ys2 ⟨low_can v0', low_sz v0' f1 f2 f3⟩ hy2
  have : r = 0 ∨ r = 1 ∨ r = 2 ∨ r = 3 ∨ r = 4 ∨ r = 5 := by omega
  rcases this with rfl | rfl | rfl | rfl | rfl | rfl
  · exact go 1 (by decide) (by decide)
  · exact go 1 (by decide) (by decide)
  · exact go 1 (by decide) (by decide)
  · exact go 2 (by decide) (by decide)
  · exact go 3 (by decide) (by decide)
  · exact go 4 (by decide) (by decide)
/-! ### the law's own numbers -/
theorem vc_law_plus (Γ : CL) : ∀ ds μ R, sp_law_plus Γ ds μ R → rd_law_plus Γ (fin R) (startD 4 ds) μ := by
  intro ds μ R h
  unfold sp_law_plus sp_added at h
  split at h <;> first | exact h.elim | skip
  obtain ⟨h1, h2, ⟨x1, x2, x3⟩, ⟨y1, y2, y3⟩, h⟩ := h
  unfold rd_law_plus
  walk_at "d"
  simp only [sp_law_lowest, sp_lowest]
  have c : ∀ {a b : Int}, Bt half a → Bt half b → CBig a b := fun h l => ⟨h.mono (by decide), l.mono (by decide)⟩
  refine ⟨c x1 y3, c y1 x3, c x2 y3, c y2 x3, c x3 y3, Int.mul_ne_zero h1 h2, ((x1.mul y3).add (y1.mul x3)).mono (by decide), ((x2.mul y3).add (y2.mul x3)).mono (by decide), bb x3 y3, h⟩
theorem vc_law_times (Γ : CL) : ∀ ds μ R, sp_law_times Γ ds μ R → rd_law_times Γ (fin R) (startD 4 ds) μ := by
  intro ds μ R h
  unfold sp_law_times sp_multiplied at h
  split at h <;> first | exact h.elim | skip
  obtain ⟨h1, h2, ⟨x1, x2, x3⟩, ⟨y1, y2, y3⟩, h⟩ := h
  unfold rd_law_times
  walk_at "d"
  simp only [sp_law_lowest, sp_lowest]
  have c : ∀ {a b : Int}, Bt half a → Bt half b → CBig a b := fun h l => ⟨h.mono (by decide), l.mono (by decide)⟩
  refine ⟨c x1 y1, c x2 y2, c x1 y2, c x2 y1, c x3 y3, Int.mul_ne_zero h1 h2, ((x1.mul y1).sub (x2.mul y2)).mono (by decide), ((x1.mul y2).add (x2.mul y1)).mono (by decide), bb x3 y3, h⟩
theorem vc_law_over (Γ : CL) : ∀ ds μ R, sp_law_over Γ ds μ R → rd_law_over Γ (fin R) (startD 1 ds) μ := vc_turned_over Γ
theorem vc_law_carried (Γ : CL) : ∀ ds μ R, sp_law_carried Γ ds μ R → rd_law_carried Γ (fin R) (startD 2 ds) μ := by
  rintro ds μ R ⟨⟨t, s, m⟩, z, rfl, ⟨k1, k2, k3⟩, ⟨s1, s2⟩, kz, sz, h⟩
  simp only at k1 k2 k3 s1 s2
  unfold rd_law_carried toldD
  cases m with
  | false =>
    walk_at "d"
    simp only [sp_law_times, sp_law_plus, sp_multiplied, sp_added]
    exact ⟨ne_d k1, ne_d kz, s1.mono (by decide), sz.mono (by decide), ne_d (can_mul k1 kz), ne_d k3, (Sz.mul k1 kz s1 sz).mono (by decide), s2.mono (by decide), h⟩
  | true =>
    walk_at "d"
    simp only [sp_law_over, sp_turned_over, numD, sp_law_times, sp_law_plus, sp_multiplied, sp_added]
    exact ⟨ne_d k1, ne_d (can_ovr kz), s1.mono (by decide), sz.ovr.mono (by decide), ne_d (can_mul k1 (can_ovr kz)), ne_d k3, (Sz.mul k1 (can_ovr kz) s1 sz.ovr).mono (by decide), s2.mono (by decide), h⟩

/-! ### what the law holds alike -/
theorem ty_b : (tyOK "bool" = true) = True := eq_true (by decide)
theorem ty_i : (tyOK "int" = true) = True := eq_true (by decide)
theorem ty_s : (tyOK "str" = true) = True := eq_true (by decide)
theorem ty_t : (tyOK "tuple" = true) = True := eq_true (by decide)
theorem ty_l : (tyOK "list" = true) = True := eq_true (by decide)
theorem sames_iff : ∀ {as es : List D}, as.length = es.length → (sames as es = true ↔ ∀ i, i < as.length → same (as.getD i .non) (es.getD i .non) = true)
  | [], [], _ => by simp [sames]
  | [], _ :: _, h => by cases h
  | _ :: _, [], h => by cases h
  | a :: as, e :: es, h => by
    have ih := sames_iff (as := as) (es := es) (by simpa using h)
    unfold sames
    rw [Bool.and_eq_true, ih]
    constructor
    · rintro ⟨h1, h2⟩ i hi
      cases i with
      | zero => exact h1
      | succ i => exact h2 i (by simpa using hi)
    · intro q
      exact ⟨q 0 (by simp), fun i hi => q (i + 1) (by simpa using hi)⟩
theorem sames_len : ∀ {as es : List D}, as.length ≠ es.length → sames as es = false
  | [], [], h => absurd rfl h
  | [], _ :: _, _ => rfl
  | _ :: _, [], _ => rfl
  | a :: as, e :: es, h => by
    unfold sames
    rw [sames_len (as := as) (es := es) (by simpa using h), Bool.and_false]
def eqAt (as es : List D) : D → Bool
  | .int i => same (as.getD i.toNat .non) (es.getD i.toNat .non)
  | _ => false
theorem rangeD_mem : ∀ {n : Nat} {lo : Int} {d : D}, d ∈ rangeD lo n → ∃ i : Nat, i < n ∧ d = .int (lo + i)
  | 0, lo, d, h => by cases h
  | n + 1, lo, d, h => by
    rcases List.mem_cons.mp h with rfl | h
    · exact ⟨0, by omega, by simp⟩
    · obtain ⟨i, hi, rfl⟩ := rangeD_mem h
      exact ⟨i + 1, by omega, by congr 1; omega⟩
theorem mem_rangeD : ∀ {n : Nat} {lo : Int} {i : Nat}, i < n → D.int (lo + i) ∈ rangeD lo n
  | 0, lo, i, h => by omega
  | n + 1, lo, 0, h => by simp [rangeD]
  | n + 1, lo, i + 1, h => by
    refine List.mem_cons_of_mem _ ?_
    have := mem_rangeD (n := n) (lo := lo + 1) (i := i) (by omega)
    rwa [show lo + 1 + (i : Int) = lo + ((i + 1 : Nat) : Int) by omega] at this
theorem sames_all {as es : List D} (h : as.length = es.length) : ((rangeD 0 es.length).map (eqAt as es)).all _root_.id = sames as es := by
  have e : ∀ b c : Bool, (b = true ↔ c = true) → b = c := by decide
  apply e
  rw [sames_iff h, List.all_eq_true]
  constructor
  · intro q i hi
    have := q _ (List.mem_map_of_mem (mem_rangeD (n := es.length) (lo := 0) (i := i) (by omega)))
    simpa [eqAt] using this
  · intro q b hb
    obtain ⟨d, hd, rfl⟩ := List.mem_map.mp hb
    obtain ⟨i, hi, rfl⟩ := rangeD_mem hd
    have := q i (by omega)
    simpa [eqAt] using this
theorem atI_d {as : List D} {i : Nat} (h : i < as.length) : atI as (0 + (i : Int)) = some (as.getD i .non) := by
  rw [Int.zero_add, atI_lit, List.getElem?_eq_getElem h, List.getD_eq_getElem?_getD, List.getElem?_eq_getElem h]
  rfl
theorem all_pure {m : Nat} {as : List D} {i : Nat} (h : as.all (okq m) = true) : okq m (as.getD i .non) = true := by
  rw [List.getD_eq_getElem?_getD]
  cases q : as[i]? with
  | none => cases m <;> rfl
  | some d => exact List.all_eq_true.mp h d (List.mem_of_getElem? q)
/-- the last step, both alike in kind -/
theorem equal_rest (Γ : CL) {m : Nat} {as es : List D} {a e : D} {μ : MH} {R : D → MH → Prop} (ha : as.all (okq m) = true) (he : es.all (okq m) = true) (l1 : as.length ≤ 1000000) (hl : as.length = es.length) (sa : seqD (res μ a) = some as) (se : seqD (res μ e) = some es) (h : R (.bl (sames as es)) μ) :
    rRet (rCl gAll (rCons (rLc (rIRng1 (rCons (rCl gLen (rCons (rVar 1) rNil)) rNil)) (rGN 2) rTrue (rCl (sp_law_equal Γ (m + 1)) (rCons (rOp gIx (rVar 0) (rVar 2)) (rCons (rOp gIx (rVar 1) (rVar 2)) rNil))) [2]) rNil)) (fin R) [some a, some e, none] μ := by
  simp only [rRet, rCl, rCons, rLc, rIRng1, rVar, gt, gLen, List.getElem?_cons_zero, List.getElem?_cons_succ, rNil, se]
  refine ⟨by unfold inR; omega, ?_⟩
  rw [Int.toNat_natCast]
  refine ⟨by rw [rangeD_len]; exact Nat.le_trans (show es.length ≤ 1000000 by omega) (by decide), ?_⟩
  refine lcD_map (g := fun d => .bl (eqAt as es d)) _ _ (fun d hd Q q => ?_) ?_
  · obtain ⟨i, hi, rfl⟩ := rangeD_mem hd
    simp only [rms, rm, st, rCl, rOp, rCons, rVar, rNil, gt, gIx, List.getElem?_cons_zero, List.getElem?_cons_succ, sa, se]
    have e1 := atI_d (as := as) (i := i) (by omega)
    have e2 := atI_d (as := es) (i := i) (by omega)
    rw [e1, e2]
    refine ⟨all_pure ha, all_pure he, ?_⟩
    have : (0 + (i : Int)).toNat = i := by omega
    simp only [eqAt, this] at q
    exact q
  · rw [List.nil_append]
    simp only [gAll, res]
    rw [bools_map]
    show R (.bl (((rangeD 0 es.length).map (eqAt as es)).all _root_.id)) _
    rw [sames_all hl]
    exact h
def kindD : D → Nat
  | .non => 0
  | .bl _ => 1
  | .int _ => 2
  | .str _ => 3
  | .tup _ => 4
  | .lst _ => 5
  | _ => 6
local macro_rules | `(tactic| walk_at "e") => `(tactic| (simp only [rSeq, rAsg, rRet, rIf, rNext, rCons, rNil, rCl, rOp, rVar, rC, rB, rAndV, rNotV, gt, gIsN, isNonD, res, List.getElem?_cons_zero, List.getElem?_cons_succ, startD, List.map_cons, List.map_nil, List.cons_append, List.nil_append, List.replicate, if_true, if_false, Bool.false_eq_true, ite_true, ite_false, gIsi, isiD, ty_b, ty_i, ty_s, ty_t, ty_l, true_and, String.reduceBEq, Bool.or_true, Bool.or_false, Bool.true_or, Bool.false_or, Bool.or_self, gEq, gNe, gLen, pureN, deq_non, deq_bl, deq_int, deq_str, fin, Bool.not_true, Bool.not_false, seqD, Nat.reduceAdd, Nat.reduceSub, List.length_cons, List.length_nil, bne_self_eq_false, beq_self_eq_true]))
theorem vc_law_equal (Γ : CL) (m : Nat) : ∀ ds μ R, sp_law_equal Γ (m + 1) ds μ R → rd_law_equal Γ m (fin R) (startD 3 ds) μ := by
  intro ds μ R h
  replace h : eqSp m ds μ R := h
  unfold eqSp at h
  split at h <;> first | exact h.elim | skip
  rename_i a e
  obtain ⟨ha, he, h⟩ := h
  unfold rd_law_equal
  have no : ∀ {k : Nat} {d : D}, okq k d = true → kindD d < 6 := by
    intro k d q
    cases d <;> first | (simp only [kindD]; done) | (simp [kindD]; done) | (exfalso; cases k <;> cases q)
  have na := no ha
  have ne := no he
  cases e with
  | ref _ => simp [kindD] at ne
  | ins _ _ => simp [kindD] at ne
  | ty _ => simp [kindD] at ne
  | scr _ => simp [kindD] at ne
  | non =>
    cases a <;> first | (exfalso; simp [kindD] at na; done) | skip
    all_goals (walk_at "e"; exact h)
  | bl b =>
    cases a <;> first | (exfalso; simp [kindD] at na; done) | skip
    all_goals (walk_at "e"; exact h)
  | int b =>
    cases a <;> first | (exfalso; simp [kindD] at na; done) | skip
    all_goals (walk_at "e"; exact h)
  | str b =>
    have he' : PyData.strOk b = true := by cases m <;> exact he
    cases a <;> first | (exfalso; simp [kindD] at na; done) | skip
    case str c =>
      have ha' : PyData.strOk c = true := by cases m <;> exact ha
      walk_at "e"
      exact ⟨ha', he', h⟩
    all_goals (walk_at "e"; exact h)
  | tup es =>
    cases a <;> first | (exfalso; simp [kindD] at na; done) | skip
    case tup as =>
      cases m with
      | zero => cases ha
      | succ m =>
        simp only [okq, Bool.and_eq_true, decide_eq_true_eq] at ha he
        walk_at "e"
        by_cases hl : as.length = es.length
        · rw [if_neg (by simp [hl, PyData.eqv])]
          exact equal_rest Γ (a := .tup as) (e := .tup es) ha.2 he.2 ha.1 hl rfl rfl h
        · rw [if_pos (by simp; omega)]
          have : same (.tup as) (.tup es) = false := sames_len hl
          rw [this] at h
          exact h
    all_goals (walk_at "e"; exact h)
  | lst es =>
    cases a <;> first | (exfalso; simp [kindD] at na; done) | skip
    case lst as =>
      cases m with
      | zero => cases ha
      | succ m =>
        simp only [okq, Bool.and_eq_true, decide_eq_true_eq] at ha he
        walk_at "e"
        by_cases hl : as.length = es.length
        · rw [if_neg (by simp [hl, PyData.eqv])]
          exact equal_rest Γ (a := .lst as) (e := .lst es) ha.2 he.2 ha.1 hl rfl rfl h
        · rw [if_pos (by simp; omega)]
          have : same (.lst as) (.lst es) = false := sames_len hl
          rw [this] at h
          exact h
    all_goals (walk_at "e"; exact h)
end L3

/-! ## CM -/
set_option Elab.async false
set_option linter.all false
set_option maxHeartbeats 4000000
/-! Mathematics of copies. -/
namespace L3
open NM L2
def sg (m : Bool) : Rat := if m then -1 else 1
theorem sg_sq (m : Bool) : sg m * sg m = 1 := by cases m <;> decide +kernel
theorem sg_ne (m m' : Bool) : sg (m != m') = sg m * sg m' := by cases m <;> cases m' <;> decide +kernel
theorem re_flip {m : Bool} {z : Num} : re (flip m z) = re z := by cases m <;> rfl
theorem im_flip {m : Bool} {z : Num} : im (flip m z) = sg m * im z := by
  cases m
  · show im z = 1 * im z
    grind
  · show im (ovr z) = -1 * im z
    rw [im_ovr]
    grind
theorem re_at {c : Cp} {z : Num} (h : c.ok) (hz : Can z) : re (c.at z) = re c.t * re z - im c.t * (sg c.m * im z) + re c.s := by
  rw [Cp.at_eq, re_add (can_mul h.1 (can_flip hz)) h.2.2, re_mul h.1 (can_flip hz), re_flip, im_flip]
theorem im_at {c : Cp} {z : Num} (h : c.ok) (hz : Can z) : im (c.at z) = re c.t * (sg c.m * im z) + im c.t * re z + im c.s := by
  rw [Cp.at_eq, im_add (can_mul h.1 (can_flip hz)) h.2.2, im_mul h.1 (can_flip hz), re_flip, im_flip]
theorem re_ct {a b : Cp} (ha : a.ok) (hb : b.ok) : re (a.comp b).t = re b.t * re a.t - im b.t * (sg b.m * im a.t) := by
  show re (mul b.t (flip b.m a.t)) = _
  rw [re_mul hb.1 (can_flip ha.1), re_flip, im_flip]
theorem im_ct {a b : Cp} (ha : a.ok) (hb : b.ok) : im (a.comp b).t = re b.t * (sg b.m * im a.t) + im b.t * re a.t := by
  show im (mul b.t (flip b.m a.t)) = _
  rw [im_mul hb.1 (can_flip ha.1), re_flip, im_flip]
theorem Cp.comp_at {a b : Cp} {z : Num} (ha : a.ok) (hb : b.ok) (hz : Can z) : (a.comp b).at z = b.at (a.at z) := by
  have hc := Cp.comp_ok ha hb
  have e : (a.comp b).s = b.at a.s := rfl
  have em : (a.comp b).m = (a.m != b.m) := rfl
  refine NM.ext (Cp.can_at hc hz) (Cp.can_at hb (Cp.can_at ha hz)) ?_ ?_
  · rw [re_at hc hz, re_at hb (Cp.can_at ha hz), re_at ha hz, im_at ha hz, e, em, re_ct ha hb, im_ct ha hb, re_at hb ha.2.2, sg_ne]
    have := sg_sq b.m
    grind
  · rw [im_at hc hz, im_at hb (Cp.can_at ha hz), re_at ha hz, im_at ha hz, e, em, re_ct ha hb, im_ct ha hb, im_at hb ha.2.2, sg_ne]
    have := sg_sq b.m
    grind
theorem Cp.ext' {a b : Cp} (h1 : a.t = b.t) (h2 : a.s = b.s) (h3 : a.m = b.m) : a = b := by
  cases a; cases b
  simp only at h1 h2 h3
  rw [h1, h2, h3]
theorem Cp.id_ok : Cp.id.ok := ⟨can_one, by unfold NZ; decide, can_zero⟩
theorem re_ids : re Cp.id.s = 0 := re_zero
theorem im_ids : im Cp.id.s = 0 := im_zero
theorem re_idt : re Cp.id.t = 1 := re_one
theorem im_idt : im Cp.id.t = 0 := im_one
theorem sg_f : sg false = 1 := rfl
theorem Cp.id_at {z : Num} (hz : Can z) : Cp.id.at z = z := by
  refine NM.ext (Cp.can_at Cp.id_ok hz) hz ?_ ?_
  · rw [re_at Cp.id_ok hz, re_idt, im_idt, re_ids]; grind
  · rw [im_at Cp.id_ok hz, re_idt, im_idt, im_ids, show Cp.id.m = false from rfl, sg_f]; grind
/-! ### coming back -/
theorem nrm_ne {a : Num} (ha : Can a) (na : NZ a) : re a * re a + im a * im a ≠ 0 := (nz_iff ha).mp na
theorem re_it {a : Cp} (ha : a.ok) : re a.inv.t = re a.t / (re a.t * re a.t + im a.t * im a.t) := by
  show re (NM.inv (flip a.m a.t)) = _
  rw [re_inv (can_flip ha.1) (NZ_flip ha.2.1)]
  unfold nrm
  rw [re_flip, im_flip]
  have := sg_sq a.m
  congr 1
  grind
theorem im_it {a : Cp} (ha : a.ok) : im a.inv.t = - (sg a.m * im a.t) / (re a.t * re a.t + im a.t * im a.t) := by
  show im (NM.inv (flip a.m a.t)) = _
  rw [im_inv (can_flip ha.1) (NZ_flip ha.2.1)]
  unfold nrm
  rw [re_flip, im_flip]
  have := sg_sq a.m
  congr 1
  grind
theorem re_is {a : Cp} (ha : a.ok) : re a.inv.s = - (re a.inv.t * re a.s - im a.inv.t * (sg a.m * im a.s)) := by
  show re (opp (mul a.inv.t (flip a.m a.s))) = _
  rw [re_opp, re_mul (Cp.inv_ok ha).1 (can_flip ha.2.2), re_flip, im_flip]
theorem im_is {a : Cp} (ha : a.ok) : im a.inv.s = - (re a.inv.t * (sg a.m * im a.s) + im a.inv.t * re a.s) := by
  show im (opp (mul a.inv.t (flip a.m a.s))) = _
  rw [im_opp, im_mul (Cp.inv_ok ha).1 (can_flip ha.2.2), re_flip, im_flip]
theorem Cp.inv_comp {a : Cp} (ha : a.ok) : a.inv.comp a = Cp.id := by
  have hi := Cp.inv_ok ha
  have hn := nrm_ne ha.1 ha.2.1
  have hs := sg_sq a.m
  have em : a.inv.m = a.m := rfl
  have es : (a.inv.comp a).s = a.at a.inv.s := rfl
  refine Cp.ext' (NM.ext (Cp.comp_ok hi ha).1 can_one ?_ ?_) (NM.ext (Cp.comp_ok hi ha).2.2 can_zero ?_ ?_) ?_
  · rw [re_ct hi ha, re_it ha, im_it ha, re_idt]
    grind
  · rw [im_ct hi ha, re_it ha, im_it ha, im_idt]
    grind
  · rw [es, re_at ha hi.2.2, re_is ha, im_is ha, re_it ha, im_it ha, re_ids]
    grind
  · rw [es, im_at ha hi.2.2, re_is ha, im_is ha, re_it ha, im_it ha, im_ids]
    grind
  · show (a.m != a.m) = false
    cases a.m <;> rfl
theorem Cp.comp_inv {a : Cp} (ha : a.ok) : a.comp a.inv = Cp.id := by
  have hi := Cp.inv_ok ha
  have hn := nrm_ne ha.1 ha.2.1
  have hs := sg_sq a.m
  have em : a.inv.m = a.m := rfl
  have es : (a.comp a.inv).s = a.inv.at a.s := rfl
  refine Cp.ext' (NM.ext (Cp.comp_ok ha hi).1 can_one ?_ ?_) (NM.ext (Cp.comp_ok ha hi).2.2 can_zero ?_ ?_) ?_
  · rw [re_ct ha hi, re_it ha, im_it ha, re_idt, em]
    grind
  · rw [im_ct ha hi, re_it ha, im_it ha, im_idt, em]
    grind
  · rw [es, re_at hi ha.2.2, re_is ha, re_it ha, im_it ha, re_ids, em]
    grind
  · rw [es, im_at hi ha.2.2, im_is ha, re_it ha, im_it ha, im_ids, em]
    grind
  · show (a.m != a.m) = false
    cases a.m <;> rfl
/-! ### sizes -/
theorem gz_0 (a b : Int) : gz (gz a 0) b = gz a b := by
  unfold gz
  rw [Int.gcd_zero_right]
  unfold Int.gcd
  rw [Int.natAbs_natCast]
theorem sizeD_eq {z : Num} (h : z.d ≠ 0) : sizeD z = .tup [.int (szN z).x, .int (szN z).d] := by
  have hp : 0 < z.d * z.d := by
    have := sq_nn z.d
    have := Int.mul_ne_zero h h
    omega
  unfold sizeD szN ratD low
  simp only [if_pos hp, gz_0, Int.one_mul]
theorem can_szN {z : Num} (h : z.d ≠ 0) : Can (szN z) := low_can (Int.mul_ne_zero h h)
theorem re_szN {z : Num} (h : Can z) : re (szN z) = re z * re z + im z * im z := by
  unfold szN
  rw [re_low (Int.mul_ne_zero (ne_d h) (ne_d h))]
  unfold re im
  have := cast_ne (ne_d h)
  push_cast
  grind
theorem im_szN {z : Num} (h : Can z) : im (szN z) = 0 := by
  unfold szN
  rw [im_low (Int.mul_ne_zero (ne_d h) (ne_d h)), show ((0 : Int) : Rat) = 0 from rfl, Rat.div_def, Rat.zero_mul]
theorem szN_y {z : Num} (h : Can z) : (szN z).y = 0 := by
  have e := im_szN h
  unfold im at e
  have := cast_ne (ne_d (can_szN (ne_d h)))
  have e2 : (((szN z).y : Int) : Rat) = 0 := by grind
  exact_mod_cast e2
theorem sz_szN {n : Nat} {z : Num} (h : Can z) (s : Sz n z) : Sz (n + n + 1) (szN z) :=
  low_sz (Int.mul_ne_zero (ne_d h) (ne_d h)) ((s.1.mul s.1).add (s.2.1.mul s.2.1)) (by unfold Bt; exact Nat.two_pow_pos _) ((s.2.2.mul s.2.2).mono (by omega))
/-! ### inverses -/
theorem Cp.inv_at {a : Cp} {z : Num} (ha : a.ok) (hz : Can z) : a.inv.at (a.at z) = z := by
  rw [← Cp.comp_at ha (Cp.inv_ok ha) hz, Cp.comp_inv ha, Cp.id_at hz]
theorem Cp.at_inv {a : Cp} {z : Num} (ha : a.ok) (hz : Can z) : a.at (a.inv.at z) = z := by
  rw [← Cp.comp_at (Cp.inv_ok ha) ha hz, Cp.inv_comp ha, Cp.id_at hz]
theorem szN_pos {z : Num} (h : Can z) (nz : NZ z) : 0 < (szN z).x := by
  have h1 := can_szN (ne_d h)
  have e := re_szN h
  have n := nrm_ne h nz
  have hd := h1.1
  have nn : 0 ≤ z.x * z.x + z.y * z.y := by have := sq_nn z.x; have := sq_nn z.y; omega
  obtain ⟨k, hk, ex, ey, ed, hd0, _⟩ := low_spec (x := z.x * z.x + z.y * z.y) (y := 0) (Int.mul_ne_zero (ne_d h) (ne_d h))
  have hp : 0 < z.d * z.d := by
    have := sq_nn z.d
    have := Int.mul_ne_zero (ne_d h) (ne_d h)
    omega
  have kp : 0 < k := by
    have e2 : z.d * z.d = k * (szN z).d := ed
    rw [e2] at hp
    rcases Int.lt_trichotomy k 0 with q | q | q
    · have := Int.mul_neg_of_neg_of_pos q hd; omega
    · exact absurd q hk
    · exact q
  have nz2 := sq_ne nz
  have e3 : z.x * z.x + z.y * z.y = k * (szN z).x := ex
  rcases Int.lt_trichotomy (szN z).x 0 with q | q | q
  · have := Int.mul_neg_of_pos_of_neg kp q; omega
  · rw [q, Int.mul_zero] at e3; omega
  · exact q
end L3

/-! ## CM2 -/
set_option Elab.async false
set_option linter.all false
set_option maxHeartbeats 4000000
/-! Spots that are kept. -/
namespace L3
open NM L2
end L3

/-! ## V5 -/
set_option Elab.async false
set_option linter.all false
set_option maxRecDepth 100000
set_option maxHeartbeats 4000000
namespace L3
open PySem NM L2
local macro_rules | `(tactic| walk_at "d") => `(tactic| (try (simp only [rSeq, rAsg, rRet, rRetN, rDrop, rIf, rNext, rPar, rPar3, rCons, rNil, rStar, rCl, rOp, rUn, rVar, rC, rGN, rTup, rLst, rB, rAnd, rOr, rNot, rIfE, rAndV, rOrV, rNotV, rNever, rFld, rOwn, rMeth, rMakeK, rMakeD, rFldS, rFrz, rSetIx, rMut, rILst, rITup, rIRng1, rIRng2, rFor, rLc, rLcM, rTrue, gt, st, gI, gI0, gU, gIx, gEq, gNe, gAdd, gSub, gMul, gDiv, gMod, gPow, gLt, gLe, gGt, gGe, gIsi, gAbs, gLen, gAll, gIsN, gNotN, gOwn1, gOwn2, isNonD, seqD, res, atI_0, atI_1, atI_2, atI_3, atI_4, List.getElem?_cons_zero, List.getElem?_cons_succ, List.length_cons, List.length_nil, decide_eq_true_eq, List.map_cons, List.map_nil, startD, List.cons_append, List.nil_append, List.replicate, Nat.zero_add, numD, if_true, if_false, Bool.false_eq_true, and_self, true_and, ite_true, ite_false, Nat.reduceAdd, Nat.reduceSub, ln, Nat.reduceLeDiff, fin, String.reduceBEq, Bool.not_true, Bool.not_false, pureN, deq_int, deq_tt, deq_t0, deq_bl, List.all_cons, List.all_nil, Bool.and_true, Bool.true_and, Bool.and_eq_true, List.append_nil, lk_turn, lk_shift, lk_mirrored, lk_key, insD, updM_same, updM_updM, Option.map_some, Option.map_none])))
theorem vc_less (Γ : CL) : ∀ ds μ R, sp_less Γ ds μ R → rd_less Γ (fin R) (startD 2 ds) μ := by
  intro ds μ R h
  unfold sp_less at h
  split at h <;> first | exact h.elim | skip
  rename_i x y d u v w
  obtain ⟨h1, h2, s1, s2, h⟩ := h
  unfold rd_less
  walk_at "d"
  simp only [sp_opposite, opp, numD, sp_added]
  exact ⟨h1, h2, s1, s2.opp, h⟩
theorem vc_law_minus (Γ : CL) : ∀ ds μ R, sp_law_minus Γ ds μ R → rd_law_minus Γ (fin R) (startD 2 ds) μ := by
  intro ds μ R h
  unfold sp_law_minus sp_less at h
  split at h <;> first | exact h.elim | skip
  rename_i x y d u v w
  obtain ⟨h1, h2, s1, s2, h⟩ := h
  unfold rd_law_minus
  walk_at "d"
  simp only [sp_law_plus, sp_added]
  exact ⟨h1, h2, s1, s2.opp, h⟩
theorem insD_copy {Γ : CL} {μ : MH} {c : Cp} : insD μ (copyD Γ c) = some (Γ.Copy, copyFs c) := rfl
theorem own2_c {Γ : CL} {μ : MH} {s : GN} {R : D → MH → Prop} {a b : Cp} : gOwn2 Γ.Copy s (copyD Γ a) (copyD Γ b) μ R = s [copyD Γ a, copyD Γ b] μ R := propext ⟨fun h => h.2.2, fun h => ⟨rfl, rfl, h⟩⟩
theorem own1_c {Γ : CL} {μ : MH} {s : GN} {R : D → MH → Prop} {a : Cp} : gOwn1 Γ.Copy s (copyD Γ a) μ R = s [copyD Γ a] μ R := propext ⟨fun h => h.2, fun h => ⟨rfl, h⟩⟩
theorem res_num {μ : MH} {z : Num} : res μ (numD z) = numD z := rfl
theorem gEq_n {a b : Num} {μ : MH} {R : D → MH → Prop} : gEq (numD a) (numD b) μ R = R (.bl (decide (a = b))) μ := by
  unfold gEq
  rw [res_num, res_num, deq_num]
  exact propext ⟨fun h => h.2.2, fun h => ⟨rfl, rfl, h⟩⟩
theorem gNe_n {a b : Num} {μ : MH} {R : D → MH → Prop} : gNe (numD a) (numD b) μ R = R (.bl (!decide (a = b))) μ := by
  unfold gNe
  rw [res_num, res_num, deq_num]
  exact propext ⟨fun h => h.2.2, fun h => ⟨rfl, rfl, h⟩⟩
theorem gNe_ii {a b c d : Int} {μ : MH} {R : D → MH → Prop} : gNe (.tup [.int a, .int b]) (.tup [.int c, .int d]) μ R = R (.bl (!(a == c && b == d))) μ := by
  unfold gNe
  refine propext ⟨fun h => ?_, fun h => ⟨rfl, rfl, ?_⟩⟩
  · have := h.2.2
    simpa [res, deq_tt, deq_t0, deq_int] using this
  · simpa [res, deq_tt, deq_t0, deq_int] using h
theorem cONE : c_ONE = numD one := rfl
theorem cZERO : c_ZERO = numD zero := rfl
section
variable {Γ : CL} {μ : MH} {Q : D → MH → Prop} {a b : Num}
theorem mul_n (ha : Can a) (hb : Can b) (sa : Sz half a) (sb : Sz half b) (q : Q (numD (mul a b)) μ) : sp_multiplied Γ [numD a, numD b] μ Q := ⟨ne_d ha, ne_d hb, sa, sb, q⟩
theorem less_n (ha : Can a) (hb : Can b) (sa : Sz half a) (sb : Sz half b) (q : Q (numD (sub a b)) μ) : sp_less Γ [numD a, numD b] μ Q := ⟨ne_d ha, ne_d hb, sa, sb, q⟩
theorem ovr_n (q : Q (numD (ovr a)) μ) : sp_turned_over Γ [numD a] μ Q := q
theorem size_n (ha : Can a) (sa : Sz half a) (q : Q (.tup [.int (szN a).x, .int (szN a).d]) μ) : sp_size Γ [numD a] μ Q := ⟨ne_d ha, sa, by rw [show (⟨a.x, a.y, a.d⟩ : Num) = a from rfl, sizeD_eq (ne_d ha)]; exact q⟩
end
local macro_rules | `(tactic| walk_at "k") => `(tactic| (try (simp only [rSeq, rAsg, rRet, rRetN, rDrop, rIf, rNext, rPar, rPar3, rCons, rNil, rStar, rCl, rOp, rUn, rVar, rC, rGN, rTup, rLst, rB, rAnd, rOr, rNot, rIfE, rAndV, rOrV, rNotV, rNever, rFld, rOwn, rMeth, rMakeK, rMakeD, rFldS, rFrz, rSetIx, rMut, rILst, rITup, rIRng1, rIRng2, rFor, rLc, rLcM, rTrue, gt, st, gI, gI0, gU, gIx, gEq_n, gNe_n, gNe_ii, cONE, cZERO, gAdd, gSub, gMul, gDiv, gMod, gPow, gLt, gLe, gGt, gGe, gIsi, gAbs, gLen, gAll, gIsN, gNotN, gOwn1, gOwn2, isNonD, seqD, res, atI_0, atI_1, atI_2, atI_3, atI_4, List.getElem?_cons_zero, List.getElem?_cons_succ, List.length_cons, List.length_nil, decide_eq_true_eq, List.map_cons, List.map_nil, startD, List.cons_append, List.nil_append, List.replicate, Nat.zero_add, if_true, if_false, Bool.false_eq_true, and_self, true_and, ite_true, ite_false, Nat.reduceAdd, Nat.reduceSub, ln, Nat.reduceLeDiff, fin, String.reduceBEq, Bool.not_true, Bool.not_false, pureN, deq_int, deq_tt, deq_t0, deq_bl, List.all_cons, List.all_nil, Bool.and_true, Bool.true_and, Bool.and_eq_true, List.append_nil, lk_turn, lk_shift, lk_mirrored, lk_key, insD_copy, updM_same, updM_updM, Option.map_some, Option.map_none])))
end L3

/-! ## LW -/
set_option Elab.async false
set_option linter.all false
set_option maxRecDepth 100000
set_option maxHeartbeats 4000000
namespace L3
open PySem NM L2
theorem rG_nil {ρ : EV} {μ : MH} {Q : EV → MH → Prop} : rGNil [] ρ μ Q = Q ρ μ := propext ⟨fun h => h.2, fun h => ⟨rfl, h⟩⟩
theorem rG_cons {g : RG} {gs : RGs} {d : D} {r : List D} {ρ : EV} {μ : MH} {Q : EV → MH → Prop} : rGCons g gs (d :: r) ρ μ Q = g d ρ μ fun ρ1 μ1 => gs r ρ1 μ1 Q := rfl
theorem rGLst_i {n : Nat} {g : RGs} {ds : List D} {ρ : EV} {μ : MH} {Q : EV → MH → Prop} : rGLst n g (.lst ds) ρ μ Q = (ds.length = n ∧ g ds ρ μ Q) := rfl
local macro_rules | `(tactic| walk_at "d") => `(tactic| (try (simp only [rSeq, rAsg, rRet, rRetN, rDrop, rIf, rNext, rPar, rPar3, rCons, rNil, rStar, rCl, rOp, rUn, rVar, rC, rGN, rTup, rLst, rB, rAnd, rOr, rNot, rIfE, rAndV, rOrV, rNotV, rNever, rFld, rOwn, rMeth, rMakeK, rMakeD, rFldS, rFrz, rSetIx, rMut, rILst, rITup, rIRng1, rIRng2, rFor, rLc, rLcM, rTrue, gt, st, gI, gI0, gU, gIx, gEq, gNe, gAdd, gSub, gMul, gDiv, gMod, gPow, gLt, gLe, gGt, gGe, gIsi, gAbs, gLen, gAll, gIsN, gNotN, isNonD, seqD, res, atI_0, atI_1, atI_2, atI_3, atI_4, List.getElem?_cons_zero, List.getElem?_cons_succ, List.length_cons, List.length_nil, decide_eq_true_eq, List.map_cons, List.map_nil, startD, List.cons_append, List.nil_append, List.replicate, Nat.zero_add, numD, if_true, if_false, Bool.false_eq_true, and_self, true_and, ite_true, ite_false, Nat.reduceAdd, Nat.reduceSub, ln, Nat.reduceLeDiff, fin, String.reduceBEq, Bool.not_true, Bool.not_false, pureN, deq_int, deq_tt, deq_t0, deq_bl, List.all_cons, List.all_nil, Bool.and_true, Bool.true_and, Bool.and_eq_true, List.append_nil, lk_turn, lk_shift, lk_mirrored, lk_key, insD_copy, own2_c, own1_c, rG_nil, rG_cons, rGLst_i, updM_same, updM_updM, Option.map_some, Option.map_none])))

/-! ### rules that leave numbers folded -/
section
variable {μ : MH} {R : D → MH → Prop} {z w : Num} {c e : Cp} {i j : Int} {b b' : Bool} {ds es : List D} {p : Addr} {m : Nat}
theorem gIx_n0 : gIx (numD z) (.int 0) μ R = R (.int z.x) μ := rfl
theorem gIx_n1 : gIx (numD z) (.int 1) μ R = R (.int z.y) μ := rfl
theorem gIx_n2 : gIx (numD z) (.int 2) μ R = R (.int z.d) μ := rfl
theorem gIx_t : gIx (.tup ds) (.int i) μ R = (match atI ds i with | some d => R d μ | none => False) := rfl
theorem gIx_l : gIx (.lst ds) (.int i) μ R = (match atI ds i with | some d => R d μ | none => False) := rfl
theorem gIx_r : gIx (.ref p) (.int i) μ R = (match seqD (res μ (.ref p)) with | some ds => (match atI ds i with | some d => R d μ | none => False) | none => False) := rfl
theorem gEq_i : gEq (.int i) (.int j) μ R = R (.bl (i == j)) μ := propext ⟨fun h => h.2.2, fun h => ⟨rfl, rfl, h⟩⟩
theorem gNe_i : gNe (.int i) (.int j) μ R = R (.bl (!(i == j))) μ := propext ⟨fun h => h.2.2, fun h => ⟨rfl, rfl, h⟩⟩
theorem gEq_t : gEq (.tup ds) (.tup es) μ R = (pureN 20 (.tup ds) = true ∧ pureN 20 (.tup es) = true ∧ R (.bl (deq (.tup ds) (.tup es))) μ) := rfl
end
/-- one statement at a time: the rest stays folded -/
theorem seq_g {f g : RS} {D : Ed} {ρ : EV} {μ : MH} (h : ∀ N : EV → MH → Prop, (∀ ρ1 μ1, g D ρ1 μ1 → N ρ1 μ1) → f { D with nx := N } ρ μ) : rSeq f g D ρ μ := h _ fun _ _ q => q
theorem Cp.small.ok {c : Cp} (h : c.small) : c.ok := ⟨h.1.1, h.2.1, h.2.2.1⟩
theorem Cp.small.sz {c : Cp} (h : c.small) : c.sz 5 := ⟨h.1.2, h.2.2.2⟩
section
variable {Γ : CL} {μ : MH} {Q : D → MH → Prop} {a b c : Cp} {z : Num}
theorem rsh_i (ha : a.ok) (hb : b.ok) (sa : a.sz quart) (sb : b.sz quart) (q : Q (copyD Γ (a.comp b)) μ) : sp_Copy___rshift Γ [copyD Γ a, copyD Γ b] μ Q := ⟨a, b, rfl, ha, hb, sa, sb, q⟩
theorem inv_i (ha : a.ok) (sa : a.sz 400) (q : Q (copyD Γ a.inv) μ) : sp_Copy___invert Γ [copyD Γ a] μ Q := ⟨a, rfl, ha, sa, q⟩
theorem lcar_i (ha : a.ok) (sa : a.sz quart) (hz : Can z) (sz : Sz quart z) (q : Q (numD (a.at z)) μ) : sp_law_carried Γ [toldD a, numD z] μ Q := ⟨a, z, rfl, ha, sa, hz, sz, q⟩
theorem times_i {z w : Num} (ha : Can z) (hb : Can w) (sa : Sz half z) (sb : Sz half w) (q : Q (numD (mul z w)) μ) : sp_law_times Γ [numD z, numD w] μ Q := ⟨ne_d ha, ne_d hb, sa, sb, q⟩
theorem minus_i {z w : Num} (ha : Can z) (hb : Can w) (sa : Sz half z) (sb : Sz half w) (q : Q (numD (sub z w)) μ) : sp_law_minus Γ [numD z, numD w] μ Q := ⟨ne_d ha, ne_d hb, sa, sb, q⟩
theorem over_i {z : Num} (q : Q (numD (ovr z)) μ) : sp_law_over Γ [numD z] μ Q := q
theorem grow_i (ha : a.ok) (sa : a.sz half) (q : Q (.tup [.int (szN a.t).x, .int (szN a.t).d]) μ) : sp_Copy_growth Γ [copyD Γ a] μ Q := ⟨a, rfl, ne_d ha.1, sa.1, by rw [sizeD_eq (ne_d ha.1)]; exact q⟩
end
theorem lcD_mapG {α : Type} {i : Nat} {f : RX} {ρ : EV} {R : List D → MH → Prop} {μ : MH} (xs : List α) (p g : α → D) (hf : ∀ x ∈ xs, ∀ Q : D → MH → Prop, Q (g x) μ → f (st ρ i (p x)) μ Q) {acc : List D} (h : R (acc ++ xs.map g) μ) : lcD (rGN i) rTrue f tru ρ (xs.map p) acc μ R := by
  induction xs generalizing acc with
  | nil =>
    rw [List.map_nil, List.append_nil] at h
    exact ⟨trivial, h⟩
  | cons x r ih =>
    refine ⟨trivial, ?_⟩
    simp only [rGN, rTrue, if_true]
    refine hf x (List.mem_cons_self ..) _ (ih (fun y hy => hf y (List.mem_cons_of_mem _ hy)) ?_)
    rw [List.append_assoc]
    exact h
mutual
theorem same_self : ∀ {n : Nat} (d : D), okq n d = true → same d d = true
  | n, .non, _ => rfl
  | n, .bl b, _ => by unfold same; exact beq_self_eq_true b
  | n, .int b, _ => by unfold same; exact beq_self_eq_true b
  | n, .str b, _ => by unfold same; exact beq_self_eq_true b
  | n + 1, .tup ds, h => by
    unfold same
    simp only [okq, Bool.and_eq_true] at h
    exact sames_self ds h.2
  | n + 1, .lst ds, h => by
    unfold same
    simp only [okq, Bool.and_eq_true] at h
    exact sames_self ds h.2
  | 0, .tup _, h => by cases h
  | 0, .lst _, h => by cases h
  | 0, .ref _, h => by cases h
  | 0, .ins _ _, h => by cases h
  | 0, .ty _, h => by cases h
  | 0, .scr _, h => by cases h
  | n + 1, .ref _, h => by cases h
  | n + 1, .ins _ _, h => by cases h
  | n + 1, .ty _, h => by cases h
  | n + 1, .scr _, h => by cases h
theorem sames_self : ∀ {n : Nat} (ds : List D), ds.all (okq n) = true → sames ds ds = true
  | _, [], _ => by unfold sames; rfl
  | n, d :: r, h => by
    unfold sames
    rw [List.all_cons, Bool.and_eq_true] at h
    rw [same_self d h.1, sames_self r h.2]
    rfl
end
theorem equal_i {Γ : CL} {n : Nat} {a e : D} {μ : MH} {Q : D → MH → Prop} (h : a = e) (ha : okq n a = true) (q : Q (.bl true) μ) : sp_law_equal Γ (n + 1) [a, e] μ Q := by
  subst h
  refine ⟨ha, ha, ?_⟩
  rw [same_self a ha]
  exact q
/-! ### sizes of what is kept -/
end L3

/-! ## CM3 -/
set_option Elab.async false
set_option linter.all false
set_option maxHeartbeats 1000000
/-! What is kept is determined by the spots that are kept. -/
namespace L3
open NM L2
/-! ### where two copies meet -/
end L3

/-! ## CM6 -/
set_option Elab.async false
set_option linter.all false
set_option maxHeartbeats 1000000
/-! Copies done several times. -/
namespace L3
open NM L2
/-! ### whole numbers of two parts -/
def gp (X Y : Int) : Nat → Int × Int
  | 0 => (1, 0)
  | n + 1 => ((gp X Y n).1 * X - (gp X Y n).2 * Y, (gp X Y n).1 * Y + (gp X Y n).2 * X)
/-! ### turns of copies done several times -/
/-! ### the first time that a copy, done again and again, carries all spots to themselves -/
end L3

/-! ## LW2 -/
set_option Elab.async false
set_option linter.all false
set_option maxRecDepth 100000
set_option maxHeartbeats 4000000
namespace L3
open PySem NM L2
section
variable {Γ : CL} {μ : MH} {Q : D → MH → Prop} {a b c : Cp}
end
theorem CB {a b : Int} {n m : Nat} (h : Bt n a) (l : Bt m b) (hn : n ≤ big) (hm : m ≤ big) : CBig a b := ⟨h.mono hn, l.mono hm⟩
end L3

/-! ## V6 -/
set_option Elab.async false
set_option linter.all false
set_option maxRecDepth 100000
set_option maxHeartbeats 1000000
namespace L3
open PySem NM L2
theorem vc_is_int_in (Γ : CL) : ∀ ds μ R, sp_is_int_in Γ ds μ R → rd_is_int_in Γ (fin R) (startD 3 ds) μ := by
  rintro ds μ R ⟨d, lo, hi, rfl, ok, h⟩
  unfold rd_is_int_in
  rw [show startD 3 [d, .int lo, .int hi] = [some d, some (.int lo), some (.int hi)] from rfl]
  have isi : ∀ (T : String) (b : Bool) (Q : D → MH → Prop), tyOK T = true → isiD T d = some b → res μ d = d → Q (.bl b) μ → gIsi [d, .ty T] μ Q := by
    intro T b Q hT hb hr hQ
    refine ⟨hT, ?_⟩
    rw [hr, hb]
    exact hQ
  have no : ∀ (hr : res μ d = d), isiD "int" d = some false → inIntD d lo hi = false → rRet (rAndV (rCl gIsi (rCons (rVar 0) (rCons (rC (.ty "int")) rNil))) (rAndV (rNotV (rCl gIsi (rCons (rVar 0) (rCons (rC (.ty "bool")) rNil)))) (rChain gLe gLe (rVar 1) (rVar 0) (rVar 2)))) (fin R) [some d, some (.int lo), some (.int hi)] μ := by
    intro hr h1 h2
    simp only [rRet, rAndV, rCl, rCons, rVar, rC, rNil, gt]
    refine isi "int" false _ (by decide) h1 hr ?_
    simp only [Bool.false_eq_true, if_false]
    rw [h2] at h
    exact h
  cases d with
  | int i =>
    simp only [rRet, rAndV, rNotV, rCl, rCons, rVar, rC, rNil, gt]
    refine isi "int" true _ (by decide) rfl rfl ?_
    simp only [if_true]
    refine isi "bool" false _ (by decide) rfl rfl ?_
    simp only [Bool.not_false, if_true, rChain, rVar, gt, gI0]
    have h : R (.bl (decide (lo ≤ i) && decide (i ≤ hi))) μ := h
    by_cases q : lo ≤ i
    · rw [decide_eq_true q] at h ⊢
      simp only [if_true]
      exact h
    · rw [decide_eq_false q] at h ⊢
      simp only [Bool.false_eq_true, if_false]
      exact h
  | bl b =>
    simp only [rRet, rAndV, rNotV, rCl, rCons, rVar, rC, rNil, gt]
    refine isi "int" true _ (by decide) rfl rfl ?_
    simp only [if_true]
    refine isi "bool" true _ (by decide) rfl rfl ?_
    simp only [Bool.not_true, Bool.false_eq_true, if_false]
    exact h
  | non => exact no rfl rfl rfl
  | str x => exact no rfl rfl rfl
  | tup x => exact no rfl rfl rfl
  | lst x => exact no rfl rfl rfl
  | ref a => cases ok
  | ins C fs => cases ok
  | scr x => cases ok
  | ty n => cases ok
theorem small_copy {Γ : CL} {μ : MH} {R : D → MH → Prop} (h : R (copyD Γ Cp.id) μ) : gMake Γ.Copy (sp_Copy___init Γ) [numD one, numD zero, .bl false] μ R :=
  make_copy (t := one) (s := zero) can_one (by unfold NZ; decide) can_zero (Sz.mono (n := 5) (by unfold Sz Bt; decide) (by decide)) (Sz.mono (n := 5) (by unfold Sz Bt; decide) (by decide)) h
end L3

/-! ## V7 -/
set_option Elab.async false
set_option linter.all false
set_option maxRecDepth 100000
set_option maxHeartbeats 1000000
namespace L3
open PySem NM L2
local macro_rules | `(tactic| walk_at "d") => `(tactic| (try (simp only [rSeq, rAsg, rRet, rRetN, rDrop, rIf, rNext, rPar, rPar3, rCons, rNil, rStar, rCl, rOp, rUn, rVar, rC, rGN, rTup, rLst, rB, rAnd, rOr, rNot, rIfE, rAndV, rOrV, rNotV, rNever, rFld, rOwn, rMeth, rMakeK, rMakeD, rFldS, rFrz, rSetIx, rMut, rILst, rITup, rIRng1, rIRng2, rFor, rLc, rLcM, rTrue, gt, st, gI, gI0, gU, gIx, gEq, gNe, gAdd, gSub, gMul, gDiv, gMod, gPow, gLt, gLe, gGt, gGe, gIsi, gAbs, gLen, gAll, gIsN, gNotN, isNonD, seqD, res, atI_0, atI_1, atI_2, atI_3, atI_4, List.getElem?_cons_zero, List.getElem?_cons_succ, List.length_cons, List.length_nil, decide_eq_true_eq, List.map_cons, List.map_nil, startD, List.cons_append, List.nil_append, List.replicate, Nat.zero_add, if_true, if_false, Bool.false_eq_true, and_self, true_and, ite_true, ite_false, Nat.reduceAdd, Nat.reduceSub, ln, Nat.reduceLeDiff, fin, String.reduceBEq, Bool.not_true, Bool.not_false, pureN, deq_int, deq_tt, deq_t0, deq_bl, List.all_cons, List.all_nil, Bool.and_true, Bool.true_and, Bool.and_eq_true, List.append_nil, lk_turn, lk_shift, lk_mirrored, lk_key, insD_copy, own2_c, own1_c, rG_nil, rG_cons, rGLst_i, updM_same, updM_updM, Option.map_some, Option.map_none])))
/-! ### arms -/
theorem lk_pole (a : Am) : (armFs a).lookup ("pole" : Str) = some (numD a.p) := rfl
theorem lk_aturn (a : Am) : (armFs a).lookup ("turn" : Str) = some (numD a.t) := rfl
theorem lk_near (a : Am) : (armFs a).lookup ("near" : Str) = some (D.int a.lo) := rfl
theorem lk_far (a : Am) : (armFs a).lookup ("far" : Str) = some (D.int a.hi) := rfl
theorem lk_amirr (a : Am) : (armFs a).lookup ("mirrored" : Str) = some (D.bl a.m) := rfl
theorem lk_arms (Γ : CL) (as : List Am) : (chainFs Γ as).lookup ("arms" : Str) = some (.tup (as.map (armD Γ))) := rfl
theorem insD_arm {Γ : CL} {μ : MH} {a : Am} : insD μ (armD Γ a) = some (Γ.Arm, armFs a) := rfl
theorem insD_chain {Γ : CL} {μ : MH} {as : List Am} : insD μ (chainD Γ as) = some (Γ.Chain, chainFs Γ as) := rfl
theorem ownC_i {Γ : CL} {μ : MH} {s : GN} {R : D → MH → Prop} {a b : List Am} : gOwn2 Γ.Chain s (chainD Γ a) (chainD Γ b) μ R = s [chainD Γ a, chainD Γ b] μ R := propext ⟨fun h => h.2.2, fun h => ⟨rfl, rfl, h⟩⟩
theorem int_in {Γ : CL} {i lo hi : Int} {μ : MH} {Q : D → MH → Prop} (h1 : lo ≤ i) (h2 : i ≤ hi) (q : Q (.bl true) μ) : sp_is_int_in Γ [.int i, .int lo, .int hi] μ Q := by
  refine ⟨.int i, lo, hi, rfl, rfl, ?_⟩
  show Q (.bl (decide (lo ≤ i) && decide (i ≤ hi))) μ
  rw [decide_eq_true h1, decide_eq_true h2]
  exact q
theorem vc_Arm___init (Γ : CL) : ∀ ds μ R, sp_Arm___init Γ ds μ R → rd_Arm___init Γ (fin R) (startD 6 ds) μ := by
  intro ds μ R h
  unfold sp_Arm___init at h
  split at h <;> first | exact h.elim | skip
  rename_i a x y d u v w lo hi m
  obtain ⟨h1, h2, h3, ⟨b1, b2, b3⟩, s1, s2, hm, h⟩ := h
  unfold rd_Arm___init
  rw [show startD 6 [.ref a, .tup [.int x, .int y, .int d], .tup [.int u, .int v, .int w], .int lo, .int hi, .bl m] = [some (.ref a), some (.tup [.int x, .int y, .int d]), some (.tup [.int u, .int v, .int w]), some (.int lo), some (.int hi), some (.bl m)] from rfl]
  refine seq_g fun N hN => ?_
  simp only [rDrop, rCl, rCons, rVar, rNil, gt, sp_check_spot]
  refine ⟨h1, s1, hN _ _ ?_⟩
  clear hN N
  refine seq_g fun N hN => ?_
  simp only [rDrop, rCl, rCons, rVar, rNil, gt, sp_check_turn]
  refine ⟨h2, h3, s2, hN _ _ ?_⟩
  clear hN N
  refine seq_g fun N hN => ?_
  simp only [rIf, rOr, rNot, rB, rCl, rCons, rVar, rC, rNil, gt, c_MAX_REACH_arms]
  refine int_in b1 (by omega) ?_
  simp only [Bool.not_true, Bool.false_eq_true, if_false]
  refine int_in b2 b3 ?_
  simp only [Bool.not_true, Bool.false_eq_true, if_false, rNext]
  refine hN _ _ ?_
  clear hN N
  walk_at "d"
  simp only [hm]
  walk_at "d"
  refine ⟨(by show 0 < 1000; decide), (by show 1 < 1000; decide), (by show 2 < 1000; decide), (by show 3 < 1000; decide), (by show 4 < 1000; decide), (by show 5 < 1000; decide), ?_⟩
  exact h
theorem make_arm {Γ : CL} {p t : Num} {lo hi : Int} {m : Bool} {μ : MH} {R : D → MH → Prop} (h1 : Can p) (h2 : Can t) (h3 : NZ t) (hb : 0 ≤ lo ∧ lo ≤ hi ∧ hi ≤ 1000) (s1 : Sz big p) (s2 : Sz big t) (h : R (armD Γ ⟨p, t, lo, hi, m⟩) μ) : gMake Γ.Arm (sp_Arm___init Γ) [numD p, numD t, .int lo, .int hi, .bl m] μ R := by
  intro x hx
  refine ⟨h1, h2, h3, hb, s1, s2, updM_same, rfl, ?_⟩
  rw [updM_updM, updM_same]
  show R _ (delM (updM μ x _) x)
  rw [delM_updM hx]
  exact h
theorem vc_law_arm (Γ : CL) : ∀ ds μ R, sp_law_arm Γ ds μ R → rd_law_arm Γ (fin R) (startD 1 ds) μ := by
  rintro ds μ R ⟨a, rfl, ⟨k1, k2, k3, b⟩, s, h⟩
  unfold rd_law_arm armTD
  walk_at "d"
  exact make_arm k1 k2 k3 b s.1 s.2 h
/-! ### copies about a pole -/
theorem about_ok {p t : Num} {m : Bool} (hp : Can p) (ht : Can t) (nt : NZ t) : (aboutC p t m).ok := ⟨ht, nt, can_sub hp (can_mul ht (can_flip hp))⟩
theorem about_sz {p t : Num} {m : Bool} {n k : Nat} (hp : Can p) (ht : Can t) (sp : Sz n p) (st : Sz k t) : (aboutC p t m).sz (n + n + k + 3) :=
  ⟨st.mono (by omega), (Sz.add hp (can_opp (can_mul ht (can_flip hp))) sp (Sz.mul ht (can_flip hp) st (sz_flip sp)).opp).mono (by omega)⟩
theorem Am.eff_ok {a : Am} (h : a.ok) : a.eff.ok := about_ok h.1 h.2.1 h.2.2.1
theorem Am.eff_sz {a : Am} {n : Nat} (h : a.ok) (s : a.sz n) : a.eff.sz (n + n + n + 3) := about_sz h.1 h.2.1 s.1 s.2
theorem vc_copy_about (Γ : CL) : ∀ ds μ R, sp_copy_about Γ ds μ R → rd_copy_about Γ (fin R) (startD 4 ds) μ := by
  rintro ds μ R ⟨p, t, m, rfl, hp, ht, nt, sp, st, h⟩
  have ka := about_ok (m := m) hp ht nt
  have sa := about_sz (m := m) hp ht sp st
  have km := can_mul ht (can_flip (m := m) hp)
  have sm := Sz.mul ht (can_flip hp) st (sz_flip (m := m) sp)
  unfold rd_copy_about
  rw [show startD 4 [numD p, numD t, .bl m] = [some (numD p), some (numD t), some (.bl m), none] from rfl]
  refine seq_g fun N hN => ?_
  have fin' : N [some (numD p), some (numD t), some (.bl m), some (numD (mul t (flip m p)))] μ := by
    refine hN _ _ ?_
    clear hN N
    simp only [rRet, rMakeK, rCons, rVar, rCl, rNil, gt]
    refine less_n hp km (sp.mono (by decide)) (sm.mono (by decide)) ?_
    refine ⟨rfl, rfl, ?_⟩
    exact make_copy ht nt ka.2.2 (st.mono (by decide)) (sa.2.mono (by decide)) h
  simp only [rAsg, rCl, rCons, rVar, rNil, rIfE, rB, gt, rGN, st]
  cases m with
  | true =>
    refine ite_yes rfl ?_
    refine ovr_n ?_
    refine mul_n ht (can_ovr hp) (st.mono (by decide)) (sp.ovr.mono (by decide)) ?_
    exact fin'
  | false =>
    refine ite_no (by simp) ?_
    refine mul_n ht hp (st.mono (by decide)) (sp.mono (by decide)) ?_
    exact fin'
theorem vc_Arm_effect (Γ : CL) : ∀ ds μ R, sp_Arm_effect Γ ds μ R → rd_Arm_effect Γ (fin R) (startD 1 ds) μ := by
  rintro ds μ R ⟨a, rfl, k, s, h⟩
  unfold rd_Arm_effect
  rw [show startD 1 [armD Γ a] = [some (armD Γ a)] from rfl]
  simp only [rRet, rCl, rCons, rFld, rVar, rNil, gt, insD_arm, lk_pole, lk_aturn, lk_amirr, true_and]
  exact ⟨a.p, a.t, a.m, rfl, k.1, k.2.1, k.2.2.1, s.1, s.2, h⟩
/-! ### chains -/
theorem make_chain {Γ : CL} {ds : List D} {μ : MH} {R : D → MH → Prop} (hl : ds.length ≤ 6) (h : R (.ins Γ.Chain [("arms", .tup ds)]) μ) : gMakeS Γ.Chain (sp_Chain___init Γ) ds μ R := by
  refine ⟨Nat.le_trans hl (by decide), fun x hx => ?_⟩
  refine ⟨hl, updM_same, rfl, ?_⟩
  rw [updM_updM, updM_same]
  show R _ (delM (updM μ x _) x)
  rw [delM_updM hx]
  exact h
theorem make_chainA {Γ : CL} {as : List Am} {μ : MH} {R : D → MH → Prop} (hl : as.length ≤ 6) (h : R (chainD Γ as) μ) : gMakeS Γ.Chain (sp_Chain___init Γ) (as.map (armD Γ)) μ R := make_chain (by rw [List.length_map]; exact hl) h
theorem vc_Chain___init (Γ : CL) : ∀ ds μ R, sp_Chain___init Γ ds μ R → rd_Chain___init Γ (fin R) (startD 2 ds) μ := by
  intro ds μ R h
  unfold sp_Chain___init at h
  split at h <;> first | exact h.elim | skip
  rename_i a xs
  obtain ⟨h1, h2, h⟩ := h
  unfold rd_Chain___init
  rw [show startD 2 [.ref a, .tup xs] = [some (.ref a), some (.tup xs)] from rfl]
  refine seq_g fun N hN => ?_
  simp only [rIf, rB, rOp, rCl, rCons, rVar, rC, rNil, gt, gLen, res, seqD, c_MAX_ARMS, gI0]
  refine ite_no (by simp; omega) ?_
  refine hN _ _ ?_
  simp only [rFldS, rVar, gt, h2]
  refine ⟨trivial, by show 0 < 1000; decide, ?_⟩
  exact h
theorem vc_Chain___add (Γ : CL) : ∀ ds μ R, sp_Chain___add Γ ds μ R → rd_Chain___add Γ (fin R) (startD 3 ds) μ := by
  rintro ds μ R ⟨as, bs, rfl, hl, h⟩
  unfold rd_Chain___add
  rw [show startD 3 [chainD Γ as, chainD Γ bs] = [some (chainD Γ as), some (chainD Γ bs), none] from rfl]
  refine seq_g fun N hN => ?_
  simp only [rAsg, rTup, rStar, rFld, rVar, rNil, gt, insD_chain, lk_arms, res, seqD, true_and, List.append_nil, rGN, st]
  refine ⟨by rw [List.length_append, List.length_map, List.length_map]; exact Nat.le_trans hl (by decide), ?_⟩
  refine hN _ _ ?_
  simp only [rRet, rCl, rStar, rVar, rNil, gt, res, seqD, List.append_nil]
  rw [← List.map_append]
  refine make_chainA (by rw [List.length_append]; exact hl) h
theorem chain_loop {Γ : CL} {E : Ed} {s0 : Option D} {μ : MH} : ∀ (rs as : List Am) (x : Option D), (∀ a ∈ rs, a.ok ∧ a.sz big) → as.length + rs.length ≤ 6 → (∀ x, E.nx [s0, some (chainD Γ (as ++ rs)), x] μ) →
    forD (rGN 2) (rAsg (rOp (gOwn2 Γ.Chain (sp_Chain___add Γ)) (rVar 1) (rCl (gMakeS Γ.Chain (sp_Chain___init Γ)) (rCons (rCl (sp_law_arm Γ) (rCons (rVar 2) rNil)) rNil))) (rGN 1)) tru E (rs.map armTD) [s0, some (chainD Γ as), x] μ
  | [], as, x, _, _, h => ⟨trivial, by have := h x; rw [List.append_nil] at this; exact this⟩
  | a :: rs, as, x, ha, hl, h => by
    refine ⟨trivial, ?_⟩
    obtain ⟨ka, sa⟩ := ha a (List.mem_cons_self ..)
    rw [List.length_cons] at hl
    simp only [rGN, st, rAsg, rOp, rCl, rCons, rVar, rNil, gt]
    refine ⟨a, rfl, ka, sa, ?_⟩
    refine make_chainA (as := [a]) (by show 1 ≤ 6; decide) ?_
    rw [ownC_i]
    refine ⟨as, [a], rfl, by show as.length + 1 ≤ 6; omega, ?_⟩
    refine chain_loop rs (as ++ [a]) _ (fun b hb => ha b (List.mem_cons_of_mem _ hb)) (by rw [List.length_append]; show as.length + 1 + rs.length ≤ 6; omega) (fun x => ?_)
    rw [List.append_assoc]
    exact h x
theorem vc_law_chain (Γ : CL) : ∀ ds μ R, sp_law_chain Γ ds μ R → rd_law_chain Γ (fin R) (startD 3 ds) μ := by
  rintro ds μ R ⟨as, rfl, ha, hl, h⟩
  unfold rd_law_chain
  rw [show startD 3 [.lst (as.map armTD)] = [some (.lst (as.map armTD)), none, none] from rfl]
  refine seq_g fun N hN => ?_
  simp only [rAsg, rCl, rNil]
  refine make_chainA (as := []) (by decide) ?_
  simp only [rGN, st]
  refine hN _ _ ?_
  clear hN N
  refine seq_g fun N hN => ?_
  simp only [rFor, rILst, rVar, gt]
  refine chain_loop as [] none ha (by show 0 + as.length ≤ 6; omega) (fun x => ?_)
  refine hN _ _ ?_
  simp only [rRet, rVar, gt, List.nil_append]
  exact h
theorem atI_last {α : Type} (l : List α) (x : α) : atI (l ++ [x]) (-1) = some x := by
  unfold atI ixN
  have h1 : ¬ (0 : Int) ≤ -1 := by decide
  have h2 : -((l ++ [x]).length : Int) ≤ -1 := by rw [List.length_append]; show -(((l.length + 1 : Nat)) : Int) ≤ -1; omega
  rw [if_neg h1, if_pos h2]
  have e : (-1 + ((l ++ [x]).length : Int)).toNat = l.length := by rw [List.length_append]; show (-1 + (((l.length + 1 : Nat)) : Int)).toNat = _; omega
  show (l ++ [x])[(-1 + ((l ++ [x]).length : Int)).toNat]? = _
  rw [e, List.getElem?_append_right (Nat.le_refl _), Nat.sub_self]
  rfl
theorem ahead_loop {Γ : CL} {E : Ed} {s0 : Option D} {p : Addr} {μ : MH} : ∀ (as : List Am) (c : Cp) (pre : List D) (x : Option D), okA c as → c.ok → pre.length + as.length ≤ 6 →
    (∀ x, E.nx [s0, some (.ref p), x] (updM μ p (.lst (pre ++ (aheads c as).map (copyD Γ))))) →
    forD (rGN 2) (rDrop (rMut (rVar 1) (rCons (rOp (gOwn2 Γ.Copy (sp_Copy___rshift Γ)) (rOp gIx (rVar 1) (rUn (gU fun i => .int (-i)) (rC (.int 1)))) (rOwn Γ.Arm (sp_Arm_effect Γ) (rVar 2) rNil)) rNil) gAppend)) tru E (as.map (armD Γ)) [s0, some (.ref p), x] (updM μ p (.lst (pre ++ [copyD Γ c])))
  | [], c, pre, x, _, _, _, h => ⟨trivial, h x⟩
  | a :: as, c, pre, x, hk, kc, hl, h => by
    refine ⟨trivial, ?_⟩
    obtain ⟨sc, sa, se, ka, hk⟩ := hk
    rw [List.length_cons] at hl
    simp only [rGN, st, rDrop, rMut, rVar, gt, updM_same, rCons, rOp, rUn, rC, gU, gIx_r, res, seqD]
    have ei : atI (pre ++ [copyD Γ c]) (-(1 : Int)) = some (copyD Γ c) := atI_last _ _
    simp only [ei, rOwn, rVar, gt, insD_arm, rNil]
    refine ⟨trivial, rfl, a, rfl, ka, sa, ?_⟩
    simp only [own2_c]
    refine rsh_i kc (Am.eff_ok ka) sc se ?_
    simp only [updM_same, gAppend]
    refine ⟨by rw [List.length_append]; show pre.length + 1 < 2 ^ 24; omega, ?_⟩
    rw [updM_updM]
    refine ahead_loop as (c.comp a.eff) (pre ++ [copyD Γ c]) _ hk (Cp.comp_ok kc (Am.eff_ok ka)) (by rw [List.length_append]; show pre.length + 1 + as.length ≤ 6; omega) (fun x => ?_)
    rw [List.append_assoc]
    exact h x
theorem vc_copies_ahead (Γ : CL) : ∀ ds μ R, sp_copies_ahead Γ ds μ R → rd_copies_ahead Γ (fin R) (startD 3 ds) μ := by
  rintro ds μ R ⟨as, rfl, hk, hl, h⟩
  unfold rd_copies_ahead
  rw [show startD 3 [.tup (as.map (armD Γ))] = [some (.tup (as.map (armD Γ))), none, none] from rfl]
  refine seq_g fun N hN => ?_
  simp only [rAsg, rLstM, rCons, rMakeD, rC, rNil, cONE, cZERO, List.cons_append, List.nil_append]
  refine small_copy ?_
  refine ⟨by show 1 ≤ 2 ^ 24; decide, fun p hp => ?_⟩
  simp only [rGN, st]
  refine hN _ _ ?_
  clear hN N
  refine seq_g fun N hN => ?_
  simp only [rFor, rITup, rVar, gt]
  refine ahead_loop as Cp.id [] none hk Cp.id_ok (by show 0 + as.length ≤ 6; omega) (fun x => ?_)
  refine hN _ _ ?_
  simp only [rRet, rFrz, rVar, gt, frz, updM_same, List.nil_append]
  show R _ (delM (updM μ p _) p)
  rw [delM_updM hp]
  exact h
/-! ### the law's own arms -/
theorem vc_law_step (Γ : CL) : ∀ ds μ R, sp_law_step Γ ds μ R → rd_law_step Γ (fin R) (startD 2 ds) μ := by
  rintro ds μ R ⟨g, n, xs, rfl, n0, n10, hm, hx, h⟩
  unfold rd_law_step
  rw [show startD 2 [.ref g, .int n] = [some (.ref g), some (.int n)] from rfl]
  have cb : CBig 2 n := ⟨bt_small (by decide) (by decide), bt_small (by omega) (by decide)⟩
  simp only [rRet, rTup, rCons, rOp, rCl, rVar, rC, rNil, gt, gMul, gI, gAdd, gSub, gI0]
  refine ⟨cb, g, 2 * n + 1, xs, rfl, by omega, by omega, hm, hx, fun a ys a0 a1 hy => ?_⟩
  refine ⟨cb, g, 2 * n + 1, ys, rfl, by omega, by omega, updM_same, hy, fun b ys2 b0 b1 hy2 => ?_⟩
  refine ⟨by show 3 ≤ 2 ^ 24; decide, ?_⟩
  rw [updM_updM]
  exact h (a - n) (b - n) ys2 (by omega) (by omega) (by omega) (by omega) hy2
theorem can_i1 (x y : Int) : Can ⟨x, y, 1⟩ := ⟨by show (0 : Int) < 1; decide, by
  show gz (gz x y) 1 = 1
  have h1 := gz_dr (gz x y) 1
  have h2 := gz_pos (a := gz x y) (show (1 : Int) ≠ 0 by decide)
  have := Int.le_of_dvd (by decide) h1
  omega⟩
theorem vc_law_arm_told (Γ : CL) : ∀ ds μ R, sp_law_arm_told Γ ds μ R → rd_law_arm_told Γ (fin R) (startD 3 ds) μ := by
  rintro ds μ R ⟨g, xs, rfl, hm, hx, h⟩
  unfold rd_law_arm_told
  rw [show startD 3 [.ref g] = [some (.ref g), none, none] from rfl]
  refine seq_g fun N hN => ?_
  have s1 : ∀ lo ys, 0 ≤ lo → lo ≤ 2 → RL ys → N [some (.ref g), some (.int lo), none] (updM μ g (.lst ys)) := by
    intro lo ys lo0 lo2 hy
    refine hN _ _ ?_
    clear hN N
    refine seq_g fun N hN => ?_
    have s2 : ∀ z ys, Small z → RL ys → N [some (.ref g), some (.int lo), some (numD z)] (updM μ g (.lst ys)) := by
      intro z ys kz hy
      refine hN _ _ ?_
      clear hN N
      simp only [rRet, rTup, rCons, rCl, rVar, rC, rNil, gt, rOp, rLst]
      refine ⟨g, ys, rfl, updM_same, hy, fun t ys kt nt hy => ?_⟩
      refine ⟨by show 4 ≤ 2 ^ 24; decide, ?_⟩
      refine ⟨g, 4, ys, rfl, by decide, by decide, updM_same, hy, fun r ys r0 r1 hy => ?_⟩
      have s3 : ∀ q, q = 3 ∨ q = 8 ∨ q = 20 ∨ q = 99 → gAdd (.int lo) (.int q) (updM (updM (updM μ g (.lst ys)) g (.lst ys)) g (.lst ys)) fun d μ1 => rOp gEq (rCl (sp_law_below Γ) (rCons (rVar 0) (rCons (rC (.int 3)) rNil))) (rC (.int 0)) [some (.ref g), some (.int lo), some (numD z)] μ1 fun e μ2 => [numD z, numD t, .int lo, d, e].length ≤ sizeLine ∧ R (.tup [numD z, numD t, .int lo, d, e]) μ2 := by
        intro q hq
        simp only [gAdd, gI0, rOp, rCl, rCons, rVar, rC, rNil, gt, updM_updM]
        refine ⟨g, 3, ys, rfl, by decide, by decide, updM_same, hy, fun b ys b0 b1 hy => ?_⟩
        simp only [gEq_i, updM_updM]
        refine ⟨by show 5 ≤ 2 ^ 24; decide, ?_⟩
        exact h ⟨z, t, lo, lo + q, b == 0⟩ ys ⟨kz, kt, nt, lo0, lo2, by show lo ≤ lo + q; omega, by show lo + q ≤ 101; omega⟩ hy
      simp only [updM_updM] at s3 ⊢
      have : r = 0 ∨ r = 1 ∨ r = 2 ∨ r = 3 := by omega
      rcases this with rfl | rfl | rfl | rfl
      · exact s3 3 (by decide)
      · exact s3 8 (by decide)
      · exact s3 20 (by decide)
      · exact s3 99 (by decide)
    clear hN
    simp only [rAsg, rIfE, rB, rCl, rCons, rVar, rC, rNil, gt, rOp]
    refine ⟨g, 3, ys, rfl, by decide, by decide, updM_same, hy, fun r ys r0 r1 hy => ?_⟩
    simp only [gGt, gI0, updM_updM]
    by_cases hr : 0 < r
    · refine ite_yes (by simp [hr]) ?_
      refine ⟨g, 4, ys, rfl, by decide, by decide, updM_same, hy, fun x y ys x0 x1 y0 y1 hy => ?_⟩
      simp only [updM_updM]
      exact s2 ⟨x, y, 1⟩ ys ⟨can_i1 x y, by unfold Sz Bt; simp only; omega⟩ hy
    · refine ite_no (by simp [hr]) ?_
      refine ⟨g, ys, rfl, updM_same, hy, fun z ys kz hy => ?_⟩
      simp only [updM_updM]
      exact s2 z ys kz hy
  clear hN
  simp only [rAsg, rOp, rLst, rCl, rCons, rVar, rC, rNil, gt]
  refine ⟨by show 4 ≤ 2 ^ 24; decide, ?_⟩
  refine ⟨g, 4, xs, rfl, by decide, by decide, hm, hx, fun r ys r0 r1 hy => ?_⟩
  have : r = 0 ∨ r = 1 ∨ r = 2 ∨ r = 3 := by omega
  rcases this with rfl | rfl | rfl | rfl
  · exact s1 0 ys (by decide) (by decide) hy
  · exact s1 0 ys (by decide) (by decide) hy
  · exact s1 1 ys (by decide) (by decide) hy
  · exact s1 2 ys (by decide) (by decide) hy
end L3

/-! ## V9 -/
set_option Elab.async false
set_option linter.all false
set_option maxRecDepth 100000
set_option maxHeartbeats 1000000
namespace L3
open PySem NM L2
theorem gIx_f0 {z : Num} {μ : MH} {R : D → MH → Prop} : gIx (frD z) (.int 0) μ R = R (.int z.x) μ := rfl
theorem gIx_f1 {z : Num} {μ : MH} {R : D → MH → Prop} : gIx (frD z) (.int 1) μ R = R (.int z.d) μ := rfl
theorem vc_law_ratio (Γ : CL) : ∀ ds μ R, sp_law_ratio Γ ds μ R → rd_law_ratio Γ (fin R) (startD 2 ds) μ := by
  intro ds μ R h
  unfold sp_law_ratio at h
  split at h <;> first | exact h.elim | skip
  rename_i p q
  obtain ⟨h1, sp, sq, h⟩ := h
  unfold rd_law_ratio
  rw [show startD 2 [.int p, .int q] = [some (.int p), some (.int q)] from rfl]
  have z0 : Bt big 0 := by unfold Bt; exact Nat.two_pow_pos _
  simp only [rRet, rTup, rCons, rOp, rCl, rVar, rC, rNil, gt]
  refine ⟨h1, sp, z0, sq, ?_⟩
  simp only [gIx_n0]
  refine ⟨h1, sp, z0, sq, ?_⟩
  simp only [gIx_n2]
  refine ⟨by show 2 ≤ 2 ^ 24; decide, ?_⟩
  exact h
theorem vc_law_size (Γ : CL) : ∀ ds μ R, sp_law_size Γ ds μ R → rd_law_size Γ (fin R) (startD 1 ds) μ := by
  intro ds μ R h
  unfold sp_law_size at h
  split at h <;> first | exact h.elim | skip
  rename_i x y d
  obtain ⟨h1, ⟨s1, s2, s3⟩, h⟩ := h
  unfold rd_law_size
  rw [show startD 1 [.tup [.int x, .int y, .int d]] = [some (numD ⟨x, y, d⟩)] from rfl]
  have cb : ∀ {i j : Int}, Bt half i → Bt half j → CBig i j := fun h l => CB h l (by decide) (by decide)
  simp only [rRet, rCl, rCons, rOp, rVar, rC, rNil, gt, gIx_n0, gIx_n1, gIx_n2, gMul, gI, gAdd, gI0]
  refine ⟨cb s1 s1, cb s2 s2, cb s3 s3, Int.mul_ne_zero h1 h1, ((s1.mul s1).add (s2.mul s2)).mono (by decide), (s3.mul s3).mono (by decide), ?_⟩
  exact h
theorem vc_law_less (Γ : CL) : ∀ ds μ R, sp_law_less Γ ds μ R → rd_law_less Γ (fin R) (startD 2 ds) μ := by
  intro ds μ R h
  unfold sp_law_less at h
  split at h <;> first | exact h.elim | skip
  rename_i a b c d
  obtain ⟨s1, s2, s3, s4, h⟩ := h
  unfold rd_law_less
  rw [show startD 2 [.tup [.int a, .int b], .tup [.int c, .int d]] = [some (.tup [.int a, .int b]), some (.tup [.int c, .int d])] from rfl]
  simp only [rRet, rOp, rVar, rC, gt, gIx_t, atI_0, atI_1, List.getElem?_cons_zero, List.getElem?_cons_succ, gMul, gI, gLt, gI0]
  exact ⟨⟨s1, s4⟩, ⟨s3, s2⟩, h⟩
section
variable {Γ : CL} {μ : MH} {Q : D → MH → Prop}
theorem lsize_i {z : Num} (h : Can z) (s : Sz half z) (q : Q (frD (szN z)) μ) : sp_law_size Γ [numD z] μ Q := ⟨ne_d h, s, q⟩
theorem lless_i {a b c d : Int} (h1 : Bt big a) (h2 : Bt big b) (h3 : Bt big c) (h4 : Bt big d) (q : Q (.bl (decide (a * d < c * b))) μ) : sp_law_less Γ [.tup [.int a, .int b], .tup [.int c, .int d]] μ Q := ⟨h1, h2, h3, h4, q⟩
theorem lfr_i {z w : Num} (h1 : Sz big z) (h2 : Sz big w) (q : Q (.bl (decide (z.x * w.d < w.x * z.d))) μ) : sp_law_less Γ [frD z, frD w] μ Q := ⟨h1.1, h1.2.2, h2.1, h2.2.2, q⟩
theorem lratio_i {p q : Int} (h : q ≠ 0) (h1 : Bt big p) (h2 : Bt big q) (r : Q (frD (low p 0 q)) μ) : sp_law_ratio Γ [.int p, .int q] μ Q := ⟨h, h1, h2, r⟩
end
theorem vc_law_reached (Γ : CL) : ∀ ds μ R, sp_law_reached Γ ds μ R → rd_law_reached Γ (fin R) (startD 3 ds) μ := by
  rintro ds μ R ⟨a, z, rfl, ka, sp, kz, sz, h⟩
  have kp := ka.1
  have ks := can_sub kz ka.1
  have ss : Sz 1801 (sub z a.p) := Sz.add kz (can_opp ka.1) sz sp.opp
  have s2 := sz_szN ks ss
  obtain ⟨_, _, _, b1, b2, b3⟩ := ka
  have l1 : Bt 10 a.lo := by unfold Bt; omega
  have l2 : Bt 10 a.hi := by unfold Bt; omega
  have l3 : Bt big 1 := bt_small (by decide) (by decide)
  unfold rd_law_reached
  rw [show startD 3 [armTD a, numD z] = [some (armTD a), some (numD z), none] from rfl]
  have i0 : ∀ (μ : MH) (Q : D → MH → Prop), gIx (armTD a) (.int 0) μ Q = Q (numD a.p) μ := fun _ _ => rfl
  have i2 : ∀ (μ : MH) (Q : D → MH → Prop), gIx (armTD a) (.int 2) μ Q = Q (.int a.lo) μ := fun _ _ => rfl
  have i3 : ∀ (μ : MH) (Q : D → MH → Prop), gIx (armTD a) (.int 3) μ Q = Q (.int a.hi) μ := fun _ _ => rfl
  refine seq_g fun N hN => ?_
  simp only [rAsg, rCl, rCons, rOp, rVar, rC, rNil, gt, i0]
  refine minus_i kz kp (sz.mono (by decide)) (sp.mono (by decide)) ?_
  refine lsize_i ks (ss.mono (by decide)) ?_
  simp only [rGN, st]
  refine hN _ _ ?_
  clear hN N
  simp only [rRet, rAndV, rNotV, rCl, rCons, rTup, rOp, rVar, rC, rNil, gt, i2, gMul, gI]
  refine ⟨CB l1 l1 (by decide) (by decide), by show 2 ≤ 2 ^ 24; decide, ?_⟩
  refine lless_i (s2.1.mono (by decide)) (s2.2.2.mono (by decide)) ((l1.mul l1).mono (by decide)) l3 ?_
  unfold reachB at h
  by_cases q : (szN (sub z a.p)).x * 1 < a.lo * a.lo * (szN (sub z a.p)).d
  · rw [decide_eq_true q] at h ⊢
    simp only [Bool.not_true, Bool.false_eq_true, if_false]
    exact h
  · rw [decide_eq_false q] at h ⊢
    simp only [Bool.not_false, if_true, rOp, rVar, rC, gt, i3, gI]
    refine ⟨CB l2 l2 (by decide) (by decide), by show 2 ≤ 2 ^ 24; decide, ?_⟩
    refine lless_i ((l2.mul l2).mono (by decide)) l3 (s2.1.mono (by decide)) (s2.2.2.mono (by decide)) ?_
    exact h
theorem vc_law_about (Γ : CL) : ∀ ds μ R, sp_law_about Γ ds μ R → rd_law_about Γ (fin R) (startD 7 ds) μ := by
  rintro ds μ R ⟨⟨p, t, lo, hi, m⟩, rfl, ⟨hp, ht, nt, _⟩, ⟨sp, st'⟩, h⟩
  simp only at hp ht nt sp st'
  have km := can_mul ht (can_flip (m := m) hp)
  have sm := Sz.mul ht (can_flip hp) st' (sz_flip (m := m) sp)
  unfold rd_law_about armTD
  rw [show startD 7 [.tup [numD p, numD t, .int lo, .int hi, .bl m]] = [some (.tup [numD p, numD t, .int lo, .int hi, .bl m]), none, none, none, none, none, none] from rfl]
  refine seq_g fun N hN => ?_
  simp only [rAsg, rVar, gt]
  refine ⟨rfl, ?_⟩
  simp only [rGCons, rGNil, rGN, st, true_and]
  refine hN _ _ ?_
  clear hN N
  refine seq_g fun N hN => ?_
  have fin' : N [some (.tup [numD p, numD t, .int lo, .int hi, .bl m]), some (numD p), some (numD t), some (.int lo), some (.int hi), some (.bl m), some (numD (mul t (flip m p)))] μ := by
    refine hN _ _ ?_
    simp only [rRet, rTup, rCons, rCl, rVar, rNil, gt]
    refine minus_i hp km (sp.mono (by decide)) (sm.mono (by decide)) ?_
    refine ⟨by show 3 ≤ 2 ^ 24; decide, ?_⟩
    exact h
  simp only [rAsg, rCl, rCons, rVar, rNil, rIfE, rB, gt, rGN, st]
  cases m with
  | true =>
    refine ite_yes rfl ?_
    refine over_i ?_
    exact times_i ht (can_ovr hp) (st'.mono (by decide)) (sp.ovr.mono (by decide)) fin'
  | false =>
    refine ite_no (by simp) ?_
    exact times_i ht hp (st'.mono (by decide)) (sp.mono (by decide)) fin'
/-! ### zones -/
theorem ratD_eq {n d : Int} (h : 0 < d) : ratD n d = frD (low n 0 d) := by
  unfold ratD frD low
  simp only [gz_0, h, if_true, Int.one_mul]
theorem ratio_i {Γ : CL} {μ : MH} {Q : D → MH → Prop} {n d : Int} (h : 0 < d) (s : Bt big d) (q : Q (frD (low n 0 d)) μ) : sp_ratio Γ [.int n, .int d] μ Q := ⟨by omega, s, by rw [ratD_eq h]; exact q⟩
theorem zones_loop {Γ : CL} {E : Ed} {s0 : Option D} {p : Addr} {μ : MH} : ∀ (as : List Am) (c : Cp) (pre : List D) (x2 x3 x4 x5 x6 : Option D), okZ c as → pre.length + as.length ≤ 6 →
    (∀ x2 x3 x4 x5, E.nx [s0, some (.ref p), x2, x3, x4, x5, x6] (updM μ p (.lst (pre ++ (zonesL c as).map rgD)))) →
    forD (rGTup 2 (rGCons (rGN 2) (rGCons (rGN 3) rGNil))) (rSeq (rAsg (rOwn Γ.Copy (sp_Copy_growth Γ) (rVar 3) rNil) (rGN 4))
 (rSeq (rAsg (rLc (rITup (rTup (rCons (rFld Γ.Arm "near" (rVar 2)) (rCons (rFld Γ.Arm "far" (rVar 2)) rNil)))) (rGN 6) rTrue (rCl (sp_ratio Γ) (rCons (rOp gMul (rOp gMul (rVar 6) (rVar 6)) (rOp gIx (rVar 4) (rC (.int 1)))) (rCons (rOp gIx (rVar 4) (rC (.int 0))) rNil))) [6]) (rGN 5))
 (rDrop (rMut (rVar 1) (rCons (rTup (rCons (rCl (sp_carried Γ) (rCons (rUn (gOwn1 Γ.Copy (sp_Copy___invert Γ)) (rVar 3)) (rCons (rFld Γ.Arm "pole" (rVar 2)) rNil))) (rCons (rOp gIx (rVar 5) (rC (.int 0))) (rCons (rOp gIx (rVar 5) (rC (.int 1))) rNil)))) rNil) gAppend)))) tru E (zipD (as.map (armD Γ)) ((aheads c as).map (copyD Γ))) [s0, some (.ref p), x2, x3, x4, x5, x6] (updM μ p (.lst pre))
  | [], c, pre, x2, x3, x4, x5, x6, _, _, h => ⟨trivial, by have := h x2 x3 x4 x5; rw [show (zonesL c []).map rgD = [] from rfl, List.append_nil] at this; exact this⟩
  | a :: as, c, pre, x2, x3, x4, x5, x6, hk, hl, h => by
    obtain ⟨kc, sc, ka, sa, hk⟩ := hk
    rw [List.length_cons] at hl
    refine ⟨trivial, ?_⟩
    refine ⟨rfl, ?_⟩
    simp only [rGCons, rGNil, rGN, st, true_and]
    have ks := can_szN (ne_d kc.1)
    have ss := sz_szN kc.1 sc.1
    have ps := szN_pos kc.1 kc.2.1
    have ki := Cp.inv_ok kc
    have si := Cp.inv_sz kc sc
    obtain ⟨_, _, _, b1, b2, b3⟩ := id ka
    have l1 : Bt 10 a.lo := by unfold Bt; omega
    have l2 : Bt 10 a.hi := by unfold Bt; omega
    refine seq_g fun N hN => ?_
    simp only [rAsg, rOwn, rVar, rNil, gt, insD_copy, true_and]
    refine ⟨rfl, ?_⟩
    refine grow_i kc (sc.mono (by decide)) ?_
    simp only [rGN, st]
    refine hN _ _ ?_
    clear hN N
    refine seq_g fun N hN => ?_
    have i0 : ∀ (μ : MH) (Q : D → MH → Prop), gIx (.tup [.int (szN c.t).x, .int (szN c.t).d]) (.int 0) μ Q = Q (.int (szN c.t).x) μ := fun _ _ => rfl
    have i1 : ∀ (μ : MH) (Q : D → MH → Prop), gIx (.tup [.int (szN c.t).x, .int (szN c.t).d]) (.int 1) μ Q = Q (.int (szN c.t).d) μ := fun _ _ => rfl
    simp only [rAsg, rLc, rITup, rTup, rCons, rFld, rVar, rNil, gt, insD_arm, lk_near, lk_far, true_and, rms, rm]
    refine ⟨by show 2 ≤ 2 ^ 24; decide, by show 2 ≤ 2 ^ 24; decide, ?_⟩
    simp only [lcD, rGN, st, rTrue, if_true, rCl, rCons, rOp, rVar, rC, rNil, gt, i0, i1, gMul, gI]
    refine ⟨trivial, CB l1 l1 (by decide) (by decide), ⟨(l1.mul l1).mono (by decide), ss.2.2.mono (by decide)⟩, ?_⟩
    refine ratio_i ps (ss.1.mono (by decide)) ?_
    refine ⟨trivial, CB l2 l2 (by decide) (by decide), ⟨(l2.mul l2).mono (by decide), ss.2.2.mono (by decide)⟩, ?_⟩
    refine ratio_i ps (ss.1.mono (by decide)) ?_
    refine ⟨trivial, ?_⟩
    refine hN _ _ ?_
    clear hN N
    simp only [rDrop, rMut, rVar, gt, updM_same, rCons, rTup, rCl, rUn, rFld, rOp, rC, rNil, own1_c, List.nil_append, List.cons_append]
    refine inv_i kc (sc.mono (by decide)) ?_
    simp only [insD_arm, lk_pole, true_and]
    refine ⟨c.inv, a.p, rfl, ki, si.mono (by decide), ka.1, sa.1.mono (by decide), ?_⟩
    simp only [gIx_l, atI_0, atI_1, List.getElem?_cons_zero, List.getElem?_cons_succ]
    refine ⟨by show 3 ≤ 2 ^ 24; decide, ?_⟩
    simp only [updM_same, gAppend]
    refine ⟨by show pre.length < 2 ^ 24; omega, ?_⟩
    rw [updM_updM]
    refine zones_loop as (c.comp a.eff) (pre ++ [rgD (zoneOf c a)]) _ _ _ _ _ hk (by rw [List.length_append]; show pre.length + 1 + as.length ≤ 6; omega) (fun y2 y3 y4 y5 => ?_)
    rw [List.append_assoc]
    exact h y2 y3 y4 y5
theorem vc_zones (Γ : CL) : ∀ ds μ R, sp_zones Γ ds μ R → rd_zones Γ (fin R) (startD 7 ds) μ := by
  rintro ds μ R ⟨as, rfl, hk, hz, hl, h⟩
  unfold rd_zones
  rw [show startD 7 [chainD Γ as] = [some (chainD Γ as), none, none, none, none, none, none] from rfl]
  refine seq_g fun N hN => ?_
  simp only [rAsg, rLstM, rNil]
  refine ⟨by show 0 ≤ 2 ^ 24; decide, fun p hp => ?_⟩
  simp only [rGN, st]
  refine hN _ _ ?_
  clear hN N
  refine seq_g fun N hN => ?_
  simp only [rFor, rIZip, rCons, rFld, rCl, rVar, rNil, gt, insD_chain, lk_arms, true_and]
  refine ⟨as, rfl, hk, hl, ?_⟩
  simp only [rowD]
  refine zones_loop as Cp.id [] none none none none none hz (by show 0 + as.length ≤ 6; omega) (fun x2 x3 x4 x5 => ?_)
  refine hN _ _ ?_
  simp only [rRet, rFrz, rVar, gt, frz, updM_same, List.nil_append]
  show R _ (delM (updM μ p _) p)
  rw [delM_updM hp]
  exact h
end L3

/-! ## V10 -/
set_option Elab.async false
set_option linter.all false
set_option maxRecDepth 100000
set_option maxHeartbeats 1000000
namespace L3
open PySem NM L2
/-! ### what several pairs leave of the poles -/
/-! ### == of what is told -/
/-! ### the defs -/
end L3

/-! ## SP2 -/
set_option Elab.async false
set_option linter.all false
set_option maxRecDepth 100000
set_option maxHeartbeats 4000000
/-! Specs of drawings and codes. -/
namespace L3
open PySem NM L2
abbrev Stk := List Num
def strD (s : Stk) : D := .tup (s.map numD)
def strsD (ss : List Stk) : D := .tup (ss.map strD)
def drawFs (ss : List Stk) : List (Str × D) := [("strokes", strsD ss)]
def drawD (Γ : CL) (ss : List Stk) : D := .ins Γ.Drawing (drawFs ss)
/-- no spot stands twice in a row -/
def moves : Stk → Prop
  | [] => True
  | [_] => True
  | a :: b :: r => a ≠ b ∧ moves (b :: r)
structure okSt (n : Nat) (s : Stk) : Prop where
  ne : 1 ≤ s.length
  le : s.length ≤ 12
  mv : moves s
  can : ∀ z ∈ s, Can z ∧ Sz n z
structure okDr (n : Nat) (ss : List Stk) : Prop where
  le : ss.length ≤ 12
  st : ∀ s ∈ ss, okSt n s
theorem okSt.mono {n m : Nat} {s : Stk} (h : okSt n s) (l : n ≤ m) : okSt m s := ⟨h.ne, h.le, h.mv, fun z hz => ⟨(h.can z hz).1, (h.can z hz).2.mono l⟩⟩
theorem okDr.mono {n m : Nat} {ss : List Stk} (h : okDr n ss) (l : n ≤ m) : okDr m ss := ⟨h.le, fun s hs => (h.st s hs).mono l⟩
theorem okDr.nil {n : Nat} : okDr n [] := ⟨by decide, fun s hs => nomatch hs⟩
theorem okDr.one {n : Nat} {s : Stk} (h : okSt n s) : okDr n [s] := ⟨by show 1 ≤ 12; decide, fun t ht => by
  rcases List.mem_cons.mp ht with rfl | ht
  · exact h
  · exact nomatch ht⟩
def c_MAX_SPOTS : D := .int 12
def c_MAX_STROKES : D := .int 12
def sp_check_stroke (Γ : CL) : GN := fun ds μ R => ∃ s d, ds = [strD s, d] ∧ okSt big s ∧ R .non μ
def sp_Drawing___init (Γ : CL) : GN := fun ds μ R => match ds with
  | [.ref a, .tup xs] => ∃ ss : List Stk, xs = ss.map strD ∧ okDr big ss ∧ μ a = some (.ins Γ.Drawing []) ∧ R .non (updM μ a (.ins Γ.Drawing (drawFs ss)))
  | _ => False
def sp_Drawing___add (Γ : CL) : GN := fun ds μ R => ∃ as bs, ds = [drawD Γ as, drawD Γ bs] ∧ okDr big (as ++ bs) ∧ R (drawD Γ (as ++ bs)) μ
def movedBy (c : Cp) (ss : List Stk) : List Stk := ss.map fun s => s.map c.at
def sp_Drawing_copied (Γ : CL) : GN := fun ds μ R => ∃ ss c, ds = [drawD Γ ss, copyD Γ c] ∧ c.ok ∧ c.sz quart ∧ okDr quart ss ∧ R (drawD Γ (movedBy c ss)) μ
/-! the law's helpers -/
def okSm (s : Stk) : Prop := 1 ≤ s.length ∧ s.length ≤ 4 ∧ moves s ∧ ∀ z ∈ s, Small z
/-! ### codes -/
/-- nothing that was is lost -/
def Ext (μ μ' : MH) : Prop := ∀ a m, μ a = some m → μ' a = some m
theorem Ext.refl {μ : MH} : Ext μ μ := fun _ _ h => h
theorem Ext.trans {μ μ1 μ2 : MH} (h : Ext μ μ1) (l : Ext μ1 μ2) : Ext μ μ2 := fun a m q => l a m (h a m q)
theorem Ext.upd {μ μ1 : MH} {p : Addr} {m : MO} (h : Ext μ μ1) (hp : μ p = none) : Ext μ (updM μ1 p m) := fun a n q => by
  rw [updM_ne (fun e => by rw [e, hp] at q; cases q)]
  exact h a n q
end L3

/-! ## RB2 -/
set_option Elab.async false
set_option linter.all false
set_option maxRecDepth 100000
set_option maxHeartbeats 4000000
namespace L3
open PySem NM L2
/-- check_stroke(stroke, index) : 0 stroke, 1 index, 2 spot, 3 e, 4 is_still, 5 one, 6 other -/
def rd_check_stroke (Γ : CL) : RS := (rSeq (rFor (rITup (rVar 0)) (rGN 2)
 (rDrop (rCl (sp_check_spot Γ) (rCons (rVar 2) rNil))))
 (rSeq (rAsg (rCl gAny (rCons (rLc (rIZip (rCons (rVar 0) (rCons (rSl (rVar 0) (rPart (rC (.int 1))) rNoPart) rNil))) (rGTup 2 (rGCons (rGN 5) (rGCons (rGN 6) rGNil))) rTrue (rOp gEq (rVar 5) (rVar 6)) [5, 6]) rNil)) (rGN 4))
 (rIf (rOr (rNot (rB (rChain gLe gLe (rC (.int 1)) (rCl gLen (rCons (rVar 0) rNil)) (rC c_MAX_SPOTS)))) (rB (rVar 4)))
 rNever
 rNext)))
/-- Drawing.__init__(self, strokes) : 0 self, 1 strokes, 2 index, 3 stroke -/
def rd_Drawing___init (Γ : CL) : RS := (rSeq (rFor (rIEnum (rCons (rVar 1) rNil)) (rGTup 2 (rGCons (rGN 2) (rGCons (rGN 3) rGNil)))
 (rDrop (rCl (sp_check_stroke Γ) (rCons (rVar 3) (rCons (rVar 2) rNil)))))
 (rSeq (rIf (rB (rOp gGt (rCl gLen (rCons (rVar 1) rNil)) (rC c_MAX_STROKES)))
 rNever
 rNext)
 (rFldS Γ.Drawing "strokes" (rVar 0) (rVar 1))))
/-- Drawing.__add__(self, other) : 0 self, 1 other, 2 strokes -/
def rd_Drawing___add (Γ : CL) : RS := (rSeq (rAsg (rTup (rStar (rFld Γ.Drawing "strokes" (rVar 0)) (rStar (rFld Γ.Drawing "strokes" (rVar 1)) rNil))) (rGN 2))
 (rRet (rCl (gMakeS Γ.Drawing (sp_Drawing___init Γ)) (rStar (rVar 2) rNil))))
/-- Drawing.copied(self, copy) : 0 self, 1 copy, 2 strokes, 3 spot, 4 stroke -/
def rd_Drawing_copied (Γ : CL) : RS := (rSeq (rAsg (rLc (rITup (rFld Γ.Drawing "strokes" (rVar 0))) (rGN 4) rTrue (rCl gTuple (rCons (rLc (rITup (rVar 4)) (rGN 3) rTrue (rCl (sp_carried Γ) (rCons (rVar 1) (rCons (rVar 3) rNil))) [3]) rNil)) [4]) (rGN 2))
 (rRet (rCl (gMakeS Γ.Drawing (sp_Drawing___init Γ)) (rStar (rVar 2) rNil))))
end L3

/-! ## SP3 -/
set_option Elab.async false
set_option linter.all false
set_option maxRecDepth 100000
set_option maxHeartbeats 4000000
/-! Promises of what is raised. -/
namespace L3
open PySem NM L2
end L3

/-! ## RB3 -/
set_option Elab.async false
set_option linter.all false
set_option maxRecDepth 100000
set_option maxHeartbeats 4000000
namespace L3
open PySem NM L2
end L3

/-! ## V17 -/
set_option Elab.async false
set_option linter.all false
set_option maxRecDepth 100000
set_option maxHeartbeats 1000000
/-! Errors told. -/
namespace L3
open PySem NM L2
theorem isEx_i {a : Addr} {b : Bool} {i : Nat} {ρ : EV} {μ : MH} {R : D → MH → Prop} (h : gt ρ i = some (.ref a)) (q : R (.bl b) μ) : rIsEx a b (rVar i) ρ μ R := by
  simp only [rIsEx, rVar, h]
  exact ⟨trivial, q⟩
theorem gAdd_lll {as bs : List D} {μ : MH} {R : D → MH → Prop} (hl : as.length + bs.length ≤ 1000) (h : R (.lst (as ++ bs)) μ) : gAdd (.lst as) (.lst bs) μ R := ⟨Nat.le_trans hl (by decide), h⟩
def kindsD (bs : Nat → Bool) : List D := [.bl (bs 0), .bl (bs 1), .bl (bs 2), .bl (bs 3), .bl (bs 4), .bl (bs 5), .bl (bs 6), .bl (bs 7), .bl (bs 8), .bl (bs 9), .bl (bs 10), .bl (bs 11), .bl (bs 12), .bl (bs 13), .bl (bs 14), .bl (bs 15), .bl (bs 16), .bl (bs 17), .bl (bs 18), .bl (bs 19)]
def namesD : List D := [.str "spot", .str "turn", .str "times", .str "few", .str "stroke", .str "open", .str "reach", .str "out", .str "many", .str "size", .str "box", .str "contra", .str "text", .str "row", .str "unknown", .str "name", .str "code", .str "arm", .str "free", .str "operation"]
theorem gEq_s {x y : Str} {b : Bool} (hx : PyData.strOk x = true) (hy : PyData.strOk y = true) (h : (x == y) = b) {μ : MH} {R : D → MH → Prop} (q : R (.bl b) μ) : gEq (.str x) (.str y) μ R := ⟨hx, hy, by
  show R (.bl (deq (.str x) (.str y))) μ
  rw [deq_str, h]
  exact q⟩
theorem kinds_get {bs : Nat → Bool} {j : Nat} {z : D} (h : (kindsD bs)[j]? = some z) : z = .bl (bs j) := by
  rw [show kindsD bs = (List.range 20).map (fun j => D.bl (bs j)) from rfl, List.getElem?_map] at h
  cases w : (List.range 20)[j]? with
  | none => rw [w] at h; cases h
  | some k =>
    rw [w] at h
    obtain ⟨h1, h2⟩ := List.getElem?_eq_some_iff.mp w
    rw [List.getElem_range] at h2
    subst h2
    exact (Option.some.inj h).symm
theorem no_before {m : Nat} : ∀ j z, j < m → (kindsD fun j => decide (j = m))[j]? = some z → deq z (.bl true) = false := fun j z hj h => by
  rw [kinds_get h]
  show deq (.bl (decide (j = m))) (.bl true) = false
  rw [decide_eq_false (by omega)]
  rfl
/-! ### copies done too often -/
end L3

/-! ## V18 -/
set_option Elab.async false
set_option linter.all false
set_option maxRecDepth 100000
set_option maxHeartbeats 1000000
/-! What check_spot, check_turn, poles raise. -/
namespace L3
open PySem NM L2
end L3

/-! ## V11 -/
set_option Elab.async false
set_option linter.all false
set_option maxRecDepth 100000
set_option maxHeartbeats 1000000
/-! Drawings. -/
namespace L3
open PySem NM L2
theorem cut_from1 (ds : List D) : cutD ds (some 1) none = ds.drop 1 := by
  unfold cutD
  rw [HT.sIx_none, show (some (1 : Int)) = some ((1 : Nat) : Int) from rfl, HT.sIx_nat]
  cases ds with
  | nil => rfl
  | cons d r =>
    rw [Nat.min_eq_left (by simp), List.take_of_length_le]
    rw [List.length_drop]
    omega
theorem bools_rep' (n : Nat) (b : Bool) : bools (List.replicate n (D.bl b)) = some (List.replicate n b) := by
  induction n with
  | zero => rfl
  | succ n ih =>
    show (bools (List.replicate n (D.bl b))).map (b :: ·) = _
    rw [ih]
    rfl
theorem any_rep (n : Nat) : (List.replicate n false).any _root_.id = false := by
  induction n with
  | zero => rfl
  | succ n ih => exact ih
theorem gEq_num {z w : Num} {μ : MH} {R : D → MH → Prop} : gEq (numD z) (numD w) μ R = R (.bl (decide (z = w))) μ := by
  have e : deq (numD z) (numD w) = decide (z = w) := deq_num
  unfold gEq
  rw [show res μ (numD z) = numD z from rfl, show res μ (numD w) = numD w from rfl, e]
  exact propext ⟨fun h => h.2.2, fun h => ⟨rfl, rfl, h⟩⟩
/-! ### strokes -/
theorem stk_check_loop {Γ : CL} {E : Ed} {s0 s1 s3 s4 s5 s6 : Option D} {μ : MH} : ∀ (r : Stk) (x : Option D), (∀ z ∈ r, Can z ∧ Sz big z) → (∀ x, E.nx [s0, s1, x, s3, s4, s5, s6] μ) →
    forD (rGN 2) (rDrop (rCl (sp_check_spot Γ) (rCons (rVar 2) rNil))) tru E (r.map numD) [s0, s1, x, s3, s4, s5, s6] μ
  | [], x, _, h => ⟨trivial, h x⟩
  | z :: r, x, hz, h => by
    refine ⟨trivial, ?_⟩
    simp only [rGN, st, rDrop, rCl, rCons, rVar, rNil, gt]
    obtain ⟨h1, h2⟩ := hz z (List.mem_cons_self ..)
    exact ⟨h1, h2, stk_check_loop r _ (fun w hw => hz w (List.mem_cons_of_mem _ hw)) h⟩
theorem still_lc {s0 s1 s2 s3 s4 : Option D} {μ : MH} {R : List D → MH → Prop} : ∀ (s : Stk) (acc : List D), moves s → R (acc ++ List.replicate (s.length - 1) (.bl false)) μ →
    lcD (rGTup 2 (rGCons (rGN 5) (rGCons (rGN 6) rGNil))) rTrue (rOp gEq (rVar 5) (rVar 6)) tru [s0, s1, s2, s3, s4, none, none] (zipD (s.map numD) ((s.map numD).drop 1)) acc μ R
  | [], acc, _, h => ⟨trivial, by simpa using h⟩
  | [a], acc, _, h => ⟨trivial, by simpa using h⟩
  | a :: b :: r, acc, hm, h => by
    refine ⟨trivial, ?_⟩
    have e : (fun ρ1 μ1 => rTrue ρ1 μ1 fun c μ2 => if c = true then rOp gEq (rVar 5) (rVar 6) ρ1 μ2 fun y μ3 => lcD (rGTup 2 (rGCons (rGN 5) (rGCons (rGN 6) rGNil))) rTrue (rOp gEq (rVar 5) (rVar 6)) tru [s0, s1, s2, s3, s4, none, none] (zipD ((b :: r).map numD) (((b :: r).map numD).drop 1)) (acc ++ [y]) μ3 R
      else lcD (rGTup 2 (rGCons (rGN 5) (rGCons (rGN 6) rGNil))) rTrue (rOp gEq (rVar 5) (rVar 6)) tru [s0, s1, s2, s3, s4, none, none] (zipD ((b :: r).map numD) (((b :: r).map numD).drop 1)) acc μ2 R) [s0, s1, s2, s3, s4, some (numD a), some (numD b)] μ := by
      simp only [rTrue, if_true, rOp, rVar, gt, gEq_num, decide_eq_false hm.1]
      refine still_lc (b :: r) _ hm.2 ?_
      rw [List.append_assoc]
      exact h
    exact ⟨rfl, rfl, e⟩
theorem vc_check_stroke (Γ : CL) : ∀ ds μ R, sp_check_stroke Γ ds μ R → rd_check_stroke Γ (fin R) (startD 7 ds) μ := by
  rintro ds μ R ⟨s, d, rfl, k, h⟩
  unfold rd_check_stroke
  rw [show startD 7 [strD s, d] = [some (strD s), some d, none, none, none, none, none] from rfl]
  refine seq_g fun N hN => ?_
  simp only [rFor, rITup, rVar, gt, strD]
  refine stk_check_loop s none k.can fun x => ?_
  refine hN _ _ ?_
  clear hN N
  refine seq_g fun N hN => ?_
  simp only [rAsg, rCl, rCons, rNil, rLc, rIZip, rSl, rVar, rC, rPart, rNoPart, gt, gSl, res, rowD, cut_from1]
  have k12 := k.le
  refine ⟨by rw [zipD_len, List.length_drop, List.length_map]; show _ ≤ 2 ^ 24; omega, ?_⟩
  simp only [rms, rm]
  refine still_lc s [] k.mv ?_
  simp only [List.nil_append, gAny, res, bools_rep', any_rep, rGN, st]
  refine hN _ _ ?_
  clear hN N
  simp only [rIf, rOr, rNot, rB, rChain, rC, rCl, rCons, rVar, rNil, gt, gLen, res, seqD, gLe, gI0, List.length_map, c_MAX_SPOTS]
  have k1 := k.ne
  rw [decide_eq_true (show (1 : Int) ≤ (s.length : Int) by omega), if_pos rfl, decide_eq_true (show (s.length : Int) ≤ 12 by omega)]
  simp only [Bool.not_true, Bool.false_eq_true, if_false, rNext]
  exact h
theorem check_i {Γ : CL} {s : Stk} {d : D} {μ : MH} {Q : D → MH → Prop} (k : okSt big s) (q : Q .non μ) : sp_check_stroke Γ [strD s, d] μ Q := ⟨s, d, rfl, k, q⟩
/-! ### drawings -/
theorem draw_loop {Γ : CL} {E : Ed} {s0 s1 : Option D} {μ : MH} : ∀ (r : List Stk) (n : Nat) (x y : Option D), (∀ s ∈ r, okSt big s) → (∀ x y, E.nx [s0, s1, x, y] μ) →
    forD (rGTup 2 (rGCons (rGN 2) (rGCons (rGN 3) rGNil))) (rDrop (rCl (sp_check_stroke Γ) (rCons (rVar 3) (rCons (rVar 2) rNil)))) tru E (numbered n (r.map strD)) [s0, s1, x, y] μ
  | [], n, x, y, _, h => ⟨trivial, h x y⟩
  | s :: r, n, x, y, hs, h => by
    refine ⟨trivial, rfl, rfl, ?_⟩
    simp only [st, rDrop, rCl, rCons, rVar, rNil, gt]
    refine check_i (hs s (List.mem_cons_self ..)) ?_
    exact draw_loop r (n + 1) _ _ (fun t ht => hs t (List.mem_cons_of_mem _ ht)) h
theorem vc_Drawing___init (Γ : CL) : ∀ ds μ R, sp_Drawing___init Γ ds μ R → rd_Drawing___init Γ (fin R) (startD 4 ds) μ := by
  intro ds μ R h
  unfold sp_Drawing___init at h
  split at h <;> first | exact h.elim | skip
  rename_i a xs
  obtain ⟨ss, rfl, k, hm, h⟩ := h
  unfold rd_Drawing___init
  rw [show startD 4 [.ref a, .tup (ss.map strD)] = [some (.ref a), some (.tup (ss.map strD)), none, none] from rfl]
  refine seq_g fun N hN => ?_
  simp only [rFor, rIEnum, rCons, rVar, rNil, gt, rowD]
  refine draw_loop ss 0 none none k.st fun x y => ?_
  refine hN _ _ ?_
  clear hN N
  refine seq_g fun N hN => ?_
  simp only [rIf, rB, rOp, rCl, rCons, rVar, rC, rNil, gt, gLen, res, seqD, c_MAX_STROKES, gI0, List.length_map]
  have k12 := k.le
  refine ite_no (by simp; omega) ?_
  refine hN _ _ ?_
  clear hN N
  simp only [rFldS, rVar, gt, hm]
  exact ⟨trivial, by show 0 < 1000; decide, h⟩
theorem make_draw {Γ : CL} {ss : List Stk} {μ : MH} {R : D → MH → Prop} (k : okDr big ss) (h : R (drawD Γ ss) μ) : gMakeS Γ.Drawing (sp_Drawing___init Γ) (ss.map strD) μ R := by
  refine ⟨by rw [List.length_map]; exact Nat.le_trans k.le (by decide), fun x hx => ?_⟩
  refine ⟨ss, rfl, k, updM_same, rfl, ?_⟩
  rw [updM_updM, updM_same]
  show R _ (delM (updM μ x _) x)
  rw [delM_updM hx]
  exact h
theorem lk_strokes (ss : List Stk) : (drawFs ss).lookup ("strokes" : Str) = some (strsD ss) := rfl
theorem insD_draw {Γ : CL} {μ : MH} {ss : List Stk} : insD μ (drawD Γ ss) = some (Γ.Drawing, drawFs ss) := rfl
theorem ownD_i {Γ : CL} {μ : MH} {s : GN} {R : D → MH → Prop} {a b : List Stk} : gOwn2 Γ.Drawing s (drawD Γ a) (drawD Γ b) μ R = s [drawD Γ a, drawD Γ b] μ R := propext ⟨fun h => h.2.2, fun h => ⟨rfl, rfl, h⟩⟩
theorem vc_Drawing___add (Γ : CL) : ∀ ds μ R, sp_Drawing___add Γ ds μ R → rd_Drawing___add Γ (fin R) (startD 3 ds) μ := by
  rintro ds μ R ⟨as, bs, rfl, k, h⟩
  unfold rd_Drawing___add
  rw [show startD 3 [drawD Γ as, drawD Γ bs] = [some (drawD Γ as), some (drawD Γ bs), none] from rfl]
  refine seq_g fun N hN => ?_
  simp only [rAsg, rTup, rStar, rFld, rVar, rNil, gt, insD_draw, lk_strokes, strsD, res, seqD, true_and, List.append_nil, rGN, st]
  have k12 := k.le
  rw [List.length_append] at k12
  refine ⟨by rw [List.length_append, List.length_map, List.length_map]; exact Nat.le_trans k12 (by decide), ?_⟩
  refine hN _ _ ?_
  simp only [rRet, rCl, rStar, rVar, rNil, gt, res, seqD, List.append_nil]
  rw [← List.map_append]
  exact make_draw k h
theorem ldraw_loop {Γ : CL} {E : Ed} {s0 : Option D} {μ : MH} : ∀ (rs as : List Stk) (x : Option D), okDr big (as ++ rs) → (∀ x, E.nx [s0, some (drawD Γ (as ++ rs)), x] μ) →
    forD (rGN 2) (rAsg (rOp (gOwn2 Γ.Drawing (sp_Drawing___add Γ)) (rVar 1) (rCl (gMakeS Γ.Drawing (sp_Drawing___init Γ)) (rCons (rVar 2) rNil))) (rGN 1)) tru E (rs.map strD) [s0, some (drawD Γ as), x] μ
  | [], as, x, _, h => ⟨trivial, by have := h x; rw [List.append_nil] at this; exact this⟩
  | a :: rs, as, x, k, h => by
    refine ⟨trivial, ?_⟩
    simp only [rGN, st, rAsg, rOp, rCl, rCons, rVar, rNil, gt]
    have ka : okSt big a := k.st a (by simp)
    refine make_draw (ss := [a]) (.one ka) ?_
    rw [ownD_i]
    have e : (as ++ [a]) ++ rs = as ++ a :: rs := by rw [List.append_assoc]; rfl
    have kl := k.le
    rw [List.length_append, List.length_cons] at kl
    refine ⟨as, [a], rfl, ⟨by rw [List.length_append]; show as.length + 1 ≤ 12; omega, fun s hs => k.st s (by
      rw [← e]
      exact List.mem_append_left _ hs)⟩, ?_⟩
    refine ldraw_loop rs (as ++ [a]) _ (by rw [e]; exact k) (fun x => ?_)
    rw [e]
    exact h x
/-! ### the same drawing -/
/-! ### carried -/
theorem Cp.at_inj {c : Cp} {z w : Num} (h : c.ok) (hz : Can z) (hw : Can w) (e : c.at z = c.at w) : z = w := by
  rw [← Cp.inv_at h hz, e, Cp.inv_at h hw]
theorem moves_at {c : Cp} (h : c.ok) : ∀ {s : Stk}, (∀ z ∈ s, Can z) → moves s → moves (s.map c.at)
  | [], _, _ => trivial
  | [_], _, _ => trivial
  | a :: b :: r, k, m => ⟨fun e => m.1 (Cp.at_inj h (k a (by simp)) (k b (by simp)) e), moves_at h (fun z hz => k z (List.mem_cons_of_mem _ hz)) m.2⟩
theorem okSt.at {c : Cp} {n m : Nat} {s : Stk} (h : c.ok) (hs : c.sz n) (k : okSt m s) : okSt (n + m + 1 + n + 1) (s.map c.at) :=
  ⟨by rw [List.length_map]; exact k.ne, by rw [List.length_map]; exact k.le, moves_at h (fun z hz => (k.can z hz).1) k.mv, fun z hz => by
    obtain ⟨w, hw, rfl⟩ := List.mem_map.mp hz
    exact ⟨Cp.can_at h (k.can w hw).1, Cp.sz_at h (k.can w hw).1 hs (k.can w hw).2⟩⟩
theorem okDr.at {c : Cp} {n m : Nat} {ss : List Stk} (h : c.ok) (hs : c.sz n) (k : okDr m ss) : okDr (n + m + 1 + n + 1) (movedBy c ss) :=
  ⟨by unfold movedBy; rw [List.length_map]; exact k.le, fun s q => by
    obtain ⟨t, ht, rfl⟩ := List.mem_map.mp q
    exact (k.st t ht).at h hs⟩
theorem car_lc {Γ : CL} {ρ : EV} {c : Cp} {μ : MH} {R : List D → MH → Prop} (h1 : ∀ d, gt (st ρ 3 d) 1 = some (copyD Γ c)) (h3 : ∀ d, gt (st ρ 3 d) 3 = some d) (kc : c.ok) (sc : c.sz quart) : ∀ (s : Stk) (acc : List D), (∀ z ∈ s, Can z ∧ Sz quart z) → R (acc ++ (s.map c.at).map numD) μ →
    lcD (rGN 3) rTrue (rCl (sp_carried Γ) (rCons (rVar 1) (rCons (rVar 3) rNil))) tru ρ (s.map numD) acc μ R
  | [], acc, _, h => ⟨trivial, by simpa using h⟩
  | z :: s, acc, k, h => by
    refine ⟨trivial, ?_⟩
    simp only [rGN, rTrue, if_true, rCl, rCons, rVar, rNil, h1, h3]
    obtain ⟨k1, k2⟩ := k z (List.mem_cons_self ..)
    refine ⟨c, z, rfl, kc, sc, k1, k2, ?_⟩
    refine car_lc h1 h3 kc sc s _ (fun w hw => k w (List.mem_cons_of_mem _ hw)) ?_
    rw [List.append_assoc]
    exact h
theorem cop_lc {Γ : CL} {s0 s2 : Option D} {c : Cp} {μ : MH} {R : List D → MH → Prop} (kc : c.ok) (sc : c.sz quart) : ∀ (ss : List Stk) (acc : List D), (∀ s ∈ ss, okSt quart s) → R (acc ++ (movedBy c ss).map strD) μ →
    lcD (rGN 4) rTrue (rCl gTuple (rCons (rLc (rITup (rVar 4)) (rGN 3) rTrue (rCl (sp_carried Γ) (rCons (rVar 1) (rCons (rVar 3) rNil))) [3]) rNil)) tru [s0, some (copyD Γ c), s2, none, none] (ss.map strD) acc μ R
  | [], acc, _, h => ⟨trivial, by simpa [movedBy] using h⟩
  | s :: ss, acc, k, h => by
    refine ⟨trivial, ?_⟩
    have ks := k s (List.mem_cons_self ..)
    have k12 := ks.le
    simp only [rGN, st, rTrue, if_true, rCl, rCons, rLc, rITup, rVar, rNil, gt, strD]
    refine ⟨by rw [List.length_map]; exact Nat.le_trans k12 (by decide), ?_⟩
    refine car_lc (ρ := rms [s0, some (copyD Γ c), s2, none, some (.tup (s.map numD))] [3]) (fun d => rfl) (fun d => rfl) kc sc s [] ks.can ?_
    simp only [List.nil_append, gTuple, res]
    refine cop_lc kc sc ss _ (fun t ht => k t (List.mem_cons_of_mem _ ht)) ?_
    rw [List.append_assoc]
    exact h
theorem vc_Drawing_copied (Γ : CL) : ∀ ds μ R, sp_Drawing_copied Γ ds μ R → rd_Drawing_copied Γ (fin R) (startD 5 ds) μ := by
  rintro ds μ R ⟨ss, c, rfl, kc, sc, k, h⟩
  unfold rd_Drawing_copied
  rw [show startD 5 [drawD Γ ss, copyD Γ c] = [some (drawD Γ ss), some (copyD Γ c), none, none, none] from rfl]
  refine seq_g fun N hN => ?_
  simp only [rAsg, rLc, rITup, rFld, rVar, gt, insD_draw, lk_strokes, strsD, true_and]
  refine ⟨by rw [List.length_map]; exact Nat.le_trans k.le (by decide), ?_⟩
  simp only [rms, rm]
  refine cop_lc kc sc ss [] k.st ?_
  simp only [List.nil_append, rGN, st]
  refine hN _ _ ?_
  simp only [rRet, rCl, rStar, rVar, rNil, gt, res, seqD, List.append_nil]
  exact make_draw ((k.at kc sc).mono (by decide)) h
/-! ### random strokes -/
theorem Small.num {z : Num} (h : Small z) : Can z ∧ Sz 5 z := h
theorem okSm.ok {s : Stk} (h : okSm s) : okSt 5 s := ⟨h.1, by have := h.2.1; omega, h.2.2.1, fun z hz => h.2.2.2 z hz⟩
theorem updM_idL {μ : MH} {g : Addr} {xs : List D} (hm : μ g = some (.lst xs)) : updM μ g (.lst xs) = μ := by
  funext b
  unfold updM
  by_cases q : b = g
  · rw [if_pos q, q, hm]
  · rw [if_neg q]
end L3

/-! ## V11b -/
set_option Elab.async false
set_option linter.all false
set_option maxRecDepth 100000
set_option maxHeartbeats 1000000
/-! Rules about drawings for the laws. -/
namespace L3
open PySem NM L2
section
variable {Γ : CL} {μ : MH} {Q : D → MH → Prop} {as bs ss : List Stk}
theorem copied_i {c : Cp} (kc : c.ok) (sc : c.sz quart) (k : okDr quart ss) (q : Q (drawD Γ (movedBy c ss)) μ) : sp_Drawing_copied Γ [drawD Γ ss, copyD Γ c] μ Q := ⟨ss, c, rfl, kc, sc, k, q⟩
end
theorem lk_copied (ss : List Stk) : (drawFs ss).lookup ("copied" : Str) = none := rfl
theorem okDr.sm {n : Nat} {ss : List Stk} (h : (ss.length : Int) ≤ 12) (k : ∀ s ∈ ss, okSm s) (l : 5 ≤ n) : okDr n ss := ⟨by omega, fun s hs => (k s hs).ok.mono l⟩
end L3

/-! ## SP4 -/
set_option Elab.async false
set_option linter.all false
set_option maxRecDepth 100000
set_option maxHeartbeats 4000000
/-! What a law tells of errors, with their attributes. -/
namespace L3
open PySem NM L2
def errTx (m : Nat) : Str := (["spot", "turn", "times", "few", "stroke", "open", "reach", "out", "many", "size", "box", "contra", "text", "row", "unknown", "name", "code", "arm", "free", "operation"] : List Str).getD m ""
/-- what stands behind the error's name -/
def tailE (m : Nat) (ds : List D) : D := match m with
  | 4 => ds.headD .non
  | 16 => ds.headD .non
  | 19 => ds.headD .non
  | 7 => .tup ds
  | 12 => .tup ds
  | 13 => .tup ds
  | _ => .int 0
def valE (m : Nat) (ds : List D) : D := .tup [.str (errTx m), tailE m ds]
/-- L: which classes, by their places in the law's list -/
def resE (Γ : CL) (L : List Nat) : Addr → List (Str × D) → D → Prop := fun C fs v => ∃ m ∈ L, ∃ ds, ds.length = (attrNs m).length ∧ C = Γ.gx (errN m) ∧ fs = ((attrNs m).zip ds).reverse ∧ v = valE m ds
/-! ### fractions -/
def fr (q : Rat) : D := .tup [.int q.num, .int (q.den : Int)]
def SzQ (n : Nat) (q : Rat) : Prop := Bt n q.num ∧ Bt n (q.den : Int)
def qmin (p q : Rat) : Rat := if q < p then q else p
def qmax (p q : Rat) : Rat := if p < q then q else p
def dotQ (p a b : Num) : Rat := (re p - re a) * (re b - re a) + (im p - im a) * (im b - im a)
def crsQ (p a b : Num) : Rat := (re p - re a) * (im b - im a) - (im p - im a) * (re b - re a)
/-- the square of a distance -/
def dsQ (p a : Num) : Rat := (re a - re p) * (re a - re p) + (im a - im p) * (im a - im p)
def nearQ (p a b : Num) : Rat := if 0 < dotQ p a b ∧ dotQ p a b < dsQ a b then crsQ p a b * crsQ p a b / dsQ a b else qmin (dsQ p a) (dsQ p b)
def farQ (p a b : Num) : Rat := qmax (dsQ p a) (dsQ p b)
/-- a spot that is not too large -/
def SpOk (z : Num) : Prop := Can z ∧ Sz 250 z
def segs : Stk → List (Num × Num)
  | a :: b :: r => (a, b) :: segs (b :: r)
  | _ => []
def partsL : Stk → List (Num × Num)
  | [z] => [(z, z)]
  | s => segs s
def sp_is_less (Γ : CL) : GN := sp_law_less Γ
def sp_common_multiple (Γ : CL) : GN := fun ds μ R => ∃ (l : List Int) (N : Int), ds = [.lst (l.map D.int)] ∧ 0 < N ∧ Bt 7900 N ∧ (∀ x ∈ l, 0 < x ∧ x ∣ N) ∧ ∀ S : Int, 0 < S → S ∣ N → (∀ x ∈ l, x ∣ S) → R (.int S) μ
def sp_least (Γ : CL) : GN := fun ds μ R => ∃ p q : Rat, ds = [fr p, fr q] ∧ SzQ big p ∧ SzQ big q ∧ R (fr (qmin p q)) μ
def sp_nearest (Γ : CL) : GN := fun ds μ R => ∃ p a b, ds = [numD p, numD a, numD b] ∧ SpOk p ∧ SpOk a ∧ SpOk b ∧ R (fr (nearQ p a b)) μ
def sp_law_near (Γ : CL) : GN := sp_nearest Γ
def sp_farthest (Γ : CL) : GN := fun ds μ R => ∃ p a b, ds = [numD p, numD a, numD b] ∧ SpOk p ∧ SpOk a ∧ SpOk b ∧ R (fr (farQ p a b)) μ
def sp_parts_of (Γ : CL) : GN := fun ds μ R => ∃ s : Stk, ds = [strD s] ∧ 1 ≤ s.length ∧ s.length ≤ 12 ∧ R (.lst ((partsL s).map pairD)) μ
def sp_span (Γ : CL) : GN := fun ds μ R => ∃ p a b, ds = [numD p, pairD (a, b)] ∧ SpOk p ∧ SpOk a ∧ SpOk b ∧ R (.tup [fr (nearQ p a b), fr (farQ p a b)]) μ
def joinS : Option (Rat × Rat) → Rat × Rat → Option (Rat × Rat)
  | none, x => some x
  | some o, x => some (qmin o.1 x.1, qmax o.2 x.2)
def spanQ (p : Num) (x : Num × Num) : Rat × Rat := (nearQ p x.1 x.2, farQ p x.1 x.2)
def touchP (p : Num) (o : Option (Rat × Rat)) (l : List (Num × Num)) : Option (Rat × Rat) := l.foldl (fun f x => joinS f (spanQ p x)) o
def touchS (p : Num) (o : Option (Rat × Rat)) (ss : List Stk) : Option (Rat × Rat) := ss.foldl (fun f s => touchP p f (partsL s)) o
def touchD : Option (Rat × Rat) → D
  | none => .non
  | some x => .tup [fr x.1, fr x.2]
def sp_touched_span (Γ : CL) : GN := fun ds μ R => ∃ p ss, ds = [numD p, drawD Γ ss] ∧ SpOk p ∧ okDr 250 ss ∧ R (touchD (touchS p none ss)) μ
def needL : List Am → List Stk → List (Option (Rat × Rat))
  | [], _ => []
  | a :: r, ss => touchS a.p none ss :: needL r (movedBy a.eff ss)
/-- arms and a drawing that are not too large -/
def okN : List Am → List Stk → Prop
  | [], _ => True
  | a :: r, ss => (a.ok ∧ a.sz 250) ∧ okDr 250 ss ∧ okN r (movedBy a.eff ss)
def sp_needed_reach (Γ : CL) : GN := fun ds μ R => ∃ as ss, ds = [chainD Γ as, drawD Γ ss] ∧ okN as ss ∧ as.length ≤ 6 ∧ R (.lst ((needL as ss).map touchD)) μ
def betw (lo hi : Int) (q : Rat) : Bool := !decide (q < ((lo * lo : Int) : Rat)) && !decide (((hi * hi : Int) : Rat) < q)
def sp_is_between (Γ : CL) : GN := fun ds μ R => ∃ (q : Rat) (lo hi : Int), ds = [fr q, .int lo, .int hi] ∧ SzQ big q ∧ Bt 10 lo ∧ Bt 10 hi ∧ R (.bl (betw lo hi q)) μ
def okSpan (a : Am) : Option (Rat × Rat) → Bool
  | none => true
  | some x => betw a.lo a.hi x.1 && betw a.lo a.hi x.2
def canB (as : List Am) (ss : List Stk) : Bool := (as.zip (needL as ss)).all fun x => okSpan x.1 x.2
def sp_can_draw (Γ : CL) : GN := fun ds μ R => ∃ as ss, ds = [chainD Γ as, drawD Γ ss] ∧ okN as ss ∧ as.length ≤ 6 ∧ R (.bl (canB as ss)) μ
def partB (a : Am) (x : Num × Num) : Bool := betw a.lo a.hi (nearQ a.p x.1 x.2) && betw a.lo a.hi (farQ a.p x.1 x.2)
/-- the first part of many, from j on, that an arm cannot trace -/
def missP (a : Am) : Nat → List (Num × Num) → Option Nat
  | _, [] => none
  | j, x :: r => if partB a x = true then missP a (j + 1) r else some j
def missS (a : Am) : Nat → List Stk → Option (Nat × Nat)
  | _, [] => none
  | i, s :: r => match missP a 0 (partsL s) with
    | some j => some (i, j)
    | none => missS a (i + 1) r
def sp_law_traced (Γ : CL) : GN := fun ds μ R => ∃ a s, ds = [armTD a, strD s] ∧ a.ok ∧ a.sz 250 ∧ okSt 250 s ∧ R (natD (missP a 0 (partsL s))) μ
def sp_law_moved (Γ : CL) : GN := fun ds μ R => ∃ c ss, ds = [toldD c, strsD ss] ∧ c.ok ∧ c.sz quart ∧ okDr quart ss ∧ R (strsD (movedBy c ss)) μ
/-- (arm, stroke, part), and what the last pen draws -/
def missL : Nat → List Am → List Stk → Option (Nat × Nat × Nat) × List Stk
  | _, [], ss => (none, ss)
  | n, a :: r, ss => match missS a 0 ss with
    | some x => (some (n, x.1, x.2), [])
    | none => missL (n + 1) r (movedBy a.eff ss)
def missD3 : Option (Nat × Nat × Nat) → D
  | none => .non
  | some x => .tup [.int (x.1 : Int), .int (x.2.1 : Int), .int (x.2.2 : Int)]
def sp_law_missed (Γ : CL) : GN := fun ds μ R => ∃ as ss, ds = [.lst (as.map armTD), strsD ss] ∧ okN as ss ∧ as.length ≤ 6 ∧ R (.tup [missD3 (missL 0 as ss).1, strsD (missL 0 as ss).2]) μ
/-! ### chains that draw -/
/-- a copy of size 1 -/
def Cp.unit (c : Cp) : Prop := re c.t * re c.t + im c.t * im c.t = 1
end L3

/-! ## RB4 -/
set_option Elab.async false
set_option linter.all false
set_option maxRecDepth 100000
set_option maxHeartbeats 4000000
namespace L3
open PySem NM L2
/-- parts_of(stroke) : 0 stroke -/
def rd_parts_of (Γ : CL) : RS := (rRet (rIfE (rB (rOp gEq (rCl gLen (rCons (rVar 0) rNil)) (rC (.int 1)))) (rLst (rCons (rTup (rCons (rOp gIx (rVar 0) (rC (.int 0))) (rCons (rOp gIx (rVar 0) (rC (.int 0))) rNil))) rNil)) (rLZip (rCons (rVar 0) (rCons (rSl (rVar 0) (rPart (rC (.int 1))) rNoPart) rNil)))))
/-- is_less(one, other) : 0 one, 1 other -/
def rd_is_less (Γ : CL) : RS := (rRet (rOp gLt (rOp gMul (rOp gIx (rVar 0) (rC (.int 0))) (rOp gIx (rVar 1) (rC (.int 1)))) (rOp gMul (rOp gIx (rVar 1) (rC (.int 0))) (rOp gIx (rVar 0) (rC (.int 1))))))
/-- farthest(pole, one, other) : 0 pole, 1 one, 2 other, 3 distances -/
def rd_farthest (Γ : CL) : RS := (rSeq (rAsg (rLst (rCons (rCl (sp_size Γ) (rCons (rCl (sp_less Γ) (rCons (rVar 1) (rCons (rVar 0) rNil))) rNil)) (rCons (rCl (sp_size Γ) (rCons (rCl (sp_less Γ) (rCons (rVar 2) (rCons (rVar 0) rNil))) rNil)) rNil))) (rGN 3))
 (rRet (rIfE (rB (rCl (sp_is_less Γ) (rCons (rOp gIx (rVar 3) (rC (.int 0))) (rCons (rOp gIx (rVar 3) (rC (.int 1))) rNil)))) (rOp gIx (rVar 3) (rC (.int 1))) (rOp gIx (rVar 3) (rC (.int 0))))))
/-- common_multiple(values) : 0 values, 1 found, 2 value -/
def rd_common_multiple (Γ : CL) : RS := (rSeq (rAsg (rC (.int 1)) (rGN 1))
 (rSeq (rFor (rILst (rVar 0)) (rGN 2)
 (rAsg (rOp gMul (rOp gDiv (rVar 1) (rCl (sp_common_divisor Γ) (rCons (rVar 1) (rCons (rVar 2) rNil)))) (rVar 2)) (rGN 1)))
 (rRet (rVar 1))))
/-- least(one, other) : 0 one, 1 other -/
def rd_least (Γ : CL) : RS := (rRet (rIfE (rB (rCl (sp_is_less Γ) (rCons (rVar 1) (rCons (rVar 0) rNil)))) (rVar 1) (rVar 0)))
/-- nearest(pole, one, other) : 0 pole, 1 one, 2 other, 3 scale, 4 spots, 5 spot, 6 right, 7 up, 8 across, 9 high, 10 length, 11 along, 12 aside -/
def rd_nearest (Γ : CL) : RS := (rSeq (rAsg (rCl (sp_common_multiple Γ) (rCons (rLst (rCons (rOp gIx (rVar 0) (rC (.int 2))) (rCons (rOp gIx (rVar 1) (rC (.int 2))) (rCons (rOp gIx (rVar 2) (rC (.int 2))) rNil)))) rNil)) (rGN 3))
 (rSeq (rAsg (rLc (rITup (rTup (rCons (rVar 0) (rCons (rVar 1) (rCons (rVar 2) rNil))))) (rGN 5) rTrue (rTup (rCons (rOp gMul (rOp gIx (rVar 5) (rC (.int 0))) (rOp gDiv (rVar 3) (rOp gIx (rVar 5) (rC (.int 2))))) (rCons (rOp gMul (rOp gIx (rVar 5) (rC (.int 1))) (rOp gDiv (rVar 3) (rOp gIx (rVar 5) (rC (.int 2))))) rNil))) [5]) (rGN 4))
 (rSeq (rPar 6 7 (rCons (rOp gSub (rOp gIx (rOp gIx (rVar 4) (rC (.int 2))) (rC (.int 0))) (rOp gIx (rOp gIx (rVar 4) (rC (.int 1))) (rC (.int 0)))) (rCons (rOp gSub (rOp gIx (rOp gIx (rVar 4) (rC (.int 2))) (rC (.int 1))) (rOp gIx (rOp gIx (rVar 4) (rC (.int 1))) (rC (.int 1)))) rNil)))
 (rSeq (rPar 8 9 (rCons (rOp gSub (rOp gIx (rOp gIx (rVar 4) (rC (.int 0))) (rC (.int 0))) (rOp gIx (rOp gIx (rVar 4) (rC (.int 1))) (rC (.int 0)))) (rCons (rOp gSub (rOp gIx (rOp gIx (rVar 4) (rC (.int 0))) (rC (.int 1))) (rOp gIx (rOp gIx (rVar 4) (rC (.int 1))) (rC (.int 1)))) rNil)))
 (rSeq (rAsg (rOp gAdd (rOp gMul (rVar 6) (rVar 6)) (rOp gMul (rVar 7) (rVar 7))) (rGN 10))
 (rSeq (rAsg (rOp gAdd (rOp gMul (rVar 8) (rVar 6)) (rOp gMul (rVar 9) (rVar 7))) (rGN 11))
 (rSeq (rIf (rB (rChain gLt gLt (rC (.int 0)) (rVar 11) (rVar 10)))
 (rSeq (rAsg (rOp gSub (rOp gMul (rVar 8) (rVar 7)) (rOp gMul (rVar 9) (rVar 6))) (rGN 12))
 (rRet (rCl (sp_ratio Γ) (rCons (rOp gMul (rVar 12) (rVar 12)) (rCons (rOp gMul (rOp gMul (rVar 10) (rVar 3)) (rVar 3)) rNil)))))
 rNext)
 (rRet (rCl (sp_least Γ) (rCons (rCl (sp_size Γ) (rCons (rCl (sp_less Γ) (rCons (rVar 1) (rCons (rVar 0) rNil))) rNil)) (rCons (rCl (sp_size Γ) (rCons (rCl (sp_less Γ) (rCons (rVar 2) (rCons (rVar 0) rNil))) rNil)) rNil)))))))))))
/-- span(pole, part) : 0 pole, 1 part -/
def rd_span (Γ : CL) : RS := (rRet (rTup (rCons (rCl (sp_nearest Γ) (rCons (rVar 0) (rStar (rVar 1) rNil))) (rCons (rCl (sp_farthest Γ) (rCons (rVar 0) (rStar (rVar 1) rNil))) rNil))))
/-- touched_span(pole, drawing) : 0 pole, 1 drawing, 2 found, 3 stroke, 4 part, 5 low, 6 high -/
def rd_touched_span (Γ : CL) : RS := (rSeq (rAsg (rC .non) (rGN 2))
 (rSeq (rFor (rITup (rFld Γ.Drawing "strokes" (rVar 1))) (rGN 3)
 (rFor (rILst (rCl (sp_parts_of Γ) (rCons (rVar 3) rNil))) (rGN 4)
 (rSeq (rAsg (rCl (sp_span Γ) (rCons (rVar 0) (rCons (rVar 4) rNil))) (rGTup 2 (rGCons (rGN 5) (rGCons (rGN 6) rGNil))))
 (rSeq (rIf (rB (rOp gNotN (rVar 2) (rC .non)))
 (rPar 5 6 (rCons (rCl (sp_least Γ) (rCons (rOp gIx (rVar 2) (rC (.int 0))) (rCons (rVar 5) rNil))) (rCons (rIfE (rB (rCl (sp_is_less Γ) (rCons (rOp gIx (rVar 2) (rC (.int 1))) (rCons (rVar 6) rNil)))) (rVar 6) (rOp gIx (rVar 2) (rC (.int 1)))) rNil)))
 rNext)
 (rAsg (rTup (rCons (rVar 5) (rCons (rVar 6) rNil))) (rGN 2))))))
 (rRet (rVar 2))))
/-- needed_reach(chain, drawing) : 0 chain, 1 drawing, 2 found, 3 arm -/
def rd_needed_reach (Γ : CL) : RS := (rSeq (rAsg (rLstM rNil) (rGN 2))
 (rSeq (rFor (rITup (rFld Γ.Chain "arms" (rVar 0))) (rGN 3)
 (rSeq (rDrop (rMut (rVar 2) (rCons (rCl (sp_touched_span Γ) (rCons (rFld Γ.Arm "pole" (rVar 3)) (rCons (rVar 1) rNil))) rNil) gAppend))
 (rAsg (rMeth Γ.Drawing "copied" (sp_Drawing_copied Γ) (rVar 1) (rCons (rOwn Γ.Arm (sp_Arm_effect Γ) (rVar 3) rNil) rNil)) (rGN 1))))
 (rRet (rFrz (rVar 2)))))
/-- _law_near(_law_pole, _law_one, _law_other) : 0 _law_pole, 1 _law_one, 2 _law_other, 3 _law_way, 4 _law_here, 5 _law_along, 6 _law_length, 7 _law_ends -/
def rd_law_near (Γ : CL) : RS := (rSeq (rPar 3 4 (rCons (rCl (sp_law_minus Γ) (rCons (rVar 2) (rCons (rVar 1) rNil))) (rCons (rCl (sp_law_minus Γ) (rCons (rVar 0) (rCons (rVar 1) rNil))) rNil)))
 (rSeq (rAsg (rCl (sp_law_times Γ) (rCons (rVar 4) (rCons (rCl (sp_law_over Γ) (rCons (rVar 3) rNil)) rNil))) (rGN 5))
 (rSeq (rAsg (rCl (sp_law_size Γ) (rCons (rVar 3) rNil)) (rGN 6))
 (rSeq (rIf (rOr (rB (rOp gLe (rOp gIx (rVar 5) (rC (.int 0))) (rC (.int 0)))) (rNot (rB (rCl (sp_law_less Γ) (rCons (rTup (rCons (rOp gIx (rVar 5) (rC (.int 0))) (rCons (rOp gIx (rVar 5) (rC (.int 2))) rNil))) (rCons (rVar 6) rNil))))))
 (rSeq (rAsg (rLst (rCons (rCl (sp_law_size Γ) (rCons (rVar 4) rNil)) (rCons (rCl (sp_law_size Γ) (rCons (rCl (sp_law_minus Γ) (rCons (rVar 0) (rCons (rVar 2) rNil))) rNil)) rNil))) (rGN 7))
 (rRet (rIfE (rB (rCl (sp_law_less Γ) (rCons (rOp gIx (rVar 7) (rC (.int 1))) (rCons (rOp gIx (rVar 7) (rC (.int 0))) rNil)))) (rOp gIx (rVar 7) (rC (.int 1))) (rOp gIx (rVar 7) (rC (.int 0))))))
 rNext)
 (rRet (rCl (sp_law_ratio Γ) (rCons (rOp gMul (rOp gMul (rOp gIx (rVar 5) (rC (.int 1))) (rOp gIx (rVar 5) (rC (.int 1)))) (rOp gIx (rVar 6) (rC (.int 1)))) (rCons (rOp gMul (rOp gMul (rOp gIx (rVar 5) (rC (.int 2))) (rOp gIx (rVar 5) (rC (.int 2)))) (rOp gIx (rVar 6) (rC (.int 0)))) rNil))))))))
/-- _law_traced(_law_told, _law_stroke_here) : 0 _law_told, 1 _law_stroke_here, 2 _law_k, 3 _law_least_far -/
def rd_law_traced (Γ : CL) : RS := (rSeq (rIf (rB (rOp gEq (rCl gLen (rCons (rVar 1) rNil)) (rC (.int 1))))
 (rRet (rIfE (rB (rCl (sp_law_reached Γ) (rCons (rVar 0) (rCons (rOp gIx (rVar 1) (rC (.int 0))) rNil)))) (rC .non) (rC (.int 0))))
 rNext)
 (rSeq (rFor (rIRng1 (rCons (rOp gSub (rCl gLen (rCons (rVar 1) rNil)) (rC (.int 1))) rNil)) (rGN 2)
 (rSeq (rAsg (rCl (sp_law_near Γ) (rCons (rOp gIx (rVar 0) (rC (.int 0))) (rCons (rOp gIx (rVar 1) (rVar 2)) (rCons (rOp gIx (rVar 1) (rOp gAdd (rVar 2) (rC (.int 1)))) rNil)))) (rGN 3))
 (rSeq (rIf (rOr (rNot (rB (rCl (sp_law_reached Γ) (rCons (rVar 0) (rCons (rOp gIx (rVar 1) (rVar 2)) rNil))))) (rNot (rB (rCl (sp_law_reached Γ) (rCons (rVar 0) (rCons (rOp gIx (rVar 1) (rOp gAdd (rVar 2) (rC (.int 1)))) rNil))))))
 (rRet (rVar 2))
 rNext)
 (rIf (rB (rCl (sp_law_less Γ) (rCons (rVar 3) (rCons (rTup (rCons (rOp gMul (rOp gIx (rVar 0) (rC (.int 2))) (rOp gIx (rVar 0) (rC (.int 2)))) (rCons (rC (.int 1)) rNil))) rNil))))
 (rRet (rVar 2))
 rNext))))
 (rRet (rC .non))))
/-- _law_moved(_law_told, _law_strokes_here) : 0 _law_told, 1 _law_strokes_here, 2 _law_found, 3 _law_stroke_here, 4 _law_spot_here -/
def rd_law_moved (Γ : CL) : RS := (rSeq (rAsg (rLstM rNil) (rGN 2))
 (rSeq (rFor (rITup (rVar 1)) (rGN 3)
 (rDrop (rMut (rVar 2) (rCons (rCl gTuple (rCons (rLc (rITup (rVar 3)) (rGN 4) rTrue (rCl (sp_law_carried Γ) (rCons (rVar 0) (rCons (rVar 4) rNil))) [4]) rNil)) rNil) gAppend)))
 (rRet (rCl gTuple (rCons (rFrz (rVar 2)) rNil)))))
/-- _law_missed(_law_tolds, _law_strokes_here) : 0 _law_tolds, 1 _law_strokes_here, 2 _law_number, 3 _law_index, 4 _law_part, 5 _law_told -/
def rd_law_missed (Γ : CL) : RS := (rSeq (rFor (rIRng1 (rCons (rCl gLen (rCons (rVar 0) rNil)) rNil)) (rGN 2)
 (rSeq (rFor (rIRng1 (rCons (rCl gLen (rCons (rVar 1) rNil)) rNil)) (rGN 3)
 (rSeq (rAsg (rCl (sp_law_traced Γ) (rCons (rOp gIx (rVar 0) (rVar 2)) (rCons (rOp gIx (rVar 1) (rVar 3)) rNil))) (rGN 4))
 (rIf (rB (rOp gNotN (rVar 4) (rC .non)))
 (rRet (rTup (rCons (rTup (rCons (rVar 2) (rCons (rVar 3) (rCons (rVar 4) rNil)))) (rCons (rTup rNil) rNil))))
 rNext)))
 (rSeq (rAsg (rCl (sp_law_about Γ) (rCons (rOp gIx (rVar 0) (rVar 2)) rNil)) (rGN 5))
 (rAsg (rCl (sp_law_moved Γ) (rCons (rVar 5) (rCons (rVar 1) rNil))) (rGN 1)))))
 (rRet (rTup (rCons (rC .non) (rCons (rVar 1) rNil)))))
/-- is_between(distance, near, far) : 0 distance, 1 near, 2 far -/
def rd_is_between (Γ : CL) : RS := (rRet (rAndV (rNotV (rCl (sp_is_less Γ) (rCons (rVar 0) (rCons (rTup (rCons (rOp gMul (rVar 1) (rVar 1)) (rCons (rC (.int 1)) rNil))) rNil)))) (rNotV (rCl (sp_is_less Γ) (rCons (rTup (rCons (rOp gMul (rVar 2) (rVar 2)) (rCons (rC (.int 1)) rNil))) (rCons (rVar 0) rNil))))))
/-- can_draw(chain, drawing) : 0 chain, 1 drawing, 2 arm, 3 found, 4 distance -/
def rd_can_draw (Γ : CL) : RS := (rSeq (rFor (rIZip (rCons (rFld Γ.Chain "arms" (rVar 0)) (rCons (rCl (sp_needed_reach Γ) (rCons (rVar 0) (rCons (rVar 1) rNil))) rNil))) (rGTup 2 (rGCons (rGN 2) (rGCons (rGN 3) rGNil)))
 (rIf (rAnd (rB (rOp gNotN (rVar 3) (rC .non))) (rNot (rB (rCl gAll (rCons (rLc (rITup (rVar 3)) (rGN 4) rTrue (rCl (sp_is_between Γ) (rCons (rVar 4) (rCons (rFld Γ.Arm "near" (rVar 2)) (rCons (rFld Γ.Arm "far" (rVar 2)) rNil)))) [4]) rNil)))))
 (rRet (rC (.bl false)))
 rNext))
 (rRet (rC (.bl true))))
/-- the suite of _law_error_of : 0 _law_call, 1 e, 2 _law_kinds, 3 _law_names, 4 _law_name -/
def rd_errF (a : Addr) (fs : List (Str × D)) (bs : Nat → Bool) : RS := (rSeq (rAsg (rLst (rCons (rIsEx a (bs 0) (rVar 1)) (rCons (rIsEx a (bs 1) (rVar 1)) (rCons (rIsEx a (bs 2) (rVar 1)) rNil)))) (rGN 2))
 (rSeq (rAsg (rOp gAdd (rVar 2) (rLst (rCons (rIsEx a (bs 3) (rVar 1)) (rCons (rIsEx a (bs 4) (rVar 1)) (rCons (rIsEx a (bs 5) (rVar 1)) rNil))))) (rGN 2))
 (rSeq (rAsg (rOp gAdd (rVar 2) (rLst (rCons (rIsEx a (bs 6) (rVar 1)) (rCons (rIsEx a (bs 7) (rVar 1)) (rCons (rIsEx a (bs 8) (rVar 1)) rNil))))) (rGN 2))
 (rSeq (rAsg (rOp gAdd (rVar 2) (rLst (rCons (rIsEx a (bs 9) (rVar 1)) (rCons (rIsEx a (bs 10) (rVar 1)) (rCons (rIsEx a (bs 11) (rVar 1)) rNil))))) (rGN 2))
 (rSeq (rAsg (rOp gAdd (rVar 2) (rLst (rCons (rIsEx a (bs 12) (rVar 1)) (rCons (rIsEx a (bs 13) (rVar 1)) (rCons (rIsEx a (bs 14) (rVar 1)) rNil))))) (rGN 2))
 (rSeq (rAsg (rOp gAdd (rVar 2) (rLst (rCons (rIsEx a (bs 15) (rVar 1)) (rCons (rIsEx a (bs 16) (rVar 1)) (rCons (rIsEx a (bs 17) (rVar 1)) rNil))))) (rGN 2))
 (rSeq (rAsg (rOp gAdd (rVar 2) (rLst (rCons (rIsEx a (bs 18) (rVar 1)) (rCons (rIsEx a (bs 19) (rVar 1)) rNil)))) (rGN 2))
 (rSeq (rIf (rOr (rB (rOp gNe (rBM gCount (rVar 2) (rCons (rC (.bl true)) rNil)) (rC (.int 1)))) (rNot (rB (rIsEx a true (rVar 1)))))
 rNever
 rNext)
 (rSeq (rAsg (rLst (rCons (rC (.str "spot")) (rCons (rC (.str "turn")) (rCons (rC (.str "times")) (rCons (rC (.str "few")) (rCons (rC (.str "stroke")) (rCons (rC (.str "open")) (rCons (rC (.str "reach")) (rCons (rC (.str "out")) (rCons (rC (.str "many")) (rCons (rC (.str "size")) (rCons (rC (.str "box")) (rCons (rC (.str "contra")) rNil))))))))))))) (rGN 3))
 (rSeq (rAsg (rOp gAdd (rVar 3) (rLst (rCons (rC (.str "text")) (rCons (rC (.str "row")) (rCons (rC (.str "unknown")) (rCons (rC (.str "name")) (rCons (rC (.str "code")) (rCons (rC (.str "arm")) (rCons (rC (.str "free")) (rCons (rC (.str "operation")) rNil)))))))))) (rGN 3))
 (rSeq (rAsg (rOp gIx (rVar 3) (rBM gIndex (rVar 2) (rCons (rC (.bl true)) rNil))) (rGN 4))
 (rSeq (rIf (rB (rOp gEq (rVar 4) (rC (.str "stroke"))))
 (rRetA1 a fs 1 "index" (rVar 4))
 rNext)
 (rSeq (rIf (rB (rOp gEq (rVar 4) (rC (.str "out"))))
 (rRetA3 a fs 1 "arm" "stroke" "part" (rVar 4))
 rNext)
 (rSeq (rIf (rB (rOp gEq (rVar 4) (rC (.str "text"))))
 (rRetA2 a fs 1 "row" "word" (rVar 4))
 rNext)
 (rSeq (rIf (rB (rOp gEq (rVar 4) (rC (.str "row"))))
 (rRetA2 a fs 1 "row" "reason" (rVar 4))
 rNext)
 (rRetAI a fs 1 "place" (rB (rOp gIn (rVar 4) (rLst (rCons (rC (.str "code")) (rCons (rC (.str "operation")) rNil))))) (rVar 4) (rC (.int 0))))))))))))))))))
end L3

/-! ## V19 -/
set_option Elab.async false
set_option linter.all false
set_option maxRecDepth 100000
set_option maxHeartbeats 1000000
/-! Fractions, reach, misses. -/
namespace L3
open PySem NM L2
/-! ### fractions -/
theorem rat_nd (q : Rat) : (q.num : Rat) / ((q.den : Int) : Rat) = q := by
  rw [← Rat.divInt_eq_div, Rat.num_divInt_den]
theorem rsq (a : Rat) : 0 ≤ a * a := by
  rcases Rat.le_total (a := 0) (b := a) with h | h
  · exact Rat.mul_nonneg h h
  · have := Rat.mul_nonneg (a := -a) (b := -a) (by grind) (by grind)
    grind
def qN (q : Rat) : Num := ⟨q.num, 0, (q.den : Int)⟩
theorem can_qN (q : Rat) : Can (qN q) := by
  refine ⟨by show 0 < (q.den : Int); have := q.den_pos; omega, ?_⟩
  show gz (gz q.num 0) (q.den : Int) = 1
  rw [gz_0]
  unfold gz Int.gcd
  rw [Int.natAbs_natCast]
  exact congrArg _ q.reduced
theorem eq_qN {z : Num} (h : Can z) (hy : z.y = 0) : z = qN (re z) := by
  refine NM.ext h (can_qN _) ?_ ?_
  · exact (rat_nd (re z)).symm
  · show ((z.y : Int) : Rat) / _ = ((0 : Int) : Rat) / _
    rw [hy]
    rw [show ((0 : Int) : Rat) = 0 from rfl, Rat.div_def, Rat.div_def, Rat.zero_mul, Rat.zero_mul]
theorem frD_fr {z : Num} (h : Can z) (hy : z.y = 0) : frD z = fr (re z) := by
  conv => lhs; rw [eq_qN h hy]
  rfl
theorem SzQ_of {n : Nat} {z : Num} (h : Can z) (hy : z.y = 0) (s : Sz n z) : SzQ n (re z) := by
  rw [eq_qN h hy] at s
  exact ⟨s.1, s.2.2⟩
theorem SzQ.mono {n m : Nat} {q : Rat} (h : SzQ n q) (l : n ≤ m) : SzQ m q := ⟨h.1.mono l, h.2.mono l⟩
theorem low_y0 {p q : Int} (h : q ≠ 0) : (low p 0 q).y = 0 := by
  have e : im (low p 0 q) = 0 := by rw [im_low h, show ((0 : Int) : Rat) = 0 from rfl, Rat.div_def, Rat.zero_mul]
  unfold im at e
  have := cast_ne (ne_d (low_can (x := p) (y := 0) h))
  have e2 : (((low p 0 q).y : Int) : Rat) = 0 := by grind
  exact_mod_cast e2
theorem frD_low {p q : Int} (h : q ≠ 0) : frD (low p 0 q) = fr ((p : Rat) / (q : Rat)) := by rw [frD_fr (low_can h) (low_y0 h), re_low h]
theorem SzQ_low {n : Nat} {p q : Int} (h : q ≠ 0) (s : Bt n p) (l : Bt n q) : SzQ n ((p : Rat) / (q : Rat)) := by
  have := SzQ_of (low_can (x := p) (y := 0) h) (low_y0 h) (low_sz h s (by unfold Bt; exact Nat.two_pow_pos _) l)
  rwa [re_low h] at this
theorem frD_szN {z : Num} (h : Can z) : frD (szN z) = fr (nrm z) := by
  rw [frD_fr (can_szN (ne_d h)) (szN_y h), re_szN h]
  rfl
theorem SzQ_nrm {n : Nat} {z : Num} (h : Can z) (s : Sz n z) : SzQ (n + n + 1) (nrm z) := by
  have := SzQ_of (can_szN (ne_d h)) (szN_y h) (sz_szN h s)
  rwa [re_szN h] at this
theorem nrm_sub {a b : Num} (ha : Can a) (hb : Can b) : nrm (sub a b) = dsQ b a := by
  unfold nrm dsQ
  rw [re_sub ha hb, im_sub ha hb]
theorem SzQ_ds {n : Nat} {p a : Num} (hp : Can p) (ha : Can a) (sp : Sz n p) (sa : Sz n a) : SzQ (4 * n + 3) (dsQ p a) := by
  rw [← nrm_sub ha hp]
  exact (SzQ_nrm (can_sub ha hp) (Sz.add ha (can_opp hp) sa sp.opp)).mono (by omega)
/-! ### near and far -/
theorem qmin_le (p q : Rat) : qmin p q ≤ p ∧ qmin p q ≤ q := by unfold qmin; split <;> grind
theorem qmax_ge (p q : Rat) : p ≤ qmax p q ∧ q ≤ qmax p q := by unfold qmax; split <;> grind
theorem qmin_or (p q : Rat) : qmin p q = p ∨ qmin p q = q := by unfold qmin; split <;> simp
theorem qmax_or (p q : Rat) : qmax p q = p ∨ qmax p q = q := by unfold qmax; split <;> simp
theorem near_le (p a b : Num) : nearQ p a b ≤ dsQ p a ∧ nearQ p a b ≤ dsQ p b := by
  unfold nearQ
  split
  · rename_i h
    have hl : 0 < dsQ a b := by grind
    have e1 : dotQ p a b * dotQ p a b + crsQ p a b * crsQ p a b = dsQ a b * dsQ p a := by unfold dotQ crsQ dsQ; grind
    have e2 : (dsQ a b - dotQ p a b) * (dsQ a b - dotQ p a b) + crsQ p a b * crsQ p a b = dsQ a b * dsQ p b := by unfold dotQ crsQ dsQ; grind
    have s1 := rsq (dotQ p a b)
    have s2 := rsq (dsQ a b - dotQ p a b)
    generalize crsQ p a b = c at *
    have k : ∀ x : Rat, c * c ≤ dsQ a b * x → c * c / dsQ a b ≤ x := fun x hx => by
      rw [← Rat.not_lt, Rat.lt_div_iff hl]
      grind
    exact ⟨k _ (by grind), k _ (by grind)⟩
  · exact qmin_le _ _
theorem near_far (p a b : Num) : nearQ p a b ≤ farQ p a b := by
  have h := near_le p a b
  have := qmax_ge (dsQ p a) (dsQ p b)
  unfold farQ
  grind
theorem ds_self (a : Num) : dsQ a a = 0 := by unfold dsQ; grind
theorem near_self (p a : Num) : nearQ p a a = dsQ p a := by
  unfold nearQ
  rw [if_neg (by rw [ds_self]; grind)]
  unfold qmin
  split <;> rfl
theorem far_self (p a : Num) : farQ p a a = dsQ p a := by
  unfold farQ qmax
  split <;> rfl
theorem betw_iff {lo hi : Int} {q : Rat} : betw lo hi q = true ↔ ((lo * lo : Int) : Rat) ≤ q ∧ q ≤ ((hi * hi : Int) : Rat) := by
  unfold betw
  simp only [Bool.and_eq_true, Bool.not_eq_true', decide_eq_false_iff_not, Rat.not_lt]
/-- as the law asks for a part -/
def lawB (a : Am) (x : Num × Num) : Bool := betw a.lo a.hi (dsQ a.p x.1) && betw a.lo a.hi (dsQ a.p x.2) && !decide (nearQ a.p x.1 x.2 < ((a.lo * a.lo : Int) : Rat))
theorem partB_law (a : Am) (x : Num × Num) : partB a x = lawB a x := by
  have h := near_le a.p x.1 x.2
  have h2 := qmax_ge (dsQ a.p x.1) (dsQ a.p x.2)
  have h3 := qmax_or (dsQ a.p x.1) (dsQ a.p x.2)
  rw [Bool.eq_iff_iff]
  unfold partB lawB farQ
  simp only [Bool.and_eq_true, betw_iff, Bool.not_eq_true', decide_eq_false_iff_not, Rat.not_lt]
  generalize ((a.lo * a.lo : Int) : Rat) = l at *
  generalize ((a.hi * a.hi : Int) : Rat) = u at *
  generalize qmax (dsQ a.p x.1) (dsQ a.p x.2) = m at *
  generalize dsQ a.p x.1 = d1 at *
  generalize dsQ a.p x.2 = d2 at *
  generalize nearQ a.p x.1 x.2 = n at *
  constructor <;> intro q <;> refine ⟨?_, ?_⟩ <;> grind
theorem reachB_betw {a : Am} {z : Num} (hp : Can a.p) (hz : Can z) : reachB a z = betw a.lo a.hi (dsQ a.p z) := by
  have ks := can_sub hz hp
  have e := eq_qN (can_szN (ne_d ks)) (szN_y ks)
  rw [re_szN ks] at e
  have e3 : re (sub z a.p) * re (sub z a.p) + im (sub z a.p) * im (sub z a.p) = dsQ a.p z := nrm_sub hz hp
  rw [e3] at e
  unfold reachB betw
  rw [e]
  have f1 : ∀ q : Rat, ((qN q).x * 1 < a.lo * a.lo * (qN q).d) ↔ (q < ((a.lo * a.lo : Int) : Rat)) := fun q => by
    rw [Rat.lt_iff]
    show q.num * 1 < a.lo * a.lo * (q.den : Int) ↔ q.num * ((1 : Nat) : Int) < (a.lo * a.lo) * (q.den : Int)
    rfl
  have f2 : ∀ q : Rat, (a.hi * a.hi * (qN q).d < (qN q).x * 1) ↔ (((a.hi * a.hi : Int) : Rat) < q) := fun q => by
    rw [Rat.lt_iff]
    show a.hi * a.hi * (q.den : Int) < q.num * 1 ↔ (a.hi * a.hi) * (q.den : Int) < q.num * ((1 : Nat) : Int)
    rfl
  rw [decide_eq_decide.mpr (f1 _), decide_eq_decide.mpr (f2 _)]
section
variable {Γ : CL} {μ : MH} {Q : D → MH → Prop}
theorem lessq_i {p q : Rat} (h1 : SzQ big p) (h2 : SzQ big q) (k : Q (.bl (decide (p < q))) μ) : sp_law_less Γ [fr p, fr q] μ Q := ⟨h1.1, h1.2, h2.1, h2.2, by rw [decide_eq_decide.mpr (Rat.lt_iff p q).symm]; exact k⟩
theorem lds_i {p a : Num} (hp : Can p) (ha : Can a) (sp : Sz 250 p) (sa : Sz 250 a) (k : Q (fr (dsQ p a)) μ) : sp_law_size Γ [numD (sub a p)] μ Q := lsize_i (can_sub ha hp) ((Sz.add ha (can_opp hp) sa sp.opp).mono (by decide)) (by rw [frD_szN (can_sub ha hp), nrm_sub ha hp]; exact k)
theorem ds_i {p a : Num} (hp : Can p) (ha : Can a) (sp : Sz 250 p) (sa : Sz 250 a) (k : Q (fr (dsQ p a)) μ) : sp_size Γ [numD (sub a p)] μ Q := size_n (can_sub ha hp) ((Sz.add ha (can_opp hp) sa sp.opp).mono (by decide)) (by
  have := frD_szN (can_sub ha hp)
  rw [nrm_sub ha hp] at this
  rw [← this] at k
  exact k)
end
theorem ds_sz {p a : Num} (hp : SpOk p) (ha : SpOk a) : SzQ 1003 (dsQ p a) := SzQ_ds hp.1 ha.1 hp.2 ha.2
theorem vc_is_less (Γ : CL) : ∀ ds μ R, sp_is_less Γ ds μ R → rd_is_less Γ (fin R) (startD 2 ds) μ := vc_law_less Γ
theorem lcm_step {s v : Int} (hs : 0 < s) (hv : 0 < v) : 0 < s.fdiv (gz s v) * v ∧ s ∣ s.fdiv (gz s v) * v ∧ v ∣ s.fdiv (gz s v) * v ∧ s.fdiv (gz s v) * v ≤ s * v ∧ (s.fdiv (gz s v)).natAbs ≤ s.natAbs := by
  have hg : 0 < gz s v := gz_pos (by omega)
  obtain ⟨k, hk⟩ := gz_dl s v
  obtain ⟨l, hl⟩ := gz_dr s v
  generalize gz s v = g at *
  have e : s.fdiv g = k := by rw [hk]; exact fdiv_mul' (by omega)
  have kp : 0 < k := by
    have : 0 < g * k := by omega
    exact Int.pos_of_mul_pos_right this hg
  rw [e]
  have h1 : 1 ≤ g := by omega
  have h2 : k ≤ s := by rw [hk]; have := Int.mul_le_mul_of_nonneg_right h1 (Int.le_of_lt kp); omega
  refine ⟨Int.mul_pos kp hv, ⟨l, by rw [hl, hk]; grind⟩, ⟨k, by grind⟩, Int.mul_le_mul_of_nonneg_right h2 (Int.le_of_lt hv), by omega⟩
theorem lcm_dvd {s v N : Int} (hs : 0 < s) (hv : 0 < v) (h1 : s ∣ N) (h2 : v ∣ N) : s.fdiv (gz s v) * v ∣ N := by
  have hg : 0 < gz s v := gz_pos (by omega)
  have hc := gz_mul_g s v
  obtain ⟨k, hk⟩ := gz_dl s v
  obtain ⟨l, hl⟩ := gz_dr s v
  generalize gz s v = g at *
  have e : s.fdiv g = k := by rw [hk]; exact fdiv_mul' (by omega)
  rw [e]
  have cop : Nat.Coprime k.natAbs l.natAbs := hc k l hk hl hg
  obtain ⟨a, ha⟩ := h1
  obtain ⟨b, hb⟩ := h2
  have e2 : k * a = l * b := by
    have : g * (k * a) = g * (l * b) := by
      have : s * a = v * b := by rw [← ha, hb]
      rw [hk, hl] at this
      grind
    exact Int.eq_of_mul_eq_mul_left (by omega) this
  have dk : k ∣ b := by
    refine Int.natAbs_dvd_natAbs.mp (cop.dvd_of_dvd_mul_left ?_)
    rw [← Int.natAbs_mul]
    exact Int.natAbs_dvd_natAbs.mpr ⟨a, e2.symm⟩
  obtain ⟨c, hc⟩ := dk
  exact ⟨c, by rw [hb, hc]; grind⟩
theorem vc_common_multiple (Γ : CL) : ∀ ds μ R, sp_common_multiple Γ ds μ R → rd_common_multiple Γ (fin R) (startD 3 ds) μ := by
  rintro ds μ R ⟨l, N0, rfl, hN0, bN, hl, h⟩
  unfold rd_common_multiple
  rw [show startD 3 [.lst (l.map D.int)] = [some (.lst (l.map D.int)), none, none] from rfl]
  have bd : ∀ x : Int, 0 < x → x ∣ N0 → Bt 7900 x := fun x hx hd => bN.le (by
    have := Int.le_of_dvd hN0 hd
    omega)
  have loop : ∀ (r pre : List Int) (s : Int) (x : Option D) (E : Ed) (μ : MH), 0 < s → s ∣ N0 → (∀ x ∈ r, 0 < x ∧ x ∣ N0) → (∀ x ∈ pre, x ∣ s) → (∀ s' y, 0 < s' → s' ∣ N0 → (∀ x ∈ pre ++ r, x ∣ s') → E.nx [some (.lst (l.map D.int)), some (.int s'), y] μ) →
      forD (rGN 2) (rAsg (rOp gMul (rOp gDiv (rVar 1) (rCl (sp_common_divisor Γ) (rCons (rVar 1) (rCons (rVar 2) rNil)))) (rVar 2)) (rGN 1)) tru E (r.map D.int) [some (.lst (l.map D.int)), some (.int s), x] μ := by
    intro r
    induction r with
    | nil => intro pre s x E μ hs hd _ hp k; exact ⟨trivial, k s x hs hd (by simpa using hp)⟩
    | cons v r ih =>
      intro pre s x E μ hs hd hr hp k
      obtain ⟨hv, dv⟩ := hr v (List.mem_cons_self ..)
      obtain ⟨k1, k2, k3, k4, k5⟩ := lcm_step hs hv
      have k6 := lcm_dvd hs hv hd dv
      refine ⟨trivial, ?_⟩
      simp only [rGN, st, rAsg, rOp, rVar, rCl, rCons, rNil, gt]
      show _ ∧ _
      refine ⟨⟨gz_ne (by omega), bt_gz (by omega) ((bd v hv dv).mono (by decide))⟩, ?_⟩
      refine ⟨⟨((bd s hs hd).le k5).mono (by decide), (bd v hv dv).mono (by decide)⟩, ?_⟩
      refine ih (pre ++ [v]) _ _ _ _ k1 k6 (fun y m => hr y (List.mem_cons_of_mem _ m)) (fun y m => ?_) (fun s' y a b c => k s' y a b (by rw [List.append_assoc] at c; exact c))
      rcases List.mem_append.mp m with m | m
      · exact Int.dvd_trans (hp y m) k2
      · have : y = v := by simpa using m
        exact this ▸ k3
  refine seq_g fun N hN => ?_
  simp only [rAsg, rC, rGN, st]
  refine hN _ _ ?_
  clear hN N
  refine seq_g fun N hN => ?_
  simp only [rFor, rILst, rVar, gt]
  refine loop l [] 1 none _ _ (by decide) (Int.one_dvd _) hl (fun _ m => nomatch m) fun s' y h1 h2 h3 => ?_
  refine hN _ _ ?_
  simp only [rRet, rVar, gt]
  exact h s' h1 h2 h3
theorem vc_least (Γ : CL) : ∀ ds μ R, sp_least Γ ds μ R → rd_least Γ (fin R) (startD 2 ds) μ := by
  rintro ds μ R ⟨p, q, rfl, sp, sq, h⟩
  unfold rd_least
  rw [show startD 2 [fr p, fr q] = [some (fr p), some (fr q)] from rfl]
  simp only [rRet, rIfE, rB, rCl, rCons, rVar, rNil, gt]
  refine lessq_i sq sp ?_
  unfold qmin at h
  by_cases e : q < p
  · refine ite_yes (decide_eq_true e) ?_
    rwa [if_pos e] at h
  · refine ite_no (by simpa using e) ?_
    rwa [if_neg e] at h
theorem far_sz {p a b : Num} (hp : SpOk p) (ha : SpOk a) (hb : SpOk b) : SzQ 1003 (farQ p a b) := by
  unfold farQ
  rcases qmax_or (dsQ p a) (dsQ p b) with e | e <;> rw [e]
  · exact ds_sz hp ha
  · exact ds_sz hp hb
theorem vc_farthest (Γ : CL) : ∀ ds μ R, sp_farthest Γ ds μ R → rd_farthest Γ (fin R) (startD 4 ds) μ := by
  rintro ds μ R ⟨p, a, b, rfl, hp, ha, hb, h⟩
  unfold rd_farthest
  rw [show startD 4 [numD p, numD a, numD b] = [some (numD p), some (numD a), some (numD b), none] from rfl]
  refine seq_g fun N hN => ?_
  simp only [rAsg, rLst, rCons, rCl, rVar, rNil, gt]
  refine less_n ha.1 hp.1 (ha.2.mono (by decide)) (hp.2.mono (by decide)) ?_
  refine ds_i hp.1 ha.1 hp.2 ha.2 ?_
  refine less_n hb.1 hp.1 (hb.2.mono (by decide)) (hp.2.mono (by decide)) ?_
  refine ds_i hp.1 hb.1 hp.2 hb.2 ?_
  refine ⟨by show 2 ≤ 2 ^ 24; decide, ?_⟩
  simp only [rGN, st]
  refine hN _ _ ?_
  clear hN N
  simp only [rRet, rIfE, rB, rCl, rCons, rOp, rVar, rC, rNil, gt, gIx_l, atI_0, atI_1, List.getElem?_cons_zero, List.getElem?_cons_succ]
  refine lessq_i ((ds_sz hp ha).mono (by decide)) ((ds_sz hp hb).mono (by decide)) ?_
  unfold farQ qmax at h
  by_cases e : dsQ p a < dsQ p b
  · refine ite_yes (decide_eq_true e) ?_
    rwa [if_pos e] at h
  · refine ite_no (by simpa using e) ?_
    rwa [if_neg e] at h
/-! ### the distance from a part -/
theorem rat_cross {a b c d : Rat} (hb : b ≠ 0) (hd : d ≠ 0) (h : a * d = c * b) : a / b = c / d := by grind
theorem near_val {p a b : Num} {S : Int} (hS : 0 < S) {X Y : Num → Int} (hX : ∀ z, z = p ∨ z = a ∨ z = b → ((X z : Int) : Rat) = re z * (S : Rat) ∧ ((Y z : Int) : Rat) = im z * (S : Rat)) :
    let right := X b - X a
    let up := Y b - Y a
    let across := X p - X a
    let high := Y p - Y a
    let length := right * right + up * up
    let along := across * right + high * up
    let aside := across * up - high * right
    ((0 < along ∧ along < length) ↔ (0 < dotQ p a b ∧ dotQ p a b < dsQ a b)) ∧ (0 < dsQ a b → 0 < length ∧ ((aside * aside : Int) : Rat) / ((length * S * S : Int) : Rat) = crsQ p a b * crsQ p a b / dsQ a b) := by
  obtain ⟨p1, p2⟩ := hX p (.inl rfl)
  obtain ⟨a1, a2⟩ := hX a (.inr (.inl rfl))
  obtain ⟨b1, b2⟩ := hX b (.inr (.inr rfl))
  intro right up across high length along aside
  have hs : (0 : Rat) < (S : Rat) := by exact_mod_cast hS
  have hss : (0 : Rat) < (S : Rat) * (S : Rat) := Rat.mul_pos hs hs
  have e1 : (along : Rat) = dotQ p a b * ((S : Rat) * (S : Rat)) := by
    simp only [along, across, high, right, up, Rat.intCast_add, Rat.intCast_sub, Rat.intCast_mul, p1, p2, a1, a2, b1, b2]
    unfold dotQ
    grind
  have e2 : (length : Rat) = dsQ a b * ((S : Rat) * (S : Rat)) := by
    simp only [length, right, up, Rat.intCast_add, Rat.intCast_sub, Rat.intCast_mul, p1, p2, a1, a2, b1, b2]
    unfold dsQ
    grind
  have e3 : (aside : Rat) = crsQ p a b * ((S : Rat) * (S : Rat)) := by
    simp only [aside, across, high, right, up, Rat.intCast_add, Rat.intCast_sub, Rat.intCast_mul, p1, p2, a1, a2, b1, b2]
    unfold crsQ
    grind
  generalize along = al at *
  generalize length = le at *
  generalize aside = as at *
  generalize dotQ p a b = dt at *
  generalize dsQ a b = ln at *
  generalize crsQ p a b = cr at *
  have c1 : (0 < al) ↔ 0 < dt := by
    rw [← Rat.intCast_lt_intCast, e1, show ((0 : Int) : Rat) = 0 from rfl]
    constructor
    · intro h
      refine Rat.not_le.mp fun q => ?_
      have := Rat.mul_nonneg (a := -dt) (b := (S : Rat) * (S : Rat)) (by grind) (by grind)
      grind
    · intro h
      exact Rat.mul_pos h hss
  have c2 : (al < le) ↔ dt < ln := by
    rw [← Rat.intCast_lt_intCast, e1, e2]
    constructor
    · intro h
      refine Rat.not_le.mp fun q => ?_
      have := Rat.mul_nonneg (a := dt - ln) (b := (S : Rat) * (S : Rat)) (by grind) (by grind)
      grind
    · intro h
      have := Rat.mul_pos (a := ln - dt) (b := (S : Rat) * (S : Rat)) (by grind) hss
      grind
  refine ⟨by rw [c1, c2], fun hl => ⟨?_, ?_⟩⟩
  · rw [← Rat.intCast_lt_intCast, e2, show ((0 : Int) : Rat) = 0 from rfl]
    exact Rat.mul_pos hl hss
  · rw [Rat.intCast_mul, Rat.intCast_mul, Rat.intCast_mul, e2, e3]
    generalize (S : Rat) = s at *
    have n3 : 0 < ln * (s * s) * s * s := Rat.mul_pos (Rat.mul_pos (Rat.mul_pos hl hss) hs) hs
    exact rat_cross (by grind) (by grind) (by grind)
theorem vc_nearest (Γ : CL) : ∀ ds μ R, sp_nearest Γ ds μ R → rd_nearest Γ (fin R) (startD 13 ds) μ := by
  rintro ds μ R ⟨p, a, b, rfl, hp, ha, hb, h⟩
  unfold rd_nearest
  rw [show startD 13 [numD p, numD a, numD b] = [some (numD p), some (numD a), some (numD b), none, none, none, none, none, none, none, none, none, none] from rfl]
  refine seq_g fun N hN => ?_
  simp only [rAsg, rCl, rLst, rCons, rOp, rVar, rC, rNil, gt, gIx_n2, rGN, st]
  refine ⟨by show 3 ≤ 2 ^ 24; decide, ?_⟩
  refine ⟨[p.d, a.d, b.d], p.d * a.d * b.d, rfl, Int.mul_pos (Int.mul_pos hp.1.1 ha.1.1) hb.1.1, ((hp.2.2.2.mul ha.2.2.2).mul hb.2.2.2).mono (by decide), fun x m => ?_, fun S hS dS dall => ?_⟩
  · simp only [List.mem_cons, List.not_mem_nil, or_false] at m
    rcases m with rfl | rfl | rfl
    · exact ⟨hp.1.1, ⟨a.d * b.d, by grind⟩⟩
    · exact ⟨ha.1.1, ⟨p.d * b.d, by grind⟩⟩
    · exact ⟨hb.1.1, ⟨p.d * a.d, by grind⟩⟩
  have pN := Int.mul_pos (Int.mul_pos hp.1.1 ha.1.1) hb.1.1
  have bS : Bt 760 S := (((hp.2.2.2.mul ha.2.2.2).mul hb.2.2.2).mono (by decide : 250 + 250 + 250 ≤ 760)).le (by
    have := Int.le_of_dvd pN dS
    omega)
  have dp := dall p.d (by simp)
  have da := dall a.d (by simp)
  have db := dall b.d (by simp)
  clear dall
  refine hN _ _ ?_
  clear hN N
  have big1 : ∀ {i : Int} {n : Nat}, Bt n i → n ≤ 8000 → Bt big i := fun h l => h.mono l
  have one1 : ∀ z : Num, z = p ∨ z = a ∨ z = b → SpOk z ∧ z.d ∣ S := by
    rintro z (rfl | rfl | rfl)
    · exact ⟨hp, dp⟩
    · exact ⟨ha, da⟩
    · exact ⟨hb, db⟩
  have q1 : ∀ z : Num, z = p ∨ z = a ∨ z = b → Bt 760 (S.fdiv z.d) ∧ S = z.d * S.fdiv z.d := by
    intro z hz
    obtain ⟨kz, k, hk⟩ := one1 z hz
    have hd := ne_d kz.1
    have e : S.fdiv z.d = k := by rw [hk]; exact fdiv_mul' hd
    rw [e]
    refine ⟨bS.le ?_, hk⟩
    rw [hk, Int.natAbs_mul]
    exact Nat.le_mul_of_pos_left _ (by omega)
  have bX : ∀ z : Num, z = p ∨ z = a ∨ z = b → Bt 1010 (z.x * S.fdiv z.d) ∧ Bt 1010 (z.y * S.fdiv z.d) := fun z hz => by
    have s := (one1 z hz).1.2
    exact ⟨(s.1.mul (q1 z hz).1).mono (by decide), (s.2.1.mul (q1 z hz).1).mono (by decide)⟩
  have rX : ∀ z : Num, z = p ∨ z = a ∨ z = b → ((z.x * S.fdiv z.d : Int) : Rat) = re z * (S : Rat) ∧ ((z.y * S.fdiv z.d : Int) : Rat) = im z * (S : Rat) := fun z hz => by
    have e := (q1 z hz).2
    have n1 := rat_d (one1 z hz).1.1
    generalize S.fdiv z.d = k at *
    unfold re im
    rw [e, Rat.intCast_mul, Rat.intCast_mul, Rat.intCast_mul]
    constructor <;> grind
  obtain ⟨v1, v2⟩ := near_val hS rX
  have mp : p = p ∨ p = a ∨ p = b := .inl rfl
  have ma : a = p ∨ a = a ∨ a = b := .inr (.inl rfl)
  have mb : b = p ∨ b = a ∨ b = b := .inr (.inr rfl)
  obtain ⟨xp, yp⟩ := bX p mp
  obtain ⟨xa, ya⟩ := bX a ma
  obtain ⟨xb, yb⟩ := bX b mb
  refine seq_g fun N hN => ?_
  simp only [rAsg, rLc, rITup, rTup, rCons, rVar, rNil, gt, rms, rm]
  refine ⟨by show 3 ≤ 2 ^ 24; decide, by show 3 ≤ 2 ^ 24; decide, ?_⟩
  refine lcD_mapG [p, a, b] numD (fun z => .tup [.int (z.x * S.fdiv z.d), .int (z.y * S.fdiv z.d)]) (fun z hz Q q => ?_) ?_
  · have hz' : z = p ∨ z = a ∨ z = b := by simpa using hz
    have kz := (one1 z hz').1
    have cd : z.d ≠ 0 ∧ Bt big z.d := ⟨ne_d kz.1, kz.2.2.2.mono (by decide)⟩
    simp only [rTup, rCons, rOp, rVar, rC, rNil, gt, st, gIx_n0, gIx_n1, gIx_n2, gDiv, gI, gMul]
    exact ⟨cd, ⟨kz.2.1.mono (by decide), (q1 z hz').1.mono (by decide)⟩, cd, ⟨kz.2.2.1.mono (by decide), (q1 z hz').1.mono (by decide)⟩, by show 2 ≤ 2 ^ 24; decide, q⟩
  simp only [List.map_cons, List.map_nil, List.nil_append, rGN, st]
  refine hN _ _ ?_
  clear hN N
  generalize hXp : p.x * S.fdiv p.d = Xp at *
  generalize hYp : p.y * S.fdiv p.d = Yp at *
  generalize hXa : a.x * S.fdiv a.d = Xa at *
  generalize hYa : a.y * S.fdiv a.d = Ya at *
  generalize hXb : b.x * S.fdiv b.d = Xb at *
  generalize hYb : b.y * S.fdiv b.d = Yb at *
  have br := (xb.sub xa).mono (show 1011 ≤ 1011 by decide)
  have bu := yb.sub ya
  have bc := xp.sub xa
  have bh := yp.sub ya
  have cb : ∀ {i j : Int}, Bt 1011 i → Bt 1011 j → CBig i j := fun h l => CB h l (by decide) (by decide)
  refine seq_g fun N hN => ?_
  simp only [rPar, rCons, rNil, rOp, rVar, rC, gt, gIx_l, gIx_t, atI_0, atI_1, atI_2, List.getElem?_cons_zero, List.getElem?_cons_succ, gSub, gI0, st]
  refine hN _ _ ?_
  clear hN N
  refine seq_g fun N hN => ?_
  simp only [rPar, rCons, rNil, rOp, rVar, rC, gt, gIx_l, gIx_t, atI_0, atI_1, atI_2, List.getElem?_cons_zero, List.getElem?_cons_succ, gSub, gI0, st]
  refine hN _ _ ?_
  clear hN N
  refine seq_g fun N hN => ?_
  simp only [rAsg, rOp, rVar, gt, gMul, gI, gAdd, gI0, rGN, st]
  refine ⟨cb br br, cb bu bu, ?_⟩
  refine hN _ _ ?_
  clear hN N
  refine seq_g fun N hN => ?_
  simp only [rAsg, rOp, rVar, gt, gMul, gI, gAdd, gI0, rGN, st]
  refine ⟨cb bc br, cb bh bu, ?_⟩
  refine hN _ _ ?_
  clear hN N
  have bl : Bt 2023 ((Xb - Xa) * (Xb - Xa) + (Yb - Ya) * (Yb - Ya)) := (br.mul br).add (bu.mul bu)
  refine seq_g fun N hN => ?_
  simp only [rIf, rB, rChain, rC, rVar, gt, gLt, gI0]
  by_cases e1 : 0 < (Xp - Xa) * (Xb - Xa) + (Yp - Ya) * (Yb - Ya) ∧ (Xp - Xa) * (Xb - Xa) + (Yp - Ya) * (Yb - Ya) < (Xb - Xa) * (Xb - Xa) + (Yb - Ya) * (Yb - Ya)
  · have w := v1.mp e1
    unfold nearQ at h
    rw [if_pos w] at h
    obtain ⟨lp, le⟩ := v2 (by grind)
    rw [decide_eq_true e1.1, if_pos rfl, decide_eq_true e1.2]
    simp only [if_true]
    refine seq_g fun N2 hN2 => ?_
    simp only [rAsg, rOp, rVar, gt, gMul, gI, gSub, gI0, rGN, st]
    refine ⟨cb bc bu, cb bh br, ?_⟩
    refine hN2 _ _ ?_
    simp only [rRet, rCl, rCons, rOp, rVar, rNil, gt, gMul, gI]
    have ba : Bt 2023 ((Xp - Xa) * (Yb - Ya) - (Yp - Ya) * (Xb - Xa)) := (bc.mul bu).sub (bh.mul br)
    refine ⟨CB ba ba (by decide) (by decide), CB bl bS (by decide) (by decide), CB (bl.mul bS) bS (by decide) (by decide), ?_⟩
    have pp := Int.mul_pos (Int.mul_pos lp hS) hS
    refine ratio_i pp (((bl.mul bS).mul bS).mono (by decide)) ?_
    rw [frD_low (by omega), le]
    exact h
  · have w : ¬ (0 < dotQ p a b ∧ dotQ p a b < dsQ a b) := fun q => e1 (v1.mpr q)
    unfold nearQ at h
    rw [if_neg w] at h
    have go : N [some (numD p), some (numD a), some (numD b), some (.int S), some (.lst [.tup [.int Xp, .int Yp], .tup [.int Xa, .int Ya], .tup [.int Xb, .int Yb]]), none, some (.int (Xb - Xa)), some (.int (Yb - Ya)), some (.int (Xp - Xa)), some (.int (Yp - Ya)), some (.int ((Xb - Xa) * (Xb - Xa) + (Yb - Ya) * (Yb - Ya))), some (.int ((Xp - Xa) * (Xb - Xa) + (Yp - Ya) * (Yb - Ya))), none] μ := by
      refine hN _ _ ?_
      simp only [rRet, rCl, rCons, rVar, rNil, gt]
      refine less_n ha.1 hp.1 (ha.2.mono (by decide)) (hp.2.mono (by decide)) ?_
      refine ds_i hp.1 ha.1 hp.2 ha.2 ?_
      refine less_n hb.1 hp.1 (hb.2.mono (by decide)) (hp.2.mono (by decide)) ?_
      refine ds_i hp.1 hb.1 hp.2 hb.2 ?_
      exact ⟨_, _, rfl, (ds_sz hp ha).mono (by decide), (ds_sz hp hb).mono (by decide), h⟩
    by_cases e2 : 0 < (Xp - Xa) * (Xb - Xa) + (Yp - Ya) * (Yb - Ya)
    · rw [decide_eq_true e2, if_pos rfl, decide_eq_false (fun q => e1 ⟨e2, q⟩)]
      simp only [Bool.false_eq_true, if_false, rNext]
      exact go
    · rw [decide_eq_false e2, if_neg (by simp)]
      simp only [Bool.false_eq_true, if_false, rNext]
      exact go
def alongN (p a b : Num) : Num := mul (sub p a) (ovr (sub b a))
theorem along_ok {p a b : Num} (hp : SpOk p) (ha : SpOk a) (hb : SpOk b) : Can (alongN p a b) ∧ Sz 1003 (alongN p a b) := by
  have k1 := can_sub hp.1 ha.1
  have k2 := can_sub hb.1 ha.1
  have s1 : Sz 501 (sub p a) := Sz.add hp.1 (can_opp ha.1) hp.2 ha.2.opp
  have s2 : Sz 501 (sub b a) := Sz.add hb.1 (can_opp ha.1) hb.2 ha.2.opp
  exact ⟨can_mul k1 (can_ovr k2), Sz.mul k1 (can_ovr k2) s1 s2.ovr⟩
theorem way_ok {a b : Num} (ha : SpOk a) (hb : SpOk b) : Can (szN (sub b a)) ∧ Sz 1003 (szN (sub b a)) := by
  have k2 := can_sub hb.1 ha.1
  have s2 : Sz 501 (sub b a) := Sz.add hb.1 (can_opp ha.1) hb.2 ha.2.opp
  exact ⟨can_szN (ne_d k2), sz_szN k2 s2⟩
theorem cross_lt {x y : Rat} {a b c d : Int} (hb : 0 < b) (hd : 0 < d) (hx : (a : Rat) = x * (b : Rat)) (hy : (c : Rat) = y * (d : Rat)) : a * d < c * b ↔ x < y := by
  have h1 : (0 : Rat) < (b : Rat) := by exact_mod_cast hb
  have h2 : (0 : Rat) < (d : Rat) := by exact_mod_cast hd
  have h3 := Rat.mul_pos h1 h2
  rw [← Rat.intCast_lt_intCast, Rat.intCast_mul, Rat.intCast_mul, hx, hy]
  constructor
  · intro h
    refine Rat.not_le.mp fun q => ?_
    have := Rat.mul_nonneg (a := x - y) (b := (b : Rat) * (d : Rat)) (by grind) (by grind)
    grind
  · intro h
    have := Rat.mul_pos (a := y - x) (b := (b : Rat) * (d : Rat)) (by grind) h3
    grind
theorem re_mul_d {z : Num} (h : Can z) : (z.x : Rat) = re z * (z.d : Rat) := by
  have := rat_d h
  unfold re
  grind
theorem im_mul_d {z : Num} (h : Can z) : (z.y : Rat) = im z * (z.d : Rat) := by
  have := rat_d h
  unfold im
  grind
theorem near_law {p a b : Num} (hp : SpOk p) (ha : SpOk a) (hb : SpOk b) :
    ((alongN p a b).x ≤ 0 ↔ ¬ 0 < dotQ p a b) ∧ ((alongN p a b).x * (szN (sub b a)).d < (szN (sub b a)).x * (alongN p a b).d ↔ dotQ p a b < dsQ a b) ∧
    (0 < dsQ a b → (alongN p a b).d * (alongN p a b).d * (szN (sub b a)).x ≠ 0 ∧ (((alongN p a b).y * (alongN p a b).y * (szN (sub b a)).d : Int) : Rat) / (((alongN p a b).d * (alongN p a b).d * (szN (sub b a)).x : Int) : Rat) = crsQ p a b * crsQ p a b / dsQ a b) := by
  obtain ⟨k1, _⟩ := along_ok hp ha hb
  obtain ⟨k2, _⟩ := way_ok ha hb
  have c1 := can_sub hp.1 ha.1
  have c2 := can_sub hb.1 ha.1
  have e1 : re (alongN p a b) = dotQ p a b := by
    unfold alongN dotQ
    rw [re_mul c1 (can_ovr c2), re_ovr, im_ovr, re_sub hp.1 ha.1, im_sub hp.1 ha.1, re_sub hb.1 ha.1, im_sub hb.1 ha.1]
    grind
  have e2 : im (alongN p a b) = - crsQ p a b := by
    unfold alongN crsQ
    rw [im_mul c1 (can_ovr c2), re_ovr, im_ovr, re_sub hp.1 ha.1, im_sub hp.1 ha.1, re_sub hb.1 ha.1, im_sub hb.1 ha.1]
    grind
  have e3 : re (szN (sub b a)) = dsQ a b := by
    rw [re_szN c2]
    exact nrm_sub hb.1 ha.1
  have m1 := re_mul_d k1
  have m2 := im_mul_d k1
  have m3 := re_mul_d k2
  rw [e1] at m1
  rw [e2] at m2
  rw [e3] at m3
  have p1 := k1.1
  have p2 := k2.1
  generalize alongN p a b = al at *
  generalize szN (sub b a) = L at *
  generalize dotQ p a b = dt at *
  generalize dsQ a b = ln at *
  generalize crsQ p a b = cr at *
  refine ⟨?_, cross_lt p1 p2 m1 m3, fun hl => ?_⟩
  · have w := cross_lt (x := 0) (y := dt) (a := 0) (b := 1) (c := al.x) (d := al.d) (by decide) p1 (by grind) m1
    rw [← w]
    simp
  · have h1 : (0 : Rat) < (al.d : Rat) := by exact_mod_cast p1
    have h2 : (0 : Rat) < (L.d : Rat) := by exact_mod_cast p2
    have h3 : (0 : Rat) < (L.x : Rat) := by rw [m3]; exact Rat.mul_pos hl h2
    have h4 : 0 < L.x := by exact_mod_cast h3
    refine ⟨by have := Int.mul_pos (Int.mul_pos p1 p1) h4; omega, ?_⟩
    rw [Rat.intCast_mul, Rat.intCast_mul, Rat.intCast_mul, Rat.intCast_mul, m2, m3]
    generalize (al.d : Rat) = d at *
    generalize (L.d : Rat) = e at *
    have h5 : 0 < d * d * (ln * e) := Rat.mul_pos (Rat.mul_pos h1 h1) (Rat.mul_pos hl h2)
    exact rat_cross (by grind) (by grind) (by grind)
theorem near_sz {p a b : Num} (hp : SpOk p) (ha : SpOk a) (hb : SpOk b) : SzQ 3009 (nearQ p a b) := by
  unfold nearQ
  split
  · rename_i w
    obtain ⟨_, _, k⟩ := near_law hp ha hb
    obtain ⟨k1, k2⟩ := k (by grind)
    obtain ⟨_, s1⟩ := along_ok hp ha hb
    obtain ⟨_, s2⟩ := way_ok ha hb
    rw [← k2]
    exact SzQ_low k1 (((s1.2.1.mul s1.2.1).mul s2.2.2).mono (by decide)) (((s1.2.2.mul s1.2.2).mul s2.1).mono (by decide))
  · rcases qmin_or (dsQ p a) (dsQ p b) with e | e <;> rw [e]
    · exact (ds_sz hp ha).mono (by decide)
    · exact (ds_sz hp hb).mono (by decide)
theorem vc_law_near (Γ : CL) : ∀ ds μ R, sp_law_near Γ ds μ R → rd_law_near Γ (fin R) (startD 8 ds) μ := by
  rintro ds μ R ⟨p, a, b, rfl, hp, ha, hb, h⟩
  obtain ⟨v1, v2, v3⟩ := near_law hp ha hb
  obtain ⟨k1, s1⟩ := along_ok hp ha hb
  obtain ⟨k2, s2⟩ := way_ok ha hb
  unfold rd_law_near
  rw [show startD 8 [numD p, numD a, numD b] = [some (numD p), some (numD a), some (numD b), none, none, none, none, none] from rfl]
  have c1 := can_sub hp.1 ha.1
  have c2 := can_sub hb.1 ha.1
  have t1 : Sz 501 (sub p a) := Sz.add hp.1 (can_opp ha.1) hp.2 ha.2.opp
  have t2 : Sz 501 (sub b a) := Sz.add hb.1 (can_opp ha.1) hb.2 ha.2.opp
  have hh : ∀ {z : Num}, SpOk z → Sz half z := fun h => h.2.mono (by decide)
  refine seq_g fun N hN => ?_
  simp only [rPar, rCons, rNil, rCl, rVar, gt, st]
  refine minus_i hb.1 ha.1 (hh hb) (hh ha) ?_
  refine minus_i hp.1 ha.1 (hh hp) (hh ha) ?_
  refine hN _ _ ?_
  clear hN N
  refine seq_g fun N hN => ?_
  simp only [rAsg, rCl, rCons, rVar, rNil, gt, rGN, st]
  refine over_i ?_
  refine times_i c1 (can_ovr c2) (t1.mono (by decide)) (t2.ovr.mono (by decide)) ?_
  refine hN _ _ ?_
  clear hN N
  refine seq_g fun N hN => ?_
  simp only [rAsg, rCl, rCons, rVar, rNil, gt, rGN, st]
  refine lsize_i c2 (t2.mono (by decide)) ?_
  refine hN _ _ ?_
  clear hN N
  rw [show mul (sub p a) (ovr (sub b a)) = alongN p a b from rfl]
  refine seq_g fun N hN => ?_
  simp only [rIf, rOr, rNot, rB, rOp, rCl, rTup, rCons, rVar, rC, rNil, gt, gIx_n0, gIx_n2, gLe, gI0]
  have ends : ¬ (0 < dotQ p a b ∧ dotQ p a b < dsQ a b) → rSeq (rAsg (rLst (rCons (rCl (sp_law_size Γ) (rCons (rVar 4) rNil)) (rCons (rCl (sp_law_size Γ) (rCons (rCl (sp_law_minus Γ) (rCons (rVar 0) (rCons (rVar 2) rNil))) rNil)) rNil))) (rGN 7))
      (rRet (rIfE (rB (rCl (sp_law_less Γ) (rCons (rOp gIx (rVar 7) (rC (.int 1))) (rCons (rOp gIx (rVar 7) (rC (.int 0))) rNil)))) (rOp gIx (rVar 7) (rC (.int 1))) (rOp gIx (rVar 7) (rC (.int 0))))) { fin R with nx := N } [some (numD p), some (numD a), some (numD b), some (numD (sub b a)), some (numD (sub p a)), some (numD (alongN p a b)), some (frD (szN (sub b a))), none] μ := by
    intro w
    unfold nearQ at h
    rw [if_neg w] at h
    have sw : ∀ z, dsQ z p = dsQ p z := fun z => by unfold dsQ; grind
    refine seq_g fun N2 hN2 => ?_
    simp only [rAsg, rLst, rCl, rCons, rVar, rNil, gt]
    refine lds_i ha.1 hp.1 ha.2 hp.2 ?_
    refine minus_i hp.1 hb.1 (hh hp) (hh hb) ?_
    refine lds_i hb.1 hp.1 hb.2 hp.2 ?_
    rw [sw, sw]
    refine ⟨by show 2 ≤ 2 ^ 24; decide, ?_⟩
    simp only [rGN, st]
    refine hN2 _ _ ?_
    simp only [rRet, rIfE, rB, rCl, rCons, rOp, rVar, rC, rNil, gt, gIx_l, atI_0, atI_1, List.getElem?_cons_zero, List.getElem?_cons_succ]
    refine lessq_i ((ds_sz hp hb).mono (by decide)) ((ds_sz hp ha).mono (by decide)) ?_
    unfold qmin at h
    by_cases e : dsQ p b < dsQ p a
    · refine ite_yes (decide_eq_true e) ?_
      rwa [if_pos e] at h
    · refine ite_no (by simpa using e) ?_
      rwa [if_neg e] at h
  by_cases e1 : (alongN p a b).x ≤ 0
  · rw [decide_eq_true e1]
    simp only [if_true]
    exact ends (fun q => (v1.mp e1) q.1)
  · rw [decide_eq_false e1]
    simp only [Bool.false_eq_true, if_false]
    refine ⟨by show 2 ≤ 2 ^ 24; decide, ?_⟩
    refine lless_i (s1.1.mono (by decide)) (s1.2.2.mono (by decide)) (s2.1.mono (by decide)) (s2.2.2.mono (by decide)) ?_
    by_cases e2 : (alongN p a b).x * (szN (sub b a)).d < (szN (sub b a)).x * (alongN p a b).d
    · rw [decide_eq_true e2]
      simp only [Bool.not_true, Bool.false_eq_true, if_false, rNext]
      have w1 : 0 < dotQ p a b := Classical.byContradiction fun q => e1 (v1.mpr q)
      have w2 := v2.mp e2
      unfold nearQ at h
      rw [if_pos ⟨w1, w2⟩] at h
      obtain ⟨n, q⟩ := v3 (by grind)
      refine hN _ _ ?_
      simp only [rRet, rCl, rCons, rOp, rVar, rC, rNil, gt, gIx_n1, gIx_n2, gIx_f0, gIx_f1, gMul, gI]
      refine ⟨CB s1.2.1 s1.2.1 (by decide) (by decide), CB (s1.2.1.mul s1.2.1) s2.2.2 (by decide) (by decide), CB s1.2.2 s1.2.2 (by decide) (by decide), CB (s1.2.2.mul s1.2.2) s2.1 (by decide) (by decide), ?_⟩
      refine lratio_i n (((s1.2.1.mul s1.2.1).mul s2.2.2).mono (by decide)) (((s1.2.2.mul s1.2.2).mul s2.1).mono (by decide)) ?_
      rw [frD_low n, q]
      exact h
    · rw [decide_eq_false e2]
      simp only [Bool.not_false, if_true]
      exact ends (fun q => e2 (v2.mpr q.2))
/-! ### parts -/
theorem zip_segs : ∀ (a : Num) (r : Stk), zipD ((a :: r).map numD) (r.map numD) = (segs (a :: r)).map pairD
  | a, [] => rfl
  | a, b :: r => by
    show .tup [numD a, numD b] :: zipD ((b :: r).map numD) (r.map numD) = _
    rw [zip_segs b r]
    rfl
theorem segs_mem : ∀ {s : Stk} {x : Num × Num}, x ∈ segs s → x.1 ∈ s ∧ x.2 ∈ s
  | [], x, h => nomatch h
  | [a], x, h => nomatch h
  | a :: b :: r, x, h => by
    rcases List.mem_cons.mp h with rfl | h
    · simp
    · have := segs_mem h
      exact ⟨List.mem_cons_of_mem _ this.1, List.mem_cons_of_mem _ this.2⟩
theorem parts_mem {s : Stk} {x : Num × Num} (h : x ∈ partsL s) : x.1 ∈ s ∧ x.2 ∈ s := by
  unfold partsL at h
  split at h
  · rcases List.mem_cons.mp h with rfl | h
    · simp
    · exact nomatch h
  · exact segs_mem h
theorem cut1 (xs : List D) : cutD xs (some 1) none = xs.drop 1 := by
  unfold cutD HT.sIx
  cases xs with
  | nil => simp
  | cons x r => simp
theorem vc_parts_of (Γ : CL) : ∀ ds μ R, sp_parts_of Γ ds μ R → rd_parts_of Γ (fin R) (startD 1 ds) μ := by
  rintro ds μ R ⟨s, rfl, h1, h2, h⟩
  unfold rd_parts_of
  rw [show startD 1 [strD s] = [some (strD s)] from rfl]
  match s, h1, h2, h with
  | [a], _, _, h =>
    simp only [rRet, rIfE, rB, rOp, rCl, rCons, rVar, rC, rNil, gt, strD, gLen, res, seqD, List.length_map, gEq_i]
    refine ite_yes rfl ?_
    simp only [rLst, rTup, rCons, rOp, rVar, rC, rNil, gt, List.map_cons, List.map_nil, gIx_t, atI_0, List.getElem?_cons_zero]
    exact ⟨by show 2 ≤ 2 ^ 24; decide, by show 1 ≤ 2 ^ 24; decide, h⟩
  | a :: b :: r, _, h2, h =>
    simp only [rRet, rIfE, rB, rOp, rCl, rCons, rVar, rC, rNil, gt, strD, gLen, res, seqD, List.length_map, gEq_i]
    refine ite_no (by simp; omega) ?_
    simp only [rLZip, rCons, rSl, rPart, rNoPart, rVar, rC, rNil, gt, gSl, res, cut1, rowD]
    rw [show ((a :: b :: r).map numD).drop 1 = (b :: r).map numD from rfl, zip_segs]
    refine ⟨?_, h⟩
    rw [List.length_map, List.length_map]
    exact Nat.le_trans (Nat.min_le_left _ _) (Nat.le_trans h2 (by decide))
theorem vc_span (Γ : CL) : ∀ ds μ R, sp_span Γ ds μ R → rd_span Γ (fin R) (startD 2 ds) μ := by
  rintro ds μ R ⟨p, a, b, rfl, hp, ha, hb, h⟩
  unfold rd_span
  rw [show startD 2 [numD p, pairD (a, b)] = [some (numD p), some (pairD (a, b))] from rfl]
  simp only [rRet, rTup, rCons, rCl, rStar, rVar, rNil, gt, pairD, res, seqD, List.append_nil]
  refine ⟨p, a, b, rfl, hp, ha, hb, ?_⟩
  refine ⟨p, a, b, rfl, hp, ha, hb, ?_⟩
  exact ⟨by show 2 ≤ 2 ^ 24; decide, h⟩
theorem int_fr (i : Int) : D.tup [.int i, .int 1] = fr (i : Rat) := rfl
theorem SzQ_int {n : Nat} {i : Int} (h : Bt n i) (l : n ≤ big) : SzQ big (i : Rat) := ⟨h.mono l, by show Bt big 1; exact bt1⟩
theorem vc_is_between (Γ : CL) : ∀ ds μ R, sp_is_between Γ ds μ R → rd_is_between Γ (fin R) (startD 3 ds) μ := by
  rintro ds μ R ⟨q, lo, hi, rfl, sq, sl, sh, h⟩
  unfold rd_is_between
  rw [show startD 3 [fr q, .int lo, .int hi] = [some (fr q), some (.int lo), some (.int hi)] from rfl]
  simp only [rRet, rAndV, rNotV, rCl, rCons, rTup, rOp, rVar, rC, rNil, gt, gMul, gI]
  refine ⟨CB sl sl (by decide) (by decide), by show 2 ≤ 2 ^ 24; decide, ?_⟩
  rw [int_fr]
  refine lessq_i sq (SzQ_int (sl.mul sl) (by decide)) ?_
  unfold betw at h
  by_cases e : q < ((lo * lo : Int) : Rat)
  · rw [decide_eq_true e] at h ⊢
    simp only [Bool.not_true, Bool.false_eq_true, if_false]
    exact h
  · rw [decide_eq_false e] at h ⊢
    simp only [Bool.not_false, if_true]
    refine ⟨CB sh sh (by decide) (by decide), by show 2 ≤ 2 ^ 24; decide, ?_⟩
    rw [int_fr]
    refine lessq_i (SzQ_int (sh.mul sh) (by decide)) sq ?_
    exact h
theorem okSt.sp {s : Stk} (h : okSt 250 s) {x : Num × Num} (hx : x ∈ partsL s) : SpOk x.1 ∧ SpOk x.2 := ⟨h.can _ (parts_mem hx).1, h.can _ (parts_mem hx).2⟩
theorem Am.ok.bt {a : Am} (h : a.ok) : Bt 10 a.lo ∧ Bt 10 a.hi := by
  obtain ⟨_, _, _, b1, b2, b3⟩ := h
  exact ⟨by unfold Bt; omega, by unfold Bt; omega⟩
/-- the whole test of one part -/
theorem part_lc {Γ : CL} {ρ : EV} {i j : Nat} {a : Am} {p x y : Rat} {μ : MH} {Q : D → MH → Prop} (hi : ∀ d, gt (st ρ i d) i = some d) (hj : ∀ d, gt (st ρ i d) j = some (armD Γ a)) (ka : a.ok) (sx : SzQ big x) (sy : SzQ big y) (h : Q (.bl (betw a.lo a.hi x && betw a.lo a.hi y)) μ) :
    lcD (rGN i) rTrue (rCl (sp_is_between Γ) (rCons (rVar i) (rCons (rFld Γ.Arm "near" (rVar j)) (rCons (rFld Γ.Arm "far" (rVar j)) rNil)))) tru ρ [fr x, fr y] [] μ fun zs μ2 => gAll [.lst zs] μ2 Q := by
  obtain ⟨l1, l2⟩ := ka.bt
  refine ⟨trivial, ?_⟩
  simp only [rGN, rTrue, if_true, rCl, rCons, rFld, rVar, rNil, hi, hj, insD_arm, lk_near, lk_far, true_and]
  refine ⟨x, a.lo, a.hi, rfl, sx, l1, l2, ?_⟩
  refine ⟨trivial, ?_⟩
  simp only [rGN, rTrue, if_true, rCl, rCons, rFld, rVar, rNil, hi, hj, insD_arm, lk_near, lk_far, true_and]
  refine ⟨y, a.lo, a.hi, rfl, sy, l1, l2, ?_⟩
  refine ⟨trivial, ?_⟩
  simp only [List.nil_append, List.cons_append, gAll, res, bools, Option.map_some, List.all_cons, List.all_nil, Bool.and_true, _root_.id]
  exact h
theorem Am.sz.mono {a : Am} {n m : Nat} (s : a.sz n) (h : n ≤ m) : a.sz m := ⟨s.1.mono h, s.2.mono h⟩
theorem eff_sz2 {a : Am} (ka : a.ok) (sa : a.sz 250) : a.eff.sz quart := (Am.eff_sz ka sa).mono (by decide)
end L3

/-! ## V20 -/
set_option Elab.async false
set_option linter.all false
set_option maxRecDepth 100000
set_option maxHeartbeats 1000000
/-! Reach that is needed, what the law tells of misses. -/
namespace L3
open PySem NM L2
/-! ### the span of a drawing -/
theorem SzQ_min {n : Nat} {p q : Rat} (h : SzQ n p) (l : SzQ n q) : SzQ n (qmin p q) := by
  rcases qmin_or p q with e | e <;> rw [e]
  · exact h
  · exact l
theorem SzQ_max {n : Nat} {p q : Rat} (h : SzQ n p) (l : SzQ n q) : SzQ n (qmax p q) := by
  rcases qmax_or p q with e | e <;> rw [e]
  · exact h
  · exact l
def okO (o : Option (Rat × Rat)) : Prop := ∀ x, o = some x → SzQ 3009 x.1 ∧ SzQ 3009 x.2
theorem okO_join {o : Option (Rat × Rat)} {p : Num} {x : Num × Num} (h : okO o) (kp : SpOk p) (k1 : SpOk x.1) (k2 : SpOk x.2) : okO (joinS o (spanQ p x)) := by
  have s1 := near_sz kp k1 k2
  have s2 := (far_sz kp k1 k2).mono (show 1003 ≤ 3009 by decide)
  intro y hy
  cases o with
  | none =>
    cases hy
    exact ⟨s1, s2⟩
  | some z =>
    cases hy
    obtain ⟨h1, h2⟩ := h z rfl
    exact ⟨SzQ_min h1 s1, SzQ_max h2 s2⟩
theorem touch_parts {Γ : CL} {E : Ed} {p : Num} {s1 s3 : Option D} {μ : MH} (kp : SpOk p) : ∀ (l : List (Num × Num)) (o : Option (Rat × Rat)) (x4 x5 x6 : Option D), okO o → (∀ x ∈ l, SpOk x.1 ∧ SpOk x.2) → (okO (touchP p o l) → ∀ x4 x5 x6, E.nx [some (numD p), s1, some (touchD (touchP p o l)), s3, x4, x5, x6] μ) →
    forD (rGN 4) (rSeq (rAsg (rCl (sp_span Γ) (rCons (rVar 0) (rCons (rVar 4) rNil))) (rGTup 2 (rGCons (rGN 5) (rGCons (rGN 6) rGNil))))
 (rSeq (rIf (rB (rOp gNotN (rVar 2) (rC .non)))
 (rPar 5 6 (rCons (rCl (sp_least Γ) (rCons (rOp gIx (rVar 2) (rC (.int 0))) (rCons (rVar 5) rNil))) (rCons (rIfE (rB (rCl (sp_is_less Γ) (rCons (rOp gIx (rVar 2) (rC (.int 1))) (rCons (rVar 6) rNil)))) (rVar 6) (rOp gIx (rVar 2) (rC (.int 1)))) rNil)))
 rNext)
 (rAsg (rTup (rCons (rVar 5) (rCons (rVar 6) rNil))) (rGN 2)))) tru E (l.map pairD) [some (numD p), s1, some (touchD o), s3, x4, x5, x6] μ
  | [], o, x4, x5, x6, ho, _, h => ⟨trivial, h ho x4 x5 x6⟩
  | x :: r, o, x4, x5, x6, ho, ks, h => by
    obtain ⟨k1, k2⟩ := ks x (List.mem_cons_self ..)
    have s1' := near_sz kp k1 k2
    have s2' := (far_sz kp k1 k2).mono (show 1003 ≤ 3009 by decide)
    refine ⟨trivial, ?_⟩
    simp only [rGN, st]
    refine seq_g fun N hN => ?_
    simp only [rAsg, rCl, rCons, rVar, rNil, gt]
    refine ⟨p, x.1, x.2, rfl, kp, k1, k2, ?_⟩
    refine ⟨rfl, ?_⟩
    simp only [rGCons, rGNil, rGN, st, true_and]
    refine hN _ _ ?_
    clear hN N
    have go : ∀ (DD : Ed) (l' h' : Rat) (o' : Option D), DD.nx [some (numD p), s1, some (touchD (some (l', h'))), s3, some (pairD x), some (fr l'), some (fr h')] μ → rAsg (rTup (rCons (rVar 5) (rCons (rVar 6) rNil))) (rGN 2) DD [some (numD p), s1, o', s3, some (pairD x), some (fr l'), some (fr h')] μ := by
      intro DD l' h' o' q
      simp only [rAsg, rTup, rCons, rVar, rNil, gt, rGN, st]
      exact ⟨by show 2 ≤ 2 ^ 24; decide, q⟩
    have on : ∀ l' h', joinS o (spanQ p x) = some (l', h') → okO (some (l', h')) ∧ (okO (touchP p (some (l', h')) r) → ∀ x4 x5 x6, E.nx [some (numD p), s1, some (touchD (touchP p (some (l', h')) r)), s3, x4, x5, x6] μ) := by
      intro l' h' e
      have ej := okO_join (x := x) ho kp k1 k2
      rw [e] at ej
      refine ⟨ej, ?_⟩
      have h2 : okO (touchP p (joinS o (spanQ p x)) r) → ∀ x4 x5 x6, E.nx [some (numD p), s1, some (touchD (touchP p (joinS o (spanQ p x)) r)), s3, x4, x5, x6] μ := h
      rw [e] at h2
      exact h2
    have kr : ∀ y ∈ r, SpOk y.1 ∧ SpOk y.2 := fun y hy => ks y (List.mem_cons_of_mem _ hy)
    refine seq_g fun N hN => ?_
    simp only [rIf, rB, rOp, rVar, rC, gt]
    cases o with
    | none =>
      simp only [touchD, gNotN, isNonD, Bool.not_true, Bool.false_eq_true, if_false, rNext]
      refine hN _ _ (go _ _ _ _ ?_)
      obtain ⟨q1, q2⟩ := on _ _ rfl
      exact touch_parts kp r _ _ _ _ q1 kr q2
    | some z =>
      obtain ⟨h1, h2⟩ := ho z rfl
      simp only [touchD, gNotN, isNonD, Bool.not_false, if_true, rPar, rCons, rNil, rCl, rIfE, rB, rOp, rVar, rC, gt, gIx_t, atI_0, atI_1, List.getElem?_cons_zero, List.getElem?_cons_succ]
      refine ⟨z.1, nearQ p x.1 x.2, rfl, h1.mono (by decide), s1'.mono (by decide), ?_⟩
      refine lessq_i (h2.mono (by decide)) (s2'.mono (by decide)) ?_
      by_cases e : z.2 < farQ p x.1 x.2
      · refine ite_yes (decide_eq_true e) ?_
        simp only [st]
        refine hN _ _ (go _ _ _ _ ?_)
        obtain ⟨q1, q2⟩ := on _ _ (show some (qmin z.1 (nearQ p x.1 x.2), qmax z.2 (farQ p x.1 x.2)) = some (qmin z.1 (nearQ p x.1 x.2), farQ p x.1 x.2) by
          unfold qmax
          rw [if_pos e])
        exact touch_parts kp r _ _ _ _ q1 kr q2
      · refine ite_no (by simpa using e) ?_
        simp only [st]
        refine hN _ _ (go _ _ _ _ ?_)
        obtain ⟨q1, q2⟩ := on _ _ (show some (qmin z.1 (nearQ p x.1 x.2), qmax z.2 (farQ p x.1 x.2)) = some (qmin z.1 (nearQ p x.1 x.2), z.2) by
          unfold qmax
          rw [if_neg e])
        exact touch_parts kp r _ _ _ _ q1 kr q2
theorem touch_strokes {Γ : CL} {E : Ed} {p : Num} {s1 : Option D} {μ : MH} (kp : SpOk p) : ∀ (ss : List Stk) (o : Option (Rat × Rat)) (x3 x4 x5 x6 : Option D), okO o → (∀ s ∈ ss, okSt 250 s) → (okO (touchS p o ss) → ∀ x3 x4 x5 x6, E.nx [some (numD p), s1, some (touchD (touchS p o ss)), x3, x4, x5, x6] μ) →
    forD (rGN 3) (rFor (rILst (rCl (sp_parts_of Γ) (rCons (rVar 3) rNil))) (rGN 4)
 (rSeq (rAsg (rCl (sp_span Γ) (rCons (rVar 0) (rCons (rVar 4) rNil))) (rGTup 2 (rGCons (rGN 5) (rGCons (rGN 6) rGNil))))
 (rSeq (rIf (rB (rOp gNotN (rVar 2) (rC .non)))
 (rPar 5 6 (rCons (rCl (sp_least Γ) (rCons (rOp gIx (rVar 2) (rC (.int 0))) (rCons (rVar 5) rNil))) (rCons (rIfE (rB (rCl (sp_is_less Γ) (rCons (rOp gIx (rVar 2) (rC (.int 1))) (rCons (rVar 6) rNil)))) (rVar 6) (rOp gIx (rVar 2) (rC (.int 1)))) rNil)))
 rNext)
 (rAsg (rTup (rCons (rVar 5) (rCons (rVar 6) rNil))) (rGN 2))))) tru E (ss.map strD) [some (numD p), s1, some (touchD o), x3, x4, x5, x6] μ
  | [], o, x3, x4, x5, x6, ho, _, h => ⟨trivial, h ho x3 x4 x5 x6⟩
  | s :: r, o, x3, x4, x5, x6, ho, ks, h => by
    have k1 := ks s (List.mem_cons_self ..)
    refine ⟨trivial, ?_⟩
    simp only [rGN, st, rFor, rILst, rCl, rCons, rVar, rNil, gt]
    refine ⟨s, rfl, k1.ne, k1.le, ?_⟩
    refine touch_parts kp (partsL s) o _ _ _ ho (fun x hx => k1.sp hx) (fun k y4 y5 y6 => ?_)
    exact touch_strokes kp r (touchP p o (partsL s)) _ _ _ _ k (fun y hy => ks y (List.mem_cons_of_mem _ hy)) h
theorem vc_touched_span (Γ : CL) : ∀ ds μ R, sp_touched_span Γ ds μ R → rd_touched_span Γ (fin R) (startD 7 ds) μ := by
  rintro ds μ R ⟨p, ss, rfl, kp, ks, h⟩
  unfold rd_touched_span
  rw [show startD 7 [numD p, drawD Γ ss] = [some (numD p), some (drawD Γ ss), none, none, none, none, none] from rfl]
  refine seq_g fun N hN => ?_
  simp only [rAsg, rC, rGN, st]
  refine hN _ _ ?_
  clear hN N
  refine seq_g fun N hN => ?_
  simp only [rFor, rITup, rFld, rVar, gt, insD_draw, lk_strokes, strsD, true_and]
  refine touch_strokes kp ss none _ _ _ _ (fun x e => nomatch e) ks.st (fun _ y3 y4 y5 y6 => ?_)
  refine hN _ _ ?_
  simp only [rRet, rVar, gt]
  exact h
theorem touchS_ok {p : Num} {ss : List Stk} (kp : SpOk p) (ks : okDr 250 ss) : okO (touchS p none ss) := by
  have hp : ∀ (l : List (Num × Num)) (o : Option (Rat × Rat)), okO o → (∀ x ∈ l, SpOk x.1 ∧ SpOk x.2) → okO (touchP p o l) := by
    intro l
    induction l with
    | nil => exact fun o ho _ => ho
    | cons x r ih =>
      intro o ho k
      obtain ⟨k1, k2⟩ := k x (List.mem_cons_self ..)
      exact ih _ (okO_join ho kp k1 k2) (fun y hy => k y (List.mem_cons_of_mem _ hy))
  have hs : ∀ (l : List Stk) (o : Option (Rat × Rat)), okO o → (∀ s ∈ l, okSt 250 s) → okO (touchS p o l) := by
    intro l
    induction l with
    | nil => exact fun o ho _ => ho
    | cons s r ih =>
      intro o ho k
      have k1 := k s (List.mem_cons_self ..)
      exact ih _ (hp _ _ ho (fun x hx => k1.sp hx)) (fun y hy => k y (List.mem_cons_of_mem _ hy))
  exact hs ss none (fun x e => nomatch e) ks.st
theorem need_loop {Γ : CL} {E : Ed} {s0 : Option D} {p : Addr} {μ : MH} : ∀ (as : List Am) (ss : List Stk) (pre : List D) (x3 : Option D), okN as ss → pre.length + as.length ≤ 6 → (∀ x1 x3, E.nx [s0, x1, some (.ref p), x3] (updM μ p (.lst (pre ++ (needL as ss).map touchD)))) →
    forD (rGN 3) (rSeq (rDrop (rMut (rVar 2) (rCons (rCl (sp_touched_span Γ) (rCons (rFld Γ.Arm "pole" (rVar 3)) (rCons (rVar 1) rNil))) rNil) gAppend))
 (rAsg (rMeth Γ.Drawing "copied" (sp_Drawing_copied Γ) (rVar 1) (rCons (rOwn Γ.Arm (sp_Arm_effect Γ) (rVar 3) rNil) rNil)) (rGN 1))) tru E (as.map (armD Γ)) [s0, some (drawD Γ ss), some (.ref p), x3] (updM μ p (.lst pre))
  | [], ss, pre, x3, _, _, h => ⟨trivial, by
    have := h (some (drawD Γ ss)) x3
    rw [show (needL [] ss).map touchD = [] from rfl, List.append_nil] at this
    exact this⟩
  | a :: r, ss, pre, x3, hk, hl, h => by
    obtain ⟨⟨ka, sa⟩, ks, hk⟩ := hk
    rw [List.length_cons] at hl
    refine ⟨trivial, ?_⟩
    simp only [rGN, st]
    refine seq_g fun N hN => ?_
    simp only [rDrop, rMut, rVar, gt, updM_same, rCons, rCl, rFld, rNil, insD_arm, lk_pole, true_and]
    refine ⟨a.p, ss, rfl, ⟨ka.1, sa.1⟩, ks, ?_⟩
    simp only [updM_same, gAppend]
    refine ⟨by show pre.length < 2 ^ 24; omega, ?_⟩
    rw [updM_updM]
    refine hN _ _ ?_
    clear hN N
    simp only [rAsg, rMeth, rVar, gt, insD_draw, lk_copied, true_and, rCons, rOwn, rNil, insD_arm, Option.map_some]
    refine ⟨a, rfl, ka, sa.mono (by decide), ?_⟩
    refine copied_i (Am.eff_ok ka) (eff_sz2 ka sa) (ks.mono (by decide)) ?_
    simp only [rGN, st]
    refine need_loop r (movedBy a.eff ss) (pre ++ [touchD (touchS a.p none ss)]) _ hk (by rw [List.length_append]; show pre.length + 1 + r.length ≤ 6; omega) (fun x1 x3 => ?_)
    rw [List.append_assoc]
    exact h x1 x3
theorem vc_needed_reach (Γ : CL) : ∀ ds μ R, sp_needed_reach Γ ds μ R → rd_needed_reach Γ (fin R) (startD 4 ds) μ := by
  rintro ds μ R ⟨as, ss, rfl, hk, hl, h⟩
  unfold rd_needed_reach
  rw [show startD 4 [chainD Γ as, drawD Γ ss] = [some (chainD Γ as), some (drawD Γ ss), none, none] from rfl]
  refine seq_g fun N hN => ?_
  simp only [rAsg, rLstM, rNil]
  refine ⟨by show 0 ≤ 2 ^ 24; decide, fun p hp => ?_⟩
  simp only [rGN, st]
  refine hN _ _ ?_
  clear hN N
  refine seq_g fun N hN => ?_
  simp only [rFor, rITup, rFld, rVar, gt, insD_chain, lk_arms, true_and]
  refine need_loop as ss [] none hk (by show 0 + as.length ≤ 6; omega) (fun x1 x3 => ?_)
  refine hN _ _ ?_
  simp only [rRet, rFrz, rVar, gt, frz, updM_same, List.nil_append]
  show R _ (delM (updM μ p _) p)
  rw [delM_updM hp]
  exact h
theorem can_loop {Γ : CL} {E : Ed} {s0 s1 : Option D} {μ : MH} : ∀ (as : List Am) (ss : List Stk) (x2 x3 : Option D), okN as ss → (canB as ss = false → E.rt (.bl false) μ) → (canB as ss = true → ∀ x2 x3, E.nx [s0, s1, x2, x3, none] μ) →
    forD (rGTup 2 (rGCons (rGN 2) (rGCons (rGN 3) rGNil))) (rIf (rAnd (rB (rOp gNotN (rVar 3) (rC .non))) (rNot (rB (rCl gAll (rCons (rLc (rITup (rVar 3)) (rGN 4) rTrue (rCl (sp_is_between Γ) (rCons (rVar 4) (rCons (rFld Γ.Arm "near" (rVar 2)) (rCons (rFld Γ.Arm "far" (rVar 2)) rNil)))) [4]) rNil)))))
 (rRet (rC (.bl false)))
 rNext) tru E (zipD (as.map (armD Γ)) ((needL as ss).map touchD)) [s0, s1, x2, x3, none] μ
  | [], ss, x2, x3, _, _, h => ⟨trivial, h rfl x2 x3⟩
  | a :: r, ss, x2, x3, hk, h1, h2 => by
    obtain ⟨⟨ka, sa⟩, ks, hk⟩ := hk
    have ko := touchS_ok ⟨ka.1, sa.1⟩ ks
    refine ⟨trivial, rfl, rfl, ?_⟩
    have ec : canB (a :: r) ss = (okSpan a (touchS a.p none ss) && canB r (movedBy a.eff ss)) := rfl
    rw [ec] at h1 h2
    simp only [rIf, rAnd, rB, rOp, rVar, rC, gt, st]
    generalize touchS a.p none ss = o at *
    cases o with
    | none =>
      simp only [touchD, gNotN, isNonD, Bool.not_true, Bool.false_eq_true, if_false, rNext]
      exact can_loop r _ _ _ hk h1 h2
    | some z =>
      obtain ⟨o1, o2⟩ := ko z rfl
      simp only [touchD, gNotN, isNonD, Bool.not_false, if_true, rNot, rB, rCl, rCons, rLc, rITup, rVar, rNil, gt]
      refine ⟨by show 2 ≤ 2 ^ 24; decide, ?_⟩
      simp only [rms, rm]
      refine part_lc (ρ := [s0, s1, some (armD Γ a), some (.tup [fr z.1, fr z.2]), none]) (i := 4) (j := 2) (p := 0) (fun d => rfl) (fun d => rfl) ka (o1.mono (by decide)) (o2.mono (by decide)) ?_
      have eo : okSpan a (some z) = (betw a.lo a.hi z.1 && betw a.lo a.hi z.2) := rfl
      rw [eo] at h1 h2
      cases e : (betw a.lo a.hi z.1 && betw a.lo a.hi z.2) with
      | true =>
        rw [e, Bool.true_and] at h1 h2
        simp only [Bool.not_true, Bool.false_eq_true, if_false, rNext]
        exact can_loop r _ _ _ hk h1 h2
      | false =>
        rw [e] at h1
        simp only [Bool.not_false, if_true, rRet, rC]
        exact h1 rfl
theorem vc_can_draw (Γ : CL) : ∀ ds μ R, sp_can_draw Γ ds μ R → rd_can_draw Γ (fin R) (startD 5 ds) μ := by
  rintro ds μ R ⟨as, ss, rfl, hk, hl, h⟩
  unfold rd_can_draw
  rw [show startD 5 [chainD Γ as, drawD Γ ss] = [some (chainD Γ as), some (drawD Γ ss), none, none, none] from rfl]
  refine seq_g fun N hN => ?_
  simp only [rFor, rIZip, rCons, rFld, rCl, rVar, rNil, gt, insD_chain, lk_arms, true_and]
  refine ⟨as, ss, rfl, hk, hl, ?_⟩
  simp only [rowD]
  refine can_loop as ss _ _ hk (fun e => ?_) (fun e x2 x3 => ?_)
  · rw [e] at h
    exact h
  · rw [e] at h
    refine hN _ _ ?_
    simp only [rRet, rC]
    exact h
/-! ### what the law tells -/
theorem lcar_lc {Γ : CL} {ρ : EV} {i j : Nat} {c : Cp} {μ : MH} {R : List D → MH → Prop} (hj : ∀ d, gt (st ρ i d) j = some (toldD c)) (hi : ∀ d, gt (st ρ i d) i = some d) (kc : c.ok) (sc : c.sz quart) {s : Stk} (k : ∀ z ∈ s, Can z ∧ Sz quart z) (h : R ((s.map c.at).map numD) μ) :
    lcD (rGN i) rTrue (rCl (sp_law_carried Γ) (rCons (rVar j) (rCons (rVar i) rNil))) tru ρ (s.map numD) [] μ R := by
  refine lcD_mapG s numD (fun z => numD (c.at z)) (fun z hz Q q => ?_) (by rw [List.nil_append, show (fun z => numD (c.at z)) = numD ∘ c.at from rfl, ← List.map_map]; exact h)
  simp only [rCl, rCons, rVar, rNil, hi, hj]
  exact lcar_i kc sc (k z hz).1 (k z hz).2 q
theorem moved_loop {Γ : CL} {E : Ed} {c : Cp} {s1 : Option D} {p : Addr} {μ : MH} (kc : c.ok) (sc : c.sz quart) : ∀ (ss : List Stk) (pre : List D) (x3 : Option D), (∀ s ∈ ss, okSt quart s) → pre.length + ss.length ≤ 100 → (∀ x3, E.nx [some (toldD c), s1, some (.ref p), x3, none] (updM μ p (.lst (pre ++ (movedBy c ss).map strD)))) →
    forD (rGN 3) (rDrop (rMut (rVar 2) (rCons (rCl gTuple (rCons (rLc (rITup (rVar 3)) (rGN 4) rTrue (rCl (sp_law_carried Γ) (rCons (rVar 0) (rCons (rVar 4) rNil))) [4]) rNil)) rNil) gAppend)) tru E (ss.map strD) [some (toldD c), s1, some (.ref p), x3, none] (updM μ p (.lst pre))
  | [], pre, x3, _, _, h => ⟨trivial, by
    have := h x3
    rw [show (movedBy c []).map strD = [] from rfl, List.append_nil] at this
    exact this⟩
  | s :: r, pre, x3, ks, hl, h => by
    have k1 := ks s (List.mem_cons_self ..)
    have k12 := k1.le
    rw [List.length_cons] at hl
    refine ⟨trivial, ?_⟩
    simp only [rGN, st, rDrop, rMut, rVar, gt, updM_same, rCons, rCl, rLc, rITup, strD, rNil]
    refine ⟨by rw [List.length_map]; exact Nat.le_trans k12 (by decide), ?_⟩
    simp only [rms, rm]
    refine lcar_lc (i := 4) (j := 0) (fun d => rfl) (fun d => rfl) kc sc k1.can ?_
    simp only [gTuple, res, updM_same, gAppend]
    refine ⟨by show pre.length < 2 ^ 24; omega, ?_⟩
    rw [updM_updM]
    refine moved_loop kc sc r (pre ++ [strD (s.map c.at)]) _ (fun y hy => ks y (List.mem_cons_of_mem _ hy)) (by rw [List.length_append]; show pre.length + 1 + r.length ≤ 100; omega) (fun x3 => ?_)
    rw [List.append_assoc]
    exact h x3
theorem vc_law_moved (Γ : CL) : ∀ ds μ R, sp_law_moved Γ ds μ R → rd_law_moved Γ (fin R) (startD 5 ds) μ := by
  rintro ds μ R ⟨c, ss, rfl, kc, sc, ks, h⟩
  have k12 := ks.le
  unfold rd_law_moved
  rw [show startD 5 [toldD c, strsD ss] = [some (toldD c), some (strsD ss), none, none, none] from rfl]
  refine seq_g fun N hN => ?_
  simp only [rAsg, rLstM, rNil]
  refine ⟨by show 0 ≤ 2 ^ 24; decide, fun p hp => ?_⟩
  simp only [rGN, st]
  refine hN _ _ ?_
  clear hN N
  refine seq_g fun N hN => ?_
  simp only [rFor, rITup, rVar, gt, strsD]
  refine moved_loop kc sc ss [] none ks.st (by show 0 + ss.length ≤ 100; omega) (fun x3 => ?_)
  refine hN _ _ ?_
  simp only [rRet, rCl, rCons, rFrz, rVar, rNil, gt, frz, updM_same, List.nil_append, gTuple, res]
  show R _ (delM (updM μ p _) p)
  rw [delM_updM hp]
  exact h
theorem gIx_s {s : Stk} {i : Nat} {z : Num} {μ : MH} {Q : D → MH → Prop} (e : s[i]? = some z) (q : Q (numD z) μ) : gIx (strD s) (.int (i : Int)) μ Q := by
  show (match atI (s.map numD) (i : Int) with | some d => Q d μ | none => False)
  rw [atI_lit, List.getElem?_map, e]
  exact q
theorem reached_i {Γ : CL} {a : Am} {z : Num} {μ : MH} {Q : D → MH → Prop} (ka : a.ok) (sa : a.sz 250) (kz : SpOk z) (q : Q (.bl (betw a.lo a.hi (dsQ a.p z))) μ) : sp_law_reached Γ [armTD a, numD z] μ Q := ⟨a, z, rfl, ka, sa.1.mono (by decide), kz.1, kz.2.mono (by decide), by rw [reachB_betw ka.1 kz.1]; exact q⟩
theorem i_t0 {a : Am} (μ : MH) (Q : D → MH → Prop) : gIx (armTD a) (.int 0) μ Q = Q (numD a.p) μ := rfl
theorem i_t2 {a : Am} (μ : MH) (Q : D → MH → Prop) : gIx (armTD a) (.int 2) μ Q = Q (.int a.lo) μ := rfl
theorem traced_loop {Γ : CL} {E : Ed} {a : Am} {s : Stk} {μ : MH} (ka : a.ok) (sa : a.sz 250) (ks : okSt 250 s) : ∀ (r : Stk) (k : Nat) (x2 x3 : Option D), s.drop k = r → (∀ j, missP a k (segs r) = some j → E.rt (.int (j : Int)) μ) → (missP a k (segs r) = none → ∀ x2 x3, E.nx [some (armTD a), some (strD s), x2, x3] μ) →
    forD (rGN 2) (rSeq (rAsg (rCl (sp_law_near Γ) (rCons (rOp gIx (rVar 0) (rC (.int 0))) (rCons (rOp gIx (rVar 1) (rVar 2)) (rCons (rOp gIx (rVar 1) (rOp gAdd (rVar 2) (rC (.int 1)))) rNil)))) (rGN 3))
 (rSeq (rIf (rOr (rNot (rB (rCl (sp_law_reached Γ) (rCons (rVar 0) (rCons (rOp gIx (rVar 1) (rVar 2)) rNil))))) (rNot (rB (rCl (sp_law_reached Γ) (rCons (rVar 0) (rCons (rOp gIx (rVar 1) (rOp gAdd (rVar 2) (rC (.int 1)))) rNil))))))
 (rRet (rVar 2))
 rNext)
 (rIf (rB (rCl (sp_law_less Γ) (rCons (rVar 3) (rCons (rTup (rCons (rOp gMul (rOp gIx (rVar 0) (rC (.int 2))) (rOp gIx (rVar 0) (rC (.int 2)))) (rCons (rC (.int 1)) rNil))) rNil))))
 (rRet (rVar 2))
 rNext))) tru E (rangeD (k : Int) (r.length - 1)) [some (armTD a), some (strD s), x2, x3] μ
  | [], k, x2, x3, _, _, h => ⟨trivial, h rfl x2 x3⟩
  | [z], k, x2, x3, _, _, h => ⟨trivial, h rfl x2 x3⟩
  | z :: w :: r, k, x2, x3, hd, h1, h2 => by
    have e0 : s[k]? = some z := by
      have := List.getElem?_drop (xs := s) (i := k) (j := 0)
      rw [hd] at this
      simpa using this.symm
    have e1 : s[k + 1]? = some w := by
      have := List.getElem?_drop (xs := s) (i := k) (j := 1)
      rw [hd] at this
      simpa using this.symm
    have hd2 : s.drop (k + 1) = w :: r := by rw [← List.drop_drop, hd]; rfl
    have kp : SpOk a.p := ⟨ka.1, sa.1⟩
    have kz : SpOk z := ks.can z (List.mem_of_getElem? e0)
    have kw : SpOk w := ks.can w (List.mem_of_getElem? e1)
    obtain ⟨l1, l2⟩ := ka.bt
    have ec : ((k : Int) + 1) = ((k + 1 : Nat) : Int) := by omega
    refine ⟨trivial, ?_⟩
    simp only [rGN, st]
    refine seq_g fun N hN => ?_
    simp only [rAsg, rCl, rCons, rOp, rVar, rC, rNil, gt, i_t0]
    refine gIx_s e0 ?_
    simp only [gAdd]
    rw [ec]
    refine gIx_s e1 ?_
    refine ⟨a.p, z, w, rfl, kp, kz, kw, ?_⟩
    simp only [rGN, st]
    refine hN _ _ ?_
    clear hN N
    have hp : missP a k (segs (z :: w :: r)) = (if partB a (z, w) = true then missP a (k + 1) (segs (w :: r)) else some k) := rfl
    rw [hp, partB_law] at h1 h2
    unfold lawB at h1 h2
    simp only at h1 h2
    refine seq_g fun N hN => ?_
    simp only [rIf, rOr, rNot, rB, rCl, rCons, rOp, rVar, rC, rNil, gt]
    refine gIx_s e0 (reached_i ka sa kz ?_)
    cases b1 : betw a.lo a.hi (dsQ a.p z) with
    | false =>
      rw [b1] at h1
      simp only [Bool.not_false, if_true, rRet, rVar, gt]
      exact h1 k (by rw [Bool.false_and, Bool.false_and]; rfl)
    | true =>
      rw [b1, Bool.true_and] at h1 h2
      simp only [Bool.not_true, Bool.false_eq_true, if_false, gAdd]
      rw [ec]
      refine gIx_s e1 (reached_i ka sa kw ?_)
      cases b2 : betw a.lo a.hi (dsQ a.p w) with
      | false =>
        rw [b2] at h1
        simp only [Bool.not_false, if_true, rRet, rVar, gt]
        exact h1 k (by rw [Bool.false_and]; rfl)
      | true =>
        rw [b2, Bool.true_and] at h1 h2
        simp only [Bool.not_true, Bool.false_eq_true, if_false, rNext]
        refine hN _ _ ?_
        clear hN N
        simp only [rIf, rB, rCl, rCons, rTup, rOp, rVar, rC, rNil, gt, i_t2, gMul, gI]
        refine ⟨CB l1 l1 (by decide) (by decide), by show 2 ≤ 2 ^ 24; decide, ?_⟩
        rw [int_fr]
        refine lessq_i ((near_sz kp kz kw).mono (by decide)) (SzQ_int (l1.mul l1) (by decide)) ?_
        by_cases q : nearQ a.p z w < ((a.lo * a.lo : Int) : Rat)
        · rw [decide_eq_true q] at h1 ⊢
          simp only [if_true, rRet, rVar, gt]
          exact h1 k rfl
        · rw [decide_eq_false q] at h1 h2 ⊢
          simp only [Bool.false_eq_true, if_false, rNext]
          have := traced_loop (Γ := Γ) ka sa ks (w :: r) (k + 1) (some (.int (k : Int))) (some (fr (nearQ a.p z w))) hd2 (fun j e => h1 j e) (fun e => h2 e)
          rw [← ec] at this
          exact this
theorem vc_law_traced (Γ : CL) : ∀ ds μ R, sp_law_traced Γ ds μ R → rd_law_traced Γ (fin R) (startD 4 ds) μ := by
  rintro ds μ R ⟨a, s, rfl, ka, sa, ks, h⟩
  have kl := ks.le
  unfold rd_law_traced
  rw [show startD 4 [armTD a, strD s] = [some (armTD a), some (strD s), none, none] from rfl]
  have kp : SpOk a.p := ⟨ka.1, sa.1⟩
  match s, ks, kl, h with
  | [], ks, _, _ => exact absurd ks.ne (by simp)
  | [z], ks, _, h =>
    have kz : SpOk z := ks.can z (by simp)
    refine seq_g fun N hN => ?_
    simp only [rIf, rB, rOp, rCl, rCons, rVar, rC, rNil, gt, strD, gLen, res, seqD, List.length_map, gEq_i]
    refine ite_yes rfl ?_
    simp only [rRet, rIfE, rB, rCl, rCons, rOp, rVar, rC, rNil, gt, List.map_cons, List.map_nil, gIx_t, atI_0, List.getElem?_cons_zero]
    refine reached_i ka sa kz ?_
    have e : missP a 0 (partsL [z]) = if betw a.lo a.hi (dsQ a.p z) = true then none else some 0 := by
      show (if partB a (z, z) = true then none else some 0) = _
      unfold partB
      simp only [near_self, far_self, Bool.and_self]
    rw [e] at h
    cases b : betw a.lo a.hi (dsQ a.p z) with
    | true =>
      rw [b] at h
      exact h
    | false =>
      rw [b] at h
      exact h
  | z :: w :: r, ks, kl, h =>
    refine seq_g fun N hN => ?_
    simp only [rIf, rB, rOp, rCl, rCons, rVar, rC, rNil, gt, strD, gLen, res, seqD, List.length_map, gEq_i]
    refine ite_no (by simp; omega) ?_
    simp only [rNext]
    refine hN _ _ ?_
    clear hN N
    refine seq_g fun N hN => ?_
    simp only [rFor, rIRng1, rOp, rCl, rCons, rVar, rC, rNil, gt, gLen, res, seqD, List.length_map, gSub, gI0]
    refine ⟨by unfold inR; omega, ?_⟩
    have el : ((((z :: w :: r).length : Nat) : Int) - 1).toNat = (z :: w :: r).length - 1 := by omega
    rw [el]
    refine traced_loop ka sa ks (z :: w :: r) 0 none none rfl (fun j e => ?_) (fun e x2 x3 => ?_)
    · rw [show partsL (z :: w :: r) = segs (z :: w :: r) from rfl, e] at h
      exact h
    · rw [show partsL (z :: w :: r) = segs (z :: w :: r) from rfl, e] at h
      refine hN _ _ ?_
      simp only [rRet, rC]
      exact h
theorem missed_in {Γ : CL} {E : Ed} {as : List Am} {a : Am} {n : Nat} {ss : List Stk} {s5 : Option D} {μ : MH} (en : as[n]? = some a) (ka : a.ok) (sa : a.sz 250) (ks : ∀ s ∈ ss, okSt 250 s) : ∀ (r : List Stk) (i : Nat) (x3 x4 : Option D), ss.drop i = r → (∀ k, missS a i r = some k → E.rt (.tup [.tup [.int (n : Int), .int (k.1 : Int), .int (k.2 : Int)], .tup []]) μ) → (missS a i r = none → ∀ x3 x4, E.nx [some (.lst (as.map armTD)), some (strsD ss), some (.int (n : Int)), x3, x4, s5] μ) →
    forD (rGN 3) (rSeq (rAsg (rCl (sp_law_traced Γ) (rCons (rOp gIx (rVar 0) (rVar 2)) (rCons (rOp gIx (rVar 1) (rVar 3)) rNil))) (rGN 4))
 (rIf (rB (rOp gNotN (rVar 4) (rC .non)))
 (rRet (rTup (rCons (rTup (rCons (rVar 2) (rCons (rVar 3) (rCons (rVar 4) rNil)))) (rCons (rTup rNil) rNil))))
 rNext)) tru E (rangeD (i : Int) r.length) [some (.lst (as.map armTD)), some (strsD ss), some (.int (n : Int)), x3, x4, s5] μ
  | [], i, x3, x4, _, _, h => ⟨trivial, h rfl x3 x4⟩
  | s :: r, i, x3, x4, hd, h1, h2 => by
    have e0 : ss[i]? = some s := by
      have := List.getElem?_drop (xs := ss) (i := i) (j := 0)
      rw [hd] at this
      simpa using this.symm
    have hd2 : ss.drop (i + 1) = r := by rw [← List.drop_drop, hd]; rfl
    have k1 := ks s (List.mem_of_getElem? e0)
    refine ⟨trivial, ?_⟩
    simp only [rGN, st]
    refine seq_g fun N hN => ?_
    simp only [rAsg, rCl, rCons, rOp, rVar, rNil, gt, gIx_l, strsD, gIx_t, atI_lit, List.getElem?_map, en, e0, Option.map_some]
    refine ⟨a, s, rfl, ka, sa, k1, ?_⟩
    simp only [rGN, st]
    refine hN _ _ ?_
    clear hN N
    unfold missS at h1 h2
    simp only [rIf, rB, rOp, rVar, rC, gt]
    cases q : missP a 0 (partsL s) with
    | some j =>
      rw [q] at h1
      simp only [natD, gNotN, isNonD, Bool.not_false, if_true, rRet, rTup, rCons, rVar, rNil, gt]
      exact ⟨by show 3 ≤ 2 ^ 24; decide, by show 0 ≤ 2 ^ 24; decide, by show 2 ≤ 2 ^ 24; decide, h1 (i, j) rfl⟩
    | none =>
      rw [q] at h1 h2
      simp only [natD, gNotN, isNonD, Bool.not_true, Bool.false_eq_true, if_false, rNext]
      have := missed_in (Γ := Γ) (s5 := s5) en ka sa ks r (i + 1) (some (.int (i : Int))) (some .non) hd2 h1 h2
      rw [show ((i + 1 : Nat) : Int) = (i : Int) + 1 by omega] at this
      exact this
theorem about_i {Γ : CL} {a : Am} {μ : MH} {Q : D → MH → Prop} (ka : a.ok) (sa : a.sz quart) (q : Q (toldD a.eff) μ) : sp_law_about Γ [armTD a] μ Q := ⟨a, rfl, ka, sa, q⟩
theorem lmoved_i {Γ : CL} {c : Cp} {ss : List Stk} {μ : MH} {Q : D → MH → Prop} (kc : c.ok) (sc : c.sz quart) (ks : okDr quart ss) (q : Q (strsD (movedBy c ss)) μ) : sp_law_moved Γ [toldD c, strsD ss] μ Q := ⟨c, ss, rfl, kc, sc, ks, q⟩
theorem missed_loop {Γ : CL} {E : Ed} {as : List Am} {μ : MH} : ∀ (r : List Am) (n : Nat) (ss : List Stk) (x2 x3 x4 x5 : Option D), as.drop n = r → okN r ss → (∀ k, (missL n r ss).1 = some k → E.rt (.tup [.tup [.int (k.1 : Int), .int (k.2.1 : Int), .int (k.2.2 : Int)], .tup []]) μ) → ((missL n r ss).1 = none → ∀ x2 x3 x4 x5, E.nx [some (.lst (as.map armTD)), some (strsD (missL n r ss).2), x2, x3, x4, x5] μ) →
    forD (rGN 2) (rSeq (rFor (rIRng1 (rCons (rCl gLen (rCons (rVar 1) rNil)) rNil)) (rGN 3)
 (rSeq (rAsg (rCl (sp_law_traced Γ) (rCons (rOp gIx (rVar 0) (rVar 2)) (rCons (rOp gIx (rVar 1) (rVar 3)) rNil))) (rGN 4))
 (rIf (rB (rOp gNotN (rVar 4) (rC .non)))
 (rRet (rTup (rCons (rTup (rCons (rVar 2) (rCons (rVar 3) (rCons (rVar 4) rNil)))) (rCons (rTup rNil) rNil))))
 rNext)))
 (rSeq (rAsg (rCl (sp_law_about Γ) (rCons (rOp gIx (rVar 0) (rVar 2)) rNil)) (rGN 5))
 (rAsg (rCl (sp_law_moved Γ) (rCons (rVar 5) (rCons (rVar 1) rNil))) (rGN 1)))) tru E (rangeD (n : Int) r.length) [some (.lst (as.map armTD)), some (strsD ss), x2, x3, x4, x5] μ
  | [], n, ss, x2, x3, x4, x5, _, _, _, h => ⟨trivial, h rfl x2 x3 x4 x5⟩
  | a :: r, n, ss, x2, x3, x4, x5, hd, hk, h1, h2 => by
    obtain ⟨⟨ka, sa⟩, ks, hk⟩ := hk
    have kl := ks.le
    have e0 : as[n]? = some a := by
      have := List.getElem?_drop (xs := as) (i := n) (j := 0)
      rw [hd] at this
      simpa using this.symm
    have hd2 : as.drop (n + 1) = r := by rw [← List.drop_drop, hd]; rfl
    refine ⟨trivial, ?_⟩
    simp only [rGN, st]
    refine seq_g fun N hN => ?_
    simp only [rFor, rIRng1, rCl, rCons, rVar, rNil, gt, gLen, res, strsD, seqD, List.length_map]
    refine ⟨by unfold inR; omega, ?_⟩
    rw [Int.toNat_natCast]
    unfold missL at h1 h2
    refine missed_in (Γ := Γ) e0 ka sa ks.st ss 0 _ _ rfl (fun k e => ?_) (fun e y3 y4 => ?_)
    · rw [e] at h1
      exact h1 (n, k.1, k.2) rfl
    · rw [e] at h1 h2
      refine hN _ _ ?_
      clear hN N
      refine seq_g fun N hN => ?_
      simp only [rAsg, rCl, rCons, rOp, rVar, rNil, gt, gIx_l, atI_lit, List.getElem?_map, e0, Option.map_some]
      refine about_i ka (sa.mono (by decide)) ?_
      simp only [rGN, st]
      refine hN _ _ ?_
      clear hN N
      simp only [rAsg, rCl, rCons, rVar, rNil, gt]
      refine lmoved_i (Am.eff_ok ka) (eff_sz2 ka sa) (ks.mono (by decide)) ?_
      simp only [rGN, st]
      have := missed_loop (Γ := Γ) r (n + 1) (movedBy a.eff ss) (some (.int (n : Int))) y3 y4 (some (toldD a.eff)) hd2 hk h1 h2
      rw [show ((n + 1 : Nat) : Int) = (n : Int) + 1 by omega] at this
      exact this
theorem missL_some : ∀ (as : List Am) (n : Nat) (ss : List Stk) (k : Nat × Nat × Nat), (missL n as ss).1 = some k → (missL n as ss).2 = []
  | [], _, _, _, h => nomatch h
  | a :: r, n, ss, k, h => by
    unfold missL at h ⊢
    cases e : missS a 0 ss with
    | some x => rfl
    | none =>
      rw [e] at h
      exact missL_some r _ _ k h
theorem vc_law_missed (Γ : CL) : ∀ ds μ R, sp_law_missed Γ ds μ R → rd_law_missed Γ (fin R) (startD 6 ds) μ := by
  rintro ds μ R ⟨as, ss, rfl, hk, hl, h⟩
  unfold rd_law_missed
  rw [show startD 6 [.lst (as.map armTD), strsD ss] = [some (.lst (as.map armTD)), some (strsD ss), none, none, none, none] from rfl]
  refine seq_g fun N hN => ?_
  simp only [rFor, rIRng1, rCl, rCons, rVar, rNil, gt, gLen, res, seqD, List.length_map]
  refine ⟨by unfold inR; omega, ?_⟩
  rw [Int.toNat_natCast]
  refine missed_loop (Γ := Γ) as 0 ss _ _ _ _ rfl hk (fun k e => ?_) (fun e x2 x3 x4 x5 => ?_)
  · have e2 := missL_some as 0 ss k e
    rw [e, e2] at h
    exact h
  · refine hN _ _ ?_
    simp only [rRet, rTup, rCons, rC, rVar, rNil, gt]
    rw [e] at h
    exact ⟨by show 2 ≤ 2 ^ 24; decide, h⟩
/-! ### a chain can draw what the law does not miss -/
theorem betw_join {a : Am} {z : Rat × Rat} {x : Num × Num} (hz : z.1 ≤ z.2) :
    okSpan a (joinS (some z) (spanQ a.p x)) = (okSpan a (some z) && partB a x) := by
  have h := near_far a.p x.1 x.2
  show (betw a.lo a.hi (qmin z.1 (nearQ a.p x.1 x.2)) && betw a.lo a.hi (qmax z.2 (farQ a.p x.1 x.2))) = ((betw a.lo a.hi z.1 && betw a.lo a.hi z.2) && (betw a.lo a.hi (nearQ a.p x.1 x.2) && betw a.lo a.hi (farQ a.p x.1 x.2)))
  have m1 := qmin_le z.1 (nearQ a.p x.1 x.2)
  have m2 := qmin_or z.1 (nearQ a.p x.1 x.2)
  have m3 := qmax_ge z.2 (farQ a.p x.1 x.2)
  have m4 := qmax_or z.2 (farQ a.p x.1 x.2)
  rw [Bool.eq_iff_iff]
  simp only [Bool.and_eq_true, betw_iff]
  generalize qmin z.1 (nearQ a.p x.1 x.2) = m at *
  generalize qmax z.2 (farQ a.p x.1 x.2) = M at *
  generalize nearQ a.p x.1 x.2 = n at *
  generalize farQ a.p x.1 x.2 = f at *
  generalize ((a.lo * a.lo : Int) : Rat) = l at *
  generalize ((a.hi * a.hi : Int) : Rat) = u at *
  obtain ⟨z1, z2⟩ := z
  simp only at *
  constructor
  · intro q
    refine ⟨⟨⟨?_, ?_⟩, ?_, ?_⟩, ⟨?_, ?_⟩, ?_, ?_⟩ <;> grind
  · intro q
    refine ⟨⟨?_, ?_⟩, ?_, ?_⟩ <;> grind
def leO (o : Option (Rat × Rat)) : Prop := ∀ z, o = some z → z.1 ≤ z.2
theorem leO_join {p : Num} {o : Option (Rat × Rat)} {x : Num × Num} (h : leO o) : leO (joinS o (spanQ p x)) := by
  have hn := near_far p x.1 x.2
  intro z hz
  cases o with
  | none =>
    cases hz
    exact hn
  | some w =>
    cases hz
    have := h w rfl
    have m1 := qmin_le w.1 (nearQ p x.1 x.2)
    have m3 := qmax_ge w.2 (farQ p x.1 x.2)
    show qmin w.1 (nearQ p x.1 x.2) ≤ qmax w.2 (farQ p x.1 x.2)
    grind
theorem span_join {a : Am} {o : Option (Rat × Rat)} {x : Num × Num} (h : leO o) : okSpan a (joinS o (spanQ a.p x)) = (okSpan a o && partB a x) := by
  cases o with
  | none => rfl
  | some z => exact betw_join (h z rfl)
theorem missP_all (a : Am) : ∀ (l : List (Num × Num)) (j : Nat), (missP a j l).isNone = l.all (partB a)
  | [], _ => rfl
  | x :: r, j => by
    unfold missP
    rw [List.all_cons]
    by_cases e : partB a x = true
    · rw [if_pos e, e, Bool.true_and]
      exact missP_all a r _
    · rw [if_neg e, show partB a x = false by simpa using e, Bool.false_and]
      rfl
theorem touchP_all {a : Am} : ∀ (l : List (Num × Num)) (o : Option (Rat × Rat)), leO o → leO (touchP a.p o l) ∧ okSpan a (touchP a.p o l) = (okSpan a o && l.all (partB a))
  | [], o, h => ⟨h, by simp [touchP]⟩
  | x :: r, o, h => by
    obtain ⟨h1, h2⟩ := touchP_all r (joinS o (spanQ a.p x)) (leO_join h)
    refine ⟨h1, ?_⟩
    show okSpan a (touchP a.p (joinS o (spanQ a.p x)) r) = _
    rw [h2, span_join h, List.all_cons, Bool.and_assoc]
theorem missS_all (a : Am) : ∀ (ss : List Stk) (i : Nat), (missS a i ss).isNone = ss.all fun s => (partsL s).all (partB a)
  | [], _ => rfl
  | s :: r, i => by
    unfold missS
    rw [List.all_cons, ← missP_all a (partsL s) 0]
    cases missP a 0 (partsL s) with
    | some j => rfl
    | none => exact missS_all a r _
theorem touchS_all {a : Am} : ∀ (ss : List Stk) (o : Option (Rat × Rat)), leO o → okSpan a (touchS a.p o ss) = (okSpan a o && ss.all fun s => (partsL s).all (partB a))
  | [], o, h => by simp [touchS]
  | s :: r, o, h => by
    obtain ⟨h1, h2⟩ := touchP_all (partsL s) o h
    show okSpan a (touchS a.p (touchP a.p o (partsL s)) r) = _
    rw [touchS_all r _ h1, h2, List.all_cons, Bool.and_assoc]
theorem can_miss : ∀ (as : List Am) (n : Nat) (ss : List Stk), canB as ss = (missL n as ss).1.isNone
  | [], _, _ => rfl
  | a :: r, n, ss => by
    have h := touchS_all (a := a) ss none (fun z e => nomatch e)
    rw [← missS_all a ss 0] at h
    show (okSpan a (touchS a.p none ss) && canB r (movedBy a.eff ss)) = _
    rw [h]
    unfold missL
    cases missS a 0 ss with
    | some x => rfl
    | none =>
      show (true && true && canB r (movedBy a.eff ss)) = _
      rw [Bool.true_and, Bool.true_and]
      exact can_miss r _ _
end L3

/-! ## V22 -/
set_option Elab.async false
set_option linter.all false
set_option maxRecDepth 100000
set_option maxHeartbeats 1000000
/-! Errors with attributes, told. -/
namespace L3
open PySem NM L2
def rd_errTl (a : Addr) (fs : List (Str × D)) : RS := (rSeq (rIf (rB (rOp gEq (rVar 4) (rC (.str "stroke"))))
 (rRetA1 a fs 1 "index" (rVar 4))
 rNext)
 (rSeq (rIf (rB (rOp gEq (rVar 4) (rC (.str "out"))))
 (rRetA3 a fs 1 "arm" "stroke" "part" (rVar 4))
 rNext)
 (rSeq (rIf (rB (rOp gEq (rVar 4) (rC (.str "text"))))
 (rRetA2 a fs 1 "row" "word" (rVar 4))
 rNext)
 (rSeq (rIf (rB (rOp gEq (rVar 4) (rC (.str "row"))))
 (rRetA2 a fs 1 "row" "reason" (rVar 4))
 rNext)
 (rRetAI a fs 1 "place" (rB (rOp gIn (rVar 4) (rLst (rCons (rC (.str "code")) (rCons (rC (.str "operation")) rNil))))) (rVar 4) (rC (.int 0)))))))
theorem vcF_head {bs : Nat → Bool} {m : Nat} {nm : Str} {fs : List (Str × D)} (h1 : ((kindsD bs).countP fun y => deq y (.bl true)) = 1) (hm : (kindsD bs)[m]? = some (.bl true)) (hno : ∀ j z, j < m → (kindsD bs)[j]? = some z → deq z (.bl true) = false) (hp : pureN 20 (.lst (kindsD bs)) = true)
    (hn : namesD[m]? = some (.str nm)) (a : Addr) (μ : MH) (DD : Ed) (q : rd_errTl a fs DD [none, some (.ref a), some (.lst (kindsD bs)), some (.lst namesD), some (.str nm)] μ) : rd_errF a fs bs DD (st (List.replicate 5 none) 1 (.ref a)) μ := by
  unfold rd_errF
  rw [show st (List.replicate 5 none) 1 (.ref a) = [none, some (.ref a), none, none, none] from rfl]
  have two : ∀ x : D, ([x, x] : List D).length ≤ sizeLine := fun _ => (by decide : 2 ≤ 2 ^ 24)
  have e : ∀ (b : Bool) (s2 s3 s4 : Option D) (R : D → MH → Prop), R (.bl b) μ → rIsEx a b (rVar 1) [none, some (.ref a), s2, s3, s4] μ R := fun b s2 s3 s4 R q => isEx_i rfl q
  refine seq_g fun N hN => ?_
  simp only [rAsg, rLst, rCons, rNil]
  refine e _ _ _ _ _ (e _ _ _ _ _ (e _ _ _ _ _ ?_))
  refine ⟨(by decide : 3 ≤ 2 ^ 24), ?_⟩
  simp only [rGN, st]
  refine hN _ _ ?_
  clear hN N
  refine seq_g fun N hN => ?_
  simp only [rAsg, rOp, rVar, gt, rLst, rCons, rNil]
  refine e _ _ _ _ _ (e _ _ _ _ _ (e _ _ _ _ _ ?_))
  refine ⟨(by decide : 3 ≤ 2 ^ 24), gAdd_lll (by show 3 + 3 ≤ 1000; decide) ?_⟩
  simp only [rGN, st, List.cons_append, List.nil_append]
  refine hN _ _ ?_
  clear hN N
  refine seq_g fun N hN => ?_
  simp only [rAsg, rOp, rVar, gt, rLst, rCons, rNil]
  refine e _ _ _ _ _ (e _ _ _ _ _ (e _ _ _ _ _ ?_))
  refine ⟨(by decide : 3 ≤ 2 ^ 24), gAdd_lll (by show 6 + 3 ≤ 1000; decide) ?_⟩
  simp only [rGN, st, List.cons_append, List.nil_append]
  refine hN _ _ ?_
  clear hN N
  refine seq_g fun N hN => ?_
  simp only [rAsg, rOp, rVar, gt, rLst, rCons, rNil]
  refine e _ _ _ _ _ (e _ _ _ _ _ (e _ _ _ _ _ ?_))
  refine ⟨(by decide : 3 ≤ 2 ^ 24), gAdd_lll (by show 9 + 3 ≤ 1000; decide) ?_⟩
  simp only [rGN, st, List.cons_append, List.nil_append]
  refine hN _ _ ?_
  clear hN N
  refine seq_g fun N hN => ?_
  simp only [rAsg, rOp, rVar, gt, rLst, rCons, rNil]
  refine e _ _ _ _ _ (e _ _ _ _ _ (e _ _ _ _ _ ?_))
  refine ⟨(by decide : 3 ≤ 2 ^ 24), gAdd_lll (by show 12 + 3 ≤ 1000; decide) ?_⟩
  simp only [rGN, st, List.cons_append, List.nil_append]
  refine hN _ _ ?_
  clear hN N
  refine seq_g fun N hN => ?_
  simp only [rAsg, rOp, rVar, gt, rLst, rCons, rNil]
  refine e _ _ _ _ _ (e _ _ _ _ _ (e _ _ _ _ _ ?_))
  refine ⟨(by decide : 3 ≤ 2 ^ 24), gAdd_lll (by show 15 + 3 ≤ 1000; decide) ?_⟩
  simp only [rGN, st, List.cons_append, List.nil_append]
  refine hN _ _ ?_
  clear hN N
  refine seq_g fun N hN => ?_
  simp only [rAsg, rOp, rVar, gt, rLst, rCons, rNil]
  refine e _ _ _ _ _ (e _ _ _ _ _ ?_)
  refine ⟨(by decide : 2 ≤ 2 ^ 24), gAdd_lll (by show 18 + 2 ≤ 1000; decide) ?_⟩
  simp only [rGN, st, List.cons_append, List.nil_append]
  refine hN _ _ ?_
  clear hN N
  show rSeq _ _ DD [none, some (.ref a), some (.lst (kindsD bs)), none, none] μ
  refine seq_g fun N hN => ?_
  simp only [rIf, rOr, rNot, rB, rOp, rBM, rVar, gt, rCons, rC, rNil, gCount]
  refine ⟨hp, rfl, ?_⟩
  rw [h1]
  simp only [gNe_i]
  refine ite_no (by decide) ?_
  refine e _ _ _ _ _ ?_
  simp only [Bool.not_true, Bool.false_eq_true, if_false, rNext]
  refine hN _ _ ?_
  clear hN N
  refine seq_g fun N hN => ?_
  simp only [rAsg, rLst, rCons, rC, rNil]
  refine ⟨(by decide : 12 ≤ 2 ^ 24), ?_⟩
  simp only [rGN, st]
  refine hN _ _ ?_
  clear hN N
  refine seq_g fun N hN => ?_
  simp only [rAsg, rOp, rVar, gt, rLst, rCons, rC, rNil]
  refine ⟨(by decide : 8 ≤ 2 ^ 24), gAdd_lll (by show 12 + 8 ≤ 1000; decide) ?_⟩
  simp only [rGN, st, List.cons_append, List.nil_append]
  refine hN _ _ ?_
  clear hN N
  show rSeq _ _ DD [none, some (.ref a), some (.lst (kindsD bs)), some (.lst namesD), none] μ
  refine seq_g fun N hN => ?_
  simp only [rAsg, rOp, rVar, gt, rBM, rCons, rC, rNil, gIndex]
  refine ⟨hp, rfl, m, _, hm, rfl, hno, ?_⟩
  rw [gIx_l, atI_lit, hn]
  simp only [rGN, st]
  refine hN _ _ ?_
  clear hN N
  exact q
theorem tl_no {nm x : Str} {b : Bool} (ok : PyData.strOk nm = true) (ox : PyData.strOk x = true) (e : (nm == x) = b) {a : Addr} {s2 s3 : Option D} {μ : MH} {R : Bool → MH → Prop} (q : R b μ) : rB (rOp gEq (rVar 4) (rC (.str x))) [none, some (.ref a), s2, s3, some (.str nm)] μ R := by
  simp only [rB, rOp, rVar, gt, rC]
  exact gEq_s ok ox e q
theorem vcF_9 {ds : List D} (hl : ds.length = (attrNs 9).length) (a : Addr) (μ : MH) (DD : Ed) (q : DD.rt (valE 9 ds) μ) : rd_errF a (((attrNs 9).zip ds).reverse) (fun j => decide (j = 9)) DD (st (List.replicate 5 none) 1 (.ref a)) μ := by
  match ds, hl, q with
  | [], _, q =>
    refine vcF_head (m := 9) (nm := "size") (by decide) (by rfl) no_before (by decide) (by rfl) a μ DD ?_
    unfold rd_errTl
    refine seq_g fun N hN => ?_
    simp only [rIf]
    refine tl_no (b := false) (by decide +kernel) (by decide +kernel) (by decide +kernel) ?_
    simp only [Bool.false_eq_true, if_false, rNext]
    refine hN _ _ ?_
    clear hN N
    refine seq_g fun N hN => ?_
    simp only [rIf]
    refine tl_no (b := false) (by decide +kernel) (by decide +kernel) (by decide +kernel) ?_
    simp only [Bool.false_eq_true, if_false, rNext]
    refine hN _ _ ?_
    clear hN N
    refine seq_g fun N hN => ?_
    simp only [rIf]
    refine tl_no (b := false) (by decide +kernel) (by decide +kernel) (by decide +kernel) ?_
    simp only [Bool.false_eq_true, if_false, rNext]
    refine hN _ _ ?_
    clear hN N
    refine seq_g fun N hN => ?_
    simp only [rIf]
    refine tl_no (b := false) (by decide +kernel) (by decide +kernel) (by decide +kernel) ?_
    simp only [Bool.false_eq_true, if_false, rNext]
    refine hN _ _ ?_
    clear hN N
    simp only [rRetAI, rVar, gt, rB, rOp, rLst, rCons, rC, rNil]
    refine ⟨(by decide : 2 ≤ 2 ^ 24), (by decide +kernel : PyData.strOk "size" = true), (by decide +kernel), ?_⟩
    simp only [res]
    refine ite_no (by decide +kernel) ?_
    exact q
end L3

/-! ## L4c -/
set_option Elab.async false
set_option linter.all false
set_option maxRecDepth 100000
set_option maxHeartbeats 4000000
/-! xs[::-1] of a list. -/
namespace L3
open PySem PySem.Spec PyProof.Rows L2
end L3

/-! ## SP5 -/
set_option Elab.async false
set_option linter.all false
set_option maxRecDepth 100000
set_option maxHeartbeats 4000000
/-! Spots in reach of chains. -/
namespace L3
open PySem NM L2

def c_MAX_SIZE : D := .int 20
def rgB (r : Rg) (z : Num) : Bool := !decide ((szN (sub z r.c)).x * r.lo.d < r.lo.x * (szN (sub z r.c)).d) && !decide (r.hi.x * (szN (sub z r.c)).d < (szN (sub z r.c)).x * r.hi.d)
def okRg (r : Rg) : Prop := (Can r.c ∧ Sz 701 r.c) ∧ Sz 800 r.lo ∧ Sz 800 r.hi
def sp_is_in_ring (Γ : CL) : GN := fun ds μ R => ∃ z r, ds = [numD z, rgD r] ∧ Can z ∧ Sz 700 z ∧ okRg r ∧ R (.bl (rgB r z)) μ
def intsL (lo : Int) : Nat → List Int
  | 0 => []
  | n + 1 => lo :: intsL (lo + 1) n
theorem rangeD_intsL : ∀ (n : Nat) (lo : Int), rangeD lo n = (intsL lo n).map D.int
  | 0, _ => rfl
  | n + 1, lo => congrArg (D.int lo :: ·) (rangeD_intsL n (lo + 1))
theorem intsL_len : ∀ (n : Nat) (lo : Int), (intsL lo n).length = n
  | 0, _ => rfl
  | n + 1, lo => congrArg Nat.succ (intsL_len n (lo + 1))
theorem intsL_mem : ∀ {n : Nat} {lo i : Int}, i ∈ intsL lo n ↔ lo ≤ i ∧ i < lo + n
  | 0, lo, i => by simp [intsL]
  | n + 1, lo, i => by
    show i ∈ lo :: intsL (lo + 1) n ↔ _
    rw [List.mem_cons, intsL_mem (n := n)]
    omega
/-- the whole numbers from -n to n -/
def sideL (n : Int) : List Int := intsL (0 - n) (n + 1 - (0 - n)).toNat
def spotI1 (x y : Int) : Num := ⟨x, y, 1⟩
def gridL (n : Int) : List Num := (sideL n).flatMap fun x => (sideL n).map fun y => spotI1 x y
def spotsL (as : List Am) (n : Int) : List Num := (gridL n).filter fun z => (zonesL Cp.id as).all fun r => rgB r z
def sp_reachable_spots (Γ : CL) : GN := fun ds μ R => ∃ as n, ds = [chainD Γ as, .int n] ∧ okA Cp.id as ∧ okZ Cp.id as ∧ as.length ≤ 6 ∧ (∀ r ∈ zonesL Cp.id as, okRg r) ∧ 0 ≤ n ∧ n ≤ 20 ∧ R (.lst ((spotsL as n).map numD)) μ
def spx_reachable_spots (Γ : CL) : GX := fun ds μ R re => ∃ as d, ds = [chainD Γ as, d] ∧ okD d = true ∧ inIntD d 0 20 = false ∧ re (Γ.gx "InvalidSize") [] μ
def sp_Chain___getitem (Γ : CL) : GN := fun ds μ R => ∃ (as : List Am) (i : Nat) (a : Am), ds = [chainD Γ as, .int (i : Int)] ∧ as[i]? = some a ∧ R (armD Γ a) μ
def sp_Arm_reaches (Γ : CL) : GN := fun ds μ R => ∃ a z, ds = [armD Γ a, numD z] ∧ a.ok ∧ a.sz 250 ∧ SpOk z ∧ R (.bl (betw a.lo a.hi (dsQ a.p z))) μ
/-- the drawing of strokes in a tuple or in a list -/
def sp_law_drawingQ (Γ : CL) : GN := fun ds μ R => ∃ ss, (ds = [strsD ss] ∨ ds = [.lst (ss.map strD)]) ∧ okDr big ss ∧ R (drawD Γ ss) μ
end L3

/-! ## RB5 -/
set_option Elab.async false
set_option linter.all false
set_option maxRecDepth 100000
set_option maxHeartbeats 4000000
namespace L3
open PySem NM L2
/-- is_in_ring(spot, ring) : 0 spot, 1 ring, 2 distance -/
def rd_is_in_ring (Γ : CL) : RS := (rSeq (rAsg (rCl (sp_size Γ) (rCons (rCl (sp_less Γ) (rCons (rVar 0) (rCons (rOp gIx (rVar 1) (rC (.int 0))) rNil))) rNil)) (rGN 2))
 (rRet (rAndV (rNotV (rCl (sp_is_less Γ) (rCons (rVar 2) (rCons (rOp gIx (rVar 1) (rC (.int 1))) rNil)))) (rNotV (rCl (sp_is_less Γ) (rCons (rOp gIx (rVar 1) (rC (.int 2))) (rCons (rVar 2) rNil)))))))
/-- reachable_spots(chain, limit) : 0 chain, 1 limit, 2 rings, 3 found, 4 numbers, 5 x, 6 y, 7 ring -/
def rd_reachable_spots (Γ : CL) : RS := (rSeq (rIf (rNot (rB (rCl (sp_is_int_in Γ) (rCons (rVar 1) (rCons (rC (.int 0)) (rCons (rC c_MAX_SIZE) rNil))))))
 rNever
 rNext)
 (rSeq (rPar 2 3 (rCons (rCl (sp_zones Γ) (rCons (rVar 0) rNil)) (rCons (rLstM rNil) rNil)))
 (rSeq (rAsg (rLRg2 (rOp gSub (rC (.int 0)) (rVar 1)) (rOp gAdd (rVar 1) (rC (.int 1)))) (rGN 4))
 (rSeq (rFor (rILst (rVar 4)) (rGN 5)
 (rFor (rILst (rVar 4)) (rGN 6)
 (rIf (rB (rCl gAll (rCons (rLc (rILst (rVar 2)) (rGN 7) rTrue (rCl (sp_is_in_ring Γ) (rCons (rTup (rCons (rVar 5) (rCons (rVar 6) (rCons (rC (.int 1)) rNil)))) (rCons (rVar 7) rNil))) [7]) rNil)))
 (rDrop (rMut (rVar 3) (rCons (rTup (rCons (rVar 5) (rCons (rVar 6) (rCons (rC (.int 1)) rNil)))) rNil) gAppend))
 rNext)))
 (rRet (rFrz (rVar 3)))))))
/-- Chain.__getitem__(self, index) : 0 self, 1 index -/
def rd_Chain___getitem (Γ : CL) : RS := (rRet (rOp gIx (rFld Γ.Chain "arms" (rVar 0)) (rVar 1)))
/-- Arm.reaches(self, spot) : 0 self, 1 spot -/
def rd_Arm_reaches (Γ : CL) : RS := (rSeq (rDrop (rCl (sp_check_spot Γ) (rCons (rVar 1) rNil)))
 (rRet (rCl (sp_is_between Γ) (rCons (rCl (sp_size Γ) (rCons (rCl (sp_less Γ) (rCons (rVar 1) (rCons (rFld Γ.Arm "pole" (rVar 0)) rNil))) rNil)) (rCons (rFld Γ.Arm "near" (rVar 0)) (rCons (rFld Γ.Arm "far" (rVar 0)) rNil))))))
/-- reachable_spots(chain, limit), that may raise : 0 chain, 1 limit, 2 rings, 3 found, 4 numbers, 5 x, 6 y, 7 ring -/
def rdx_reachable_spots (Γ : CL) : RS := (rSeq (rIf (rNot (rB (rCl (sp_is_int_in Γ) (rCons (rVar 1) (rCons (rC (.int 0)) (rCons (rC c_MAX_SIZE) rNil))))))
 (rRaise (Γ.gx "InvalidSize"))
 rNext)
 (rSeq (rPar 2 3 (rCons (rCl (sp_zones Γ) (rCons (rVar 0) rNil)) (rCons (rLstM rNil) rNil)))
 (rSeq (rAsg (rLRg2 (rOp gSub (rC (.int 0)) (rVar 1)) (rOp gAdd (rVar 1) (rC (.int 1)))) (rGN 4))
 (rSeq (rFor (rILst (rVar 4)) (rGN 5)
 (rFor (rILst (rVar 4)) (rGN 6)
 (rIf (rB (rCl gAll (rCons (rLc (rILst (rVar 2)) (rGN 7) rTrue (rCl (sp_is_in_ring Γ) (rCons (rTup (rCons (rVar 5) (rCons (rVar 6) (rCons (rC (.int 1)) rNil)))) (rCons (rVar 7) rNil))) [7]) rNil)))
 (rDrop (rMut (rVar 3) (rCons (rTup (rCons (rVar 5) (rCons (rVar 6) (rCons (rC (.int 1)) rNil)))) rNil) gAppend))
 rNext)))
 (rRet (rFrz (rVar 3)))))))
/-- _law_drawing(_law_strokes) : 0 _law_strokes, 1 _law_drawing_here, 2 _law_stroke -/
def rd_law_drawingQ (Γ : CL) : RS := (rSeq (rAsg (rCl (gMakeS Γ.Drawing (sp_Drawing___init Γ)) rNil) (rGN 1))
 (rSeq (rFor (rISeq (rVar 0)) (rGN 2)
 (rAsg (rOp (gOwn2 Γ.Drawing (sp_Drawing___add Γ)) (rVar 1) (rCl (gMakeS Γ.Drawing (sp_Drawing___init Γ)) (rCons (rVar 2) rNil))) (rGN 1)))
 (rRet (rVar 1))))
end L3

/-! ## R_k20 -/
set_option Elab.async false
set_option linter.all false
set_option maxRecDepth 100000
set_option maxHeartbeats 4000000
namespace L3.K20
open PySem NM L2
def errL : List Nat := [9]
def rd_law_f1 (Γ : CL) : RS := (rSeq (rAsg (rCl (sp_law_missed Γ) (rCons (rVar 2) (rCons (rTup (rCons (rTup (rCons (rTup (rCons (rVar 8) (rCons (rVar 9) (rCons (rC (.int 1)) rNil)))) rNil)) rNil)) rNil))) (rGTup 2 (rGCons (rGN 10) (rGCons (rGN 11) rGNil))))
 (rAsg (rOp gAdd (rVar 7) (rOp gRep (rLst (rCons (rTup (rCons (rVar 8) (rCons (rVar 9) (rCons (rC (.int 1)) rNil)))) rNil)) (rCl gInt (rCons (rOp gIsN (rVar 10) (rC .non)) rNil)))) (rGN 7)))
def rd_law_f2 (Γ : CL) : RS := (rFor (rIRng2 (rCons (rOp gSub (rC (.int 0)) (rVar 5)) (rCons (rOp gAdd (rVar 5) (rC (.int 1))) rNil))) (rGN 9)
 (rd_law_f1 Γ))
def rd_law_t1 (Γ : CL) : RS := (rSeq (rAsg (rOp gIx (rLst (rCons (rOp gSub (rC (.int 0)) (rC (.int 1))) (rCons (rC (.int 21)) (rCons (rC .non) (rCons (rC (.bl true)) (rCons (rC (.str "3")) rNil)))))) (rCl (sp_law_below Γ) (rCons (rVar 1) (rCons (rC (.int 5)) rNil)))) (rGN 14))
 (rRet (rOp gEq (rErrOf Γ.tab lamQ (resE Γ errL) (rClX (spx_reachable_spots Γ) (rCons (rVar 4) (rCons (rVar 14) rNil)))) (rTup (rCons (rC (.str "size")) (rCons (rC (.int 0)) rNil))))))
def rd_law_t2 (Γ : CL) : RS := (rSeq (rAsg (rCl (gMakeS Γ.Chain (sp_Chain___init Γ)) (rCons (rMakeD (gMake Γ.Arm (sp_Arm___init Γ)) [.bl false] (rCons (rTup (rCons (rC (.int 0)) (rCons (rC (.int 0)) (rCons (rC (.int 1)) rNil)))) (rCons (rTup (rCons (rC (.int 1)) (rCons (rC (.int 0)) (rCons (rC (.int 1)) rNil)))) (rCons (rC (.int 0)) (rCons (rC (.int 20)) rNil))))) rNil)) (rGN 13))
 (rSeq (rIf (rB (rOp gNe (rCl gLen (rCons (rCl (sp_reachable_spots Γ) (rCons (rVar 13) (rCons (rC (.int 20)) rNil))) rNil)) (rCl gLen (rCons (rLc (rILst (rCl (sp_reachable_spots Γ) (rCons (rCl (gMakeS Γ.Chain (sp_Chain___init Γ)) rNil) (rCons (rC (.int 20)) rNil)))) (rGN 12) (rB (rMeth Γ.Arm "reaches" (sp_Arm_reaches Γ) (rOp (gOwnI Γ.Chain (sp_Chain___getitem Γ)) (rVar 13) (rC (.int 0))) (rCons (rVar 12) rNil))) (rVar 12) [12]) rNil))))
 (rRet (rC (.bl false)))
 rNext)
 (rd_law_t1 Γ)))
def rd_law_t3 (Γ : CL) : RS := (rSeq (rIf (rNot (rB (rCl (sp_law_equal Γ 5) (rCons (rVar 6) (rCons (rVar 7) rNil)))))
 (rRet (rC (.bl false)))
 rNext)
 (rSeq (rIf (rAnd (rB (rOp gNe (rVar 7) (rLst rNil))) (rNot (rB (rCl (sp_can_draw Γ) (rCons (rVar 4) (rCons (rCl (sp_law_drawingQ Γ) (rCons (rLc (rILst (rSl (rVar 7) rNoPart (rPart (rC (.int 12))))) (rGN 12) rTrue (rTup (rCons (rVar 12) rNil)) [12]) rNil)) rNil))))))
 (rRet (rC (.bl false)))
 rNext)
 (rd_law_t2 Γ)))
/-- law(_law_script) : 0 _law_script, 1 _law_d, 2 _law_tolds, 3 _law_k, 4 _law_chain_here, 5 _law_limit, 6 _law_found, 7 _law_due, 8 _law_x, 9 _law_y, 10 _law_missed_here, 11 _law_drawn, 12 _law_spot_here, 13 _law_wide, 14 _law_odd -/
def rd_law (Γ : CL) : RS := (rSeq (rAsg (rCl (sp_law_random Γ) (rCons (rVar 0) (rCons (rC (.int 20)) rNil))) (rGN 1))
 (rSeq (rAsg (rLc (rIRng1 (rCons (rCl (sp_law_below Γ) (rCons (rVar 1) (rCons (rC (.int 4)) rNil))) rNil)) (rGN 3) rTrue (rCl (sp_law_arm_told Γ) (rCons (rVar 1) rNil)) [3]) (rGN 2))
 (rSeq (rAsg (rTup (rCons (rCl (sp_law_chain Γ) (rCons (rVar 2) rNil)) (rCons (rCl (sp_law_below Γ) (rCons (rVar 1) (rCons (rC (.int 6)) rNil))) rNil))) (rGTup 2 (rGCons (rGN 4) (rGCons (rGN 5) rGNil))))
 (rSeq (rPar 6 7 (rCons (rCl (sp_reachable_spots Γ) (rCons (rVar 4) (rCons (rVar 5) rNil))) (rCons (rLst rNil) rNil)))
 (rSeq (rFor (rIRng2 (rCons (rOp gSub (rC (.int 0)) (rVar 5)) (rCons (rOp gAdd (rVar 5) (rC (.int 1))) rNil))) (rGN 8)
 (rd_law_f2 Γ))
 (rd_law_t3 Γ))))))

end L3.K20

/-! ## D_k20 -/
set_option Elab.async false
set_option linter.all false
set_option maxRecDepth 100000
set_option maxHeartbeats 4000000
namespace L3.K20
open PySem PySem.Spec PyProof.Rows L2 NM
structure Fc (K : PySem.W.Frag) (mg : Str → Option Value) (Γ : CL) : Prop where
  f_abs : mg "abs" = none
  f_len : mg "len" = none
  c_MAX_ARMS : ConstOk K mg "MAX_ARMS" c_MAX_ARMS
  cl_Chain : Cls K Γ.Chain
  n_Chain_arms : NoAttr K Γ.Chain "arms"
  f_bool : mg "bool" = none
  f_int : mg "int" = none
  f_isinstance : mg "isinstance" = none
  f_all : mg "all" = none
  f_tuple : mg "tuple" = none
  c_ZERO : ConstOk K mg "ZERO" c_ZERO
  c_MAX_REACH : ConstOk K mg "MAX_REACH" c_MAX_REACH_arms
  cl_Arm : Cls K Γ.Arm
  n_Arm_far : NoAttr K Γ.Arm "far"
  n_Arm_key : NoAttr K Γ.Arm "key"
  n_Arm_mirrored : NoAttr K Γ.Arm "mirrored"
  n_Arm_near : NoAttr K Γ.Arm "near"
  n_Arm_pole : NoAttr K Γ.Arm "pole"
  n_Arm_turn : NoAttr K Γ.Arm "turn"
  sf_Chain : PySem.W.selfFirst K Γ.Chain = true
  w_Chain___add : PySem.W.findIn K (.ref Γ.Chain) "__add__" = some (some (.ref (He.ma K Γ.Chain "__add__")))
  v_Chain___add : PySem.W.isFn K (.ref (He.ma K Γ.Chain "__add__")) = true
  cl_Copy : Cls K Γ.Copy
  n_Copy_key : NoAttr K Γ.Copy "key"
  n_Copy_mirrored : NoAttr K Γ.Copy "mirrored"
  n_Copy_shift : NoAttr K Γ.Copy "shift"
  n_Copy_turn : NoAttr K Γ.Copy "turn"
  c_ONE : ConstOk K mg "ONE" c_ONE
  sf_Copy : PySem.W.selfFirst K Γ.Copy = true
  w_Copy___rshift : PySem.W.findIn K (.ref Γ.Copy) "__rshift__" = some (some (.ref (He.ma K Γ.Copy "__rshift__")))
  v_Copy___rshift : PySem.W.isFn K (.ref (He.ma K Γ.Copy "__rshift__")) = true
  p_Arm_effect : PropOf K Γ.Arm "effect" (He.ma K Γ.Arm "effect") (gtA K Γ.Arm "effect")
  f_zip : mg "zip" = none
  w_Copy___invert : PySem.W.findIn K (.ref Γ.Copy) "__invert__" = some (some (.ref (He.ma K Γ.Copy "__invert__")))
  v_Copy___invert : PySem.W.isFn K (.ref (He.ma K Γ.Copy "__invert__")) = true
  p_Copy_growth : PropOf K Γ.Copy "growth" (He.ma K Γ.Copy "growth") (gtA K Γ.Copy "growth")
  c_MAX_SIZE : ConstOk K mg "MAX_SIZE" c_MAX_SIZE
  f_list : mg "list" = none
  f_range : mg "range" = none
  f_str : mg "str" = none
  cl_Drawing : Cls K Γ.Drawing
  n_Drawing_strokes : NoAttr K Γ.Drawing "strokes"
  c_MAX_SPOTS : ConstOk K mg "MAX_SPOTS" c_MAX_SPOTS
  f_any : mg "any" = none
  c_MAX_STROKES : ConstOk K mg "MAX_STROKES" c_MAX_STROKES
  f_enumerate : mg "enumerate" = none
  m_Drawing_copied : Meth K Γ.Drawing "copied" (He.ma K Γ.Drawing "copied")
  sf_Drawing : PySem.W.selfFirst K Γ.Drawing = true
  w_Drawing___add : PySem.W.findIn K (.ref Γ.Drawing) "__add__" = some (some (.ref (He.ma K Γ.Drawing "__add__")))
  v_Drawing___add : PySem.W.isFn K (.ref (He.ma K Γ.Drawing "__add__")) = true
  ek_InvalidSize : ErrA K (Γ.gx "InvalidSize") (Γ.gx "CopyError") Γ.gx 9
  u_Chain___getitem : PySem.W.fnIn K (He.ma K Γ.Chain "__getitem__") = true
  m_Arm_reaches : Meth K Γ.Arm "reaches" (He.ma K Γ.Arm "reaches")
  w_Chain___getitem : PySem.W.findIn K (.ref Γ.Chain) "__getitem__" = some (some (.ref (He.ma K Γ.Chain "__getitem__")))
  v_Chain___getitem : PySem.W.isFn K (.ref (He.ma K Γ.Chain "__getitem__")) = true
  x_InvalidSize : ExcG K mg "InvalidSize" (Γ.gx "InvalidSize")
  f_ValueError : mg "ValueError" = none
  gx_BadRow : mg "BadRow" = some (.ref (Γ.gx "BadRow"))
  gx_BadText : mg "BadText" = some (.ref (Γ.gx "BadText"))
  gx_Contradiction : mg "Contradiction" = some (.ref (Γ.gx "Contradiction"))
  gx_CopyError : mg "CopyError" = some (.ref (Γ.gx "CopyError"))
  gx_InvalidBox : mg "InvalidBox" = some (.ref (Γ.gx "InvalidBox"))
  gx_InvalidCode : mg "InvalidCode" = some (.ref (Γ.gx "InvalidCode"))
  gx_InvalidName : mg "InvalidName" = some (.ref (Γ.gx "InvalidName"))
  gx_InvalidOperation : mg "InvalidOperation" = some (.ref (Γ.gx "InvalidOperation"))
  gx_InvalidReach : mg "InvalidReach" = some (.ref (Γ.gx "InvalidReach"))
  gx_InvalidSize : mg "InvalidSize" = some (.ref (Γ.gx "InvalidSize"))
  gx_InvalidSpot : mg "InvalidSpot" = some (.ref (Γ.gx "InvalidSpot"))
  gx_InvalidStroke : mg "InvalidStroke" = some (.ref (Γ.gx "InvalidStroke"))
  gx_InvalidTimes : mg "InvalidTimes" = some (.ref (Γ.gx "InvalidTimes"))
  gx_InvalidTurn : mg "InvalidTurn" = some (.ref (Γ.gx "InvalidTurn"))
  gx_NotFree : mg "NotFree" = some (.ref (Γ.gx "NotFree"))
  gx_OpenStroke : mg "OpenStroke" = some (.ref (Γ.gx "OpenStroke"))
  gx_OutOfReach : mg "OutOfReach" = some (.ref (Γ.gx "OutOfReach"))
  gx_TooFew : mg "TooFew" = some (.ref (Γ.gx "TooFew"))
  gx_TooMany : mg "TooMany" = some (.ref (Γ.gx "TooMany"))
  gx_UnknownArm : mg "UnknownArm" = some (.ref (Γ.gx "UnknownArm"))
  gx_UnknownName : mg "UnknownName" = some (.ref (Γ.gx "UnknownName"))
theorem sc_law_random : FnScope ["_law_script", "_law_salt", "_law_seed", "_law_cell"] ["_law_script", "_law_salt"] (defScope (top 73)) := ⟨rfl, rfl, rfl, by decide +kernel, rfl, by decide +kernel, by decide +kernel⟩
theorem sc_law_below : FnScope ["_law_d", "_law_limit", "_law_result"] ["_law_d", "_law_limit"] (defScope (top 74)) := ⟨rfl, rfl, rfl, by decide +kernel, rfl, by decide +kernel, by decide +kernel⟩
theorem sc_law_step : FnScope ["_law_d", "_law_size_now"] ["_law_d", "_law_size_now"] (defScope (top 75)) := ⟨rfl, rfl, rfl, by decide +kernel, rfl, by decide +kernel, by decide +kernel⟩
theorem sc_law_common : FnScope ["_law_one", "_law_other"] ["_law_one", "_law_other"] (defScope (top 76)) := ⟨rfl, rfl, rfl, by decide +kernel, rfl, by decide +kernel, by decide +kernel⟩
theorem sc_law_lowest : FnScope ["_law_x", "_law_y", "_law_q", "_law_common_now"] ["_law_x", "_law_y", "_law_q"] (defScope (top 77)) := ⟨rfl, rfl, rfl, by decide +kernel, rfl, by decide +kernel, by decide +kernel⟩
theorem sc_law_spot : FnScope ["_law_d", "_law_below_here"] ["_law_d"] (defScope (top 78)) := ⟨rfl, rfl, rfl, by decide +kernel, rfl, by decide +kernel, by decide +kernel⟩
theorem sc_law_turn : FnScope ["_law_d", "_law_some"] ["_law_d"] (defScope (top 79)) := ⟨rfl, rfl, rfl, by decide +kernel, rfl, by decide +kernel, by decide +kernel⟩
theorem sc_law_arm_told : FnScope ["_law_d", "_law_near_here", "_law_pole"] ["_law_d"] (defScope (top 80)) := ⟨rfl, rfl, rfl, by decide +kernel, rfl, by decide +kernel, by decide +kernel⟩
theorem sc_Chain___init : FnScope ["self", "arms"] ["self", "arms"] (defScope (inClass (top 60) 0)) := ⟨rfl, rfl, rfl, by decide +kernel, rfl, by decide +kernel, by decide +kernel⟩
theorem sc_is_int : FnScope ["value"] ["value"] (defScope (top 25)) := ⟨rfl, rfl, rfl, by decide +kernel, rfl, by decide +kernel, by decide +kernel⟩
theorem sc_common_divisor : FnScope ["one", "other"] ["one", "other"] (defScope (top 26)) := ⟨rfl, rfl, rfl, by decide +kernel, rfl, by decide +kernel, by decide +kernel⟩
theorem sc_lowest : FnScope ["x", "y", "d", "divisor", "sign"] ["x", "y", "d"] (defScope (top 29)) := ⟨rfl, rfl, rfl, by decide +kernel, rfl, by decide +kernel, by decide +kernel⟩
theorem sc_is_number : FnScope ["value", "part"] ["value"] (defScope (top 32)) := ⟨rfl, rfl, rfl, by decide +kernel, rfl, by decide +kernel, by decide +kernel⟩
theorem sc_check_spot : FnScope ["value"] ["value"] (defScope (top 43)) := ⟨rfl, rfl, rfl, by decide +kernel, rfl, by decide +kernel, by decide +kernel⟩
theorem sc_check_turn : FnScope ["value"] ["value"] (defScope (top 44)) := ⟨rfl, rfl, rfl, by decide +kernel, rfl, by decide +kernel, by decide +kernel⟩
theorem sc_is_int_in : FnScope ["value", "low", "high"] ["value", "low", "high"] (defScope (top 24)) := ⟨rfl, rfl, rfl, by decide +kernel, rfl, by decide +kernel, by decide +kernel⟩
theorem sc_Arm___init : FnScope ["self", "pole", "turn", "near", "far", "mirrored"] ["self", "pole", "turn", "near", "far", "mirrored"] (defScope (inClass (top 49) 0)) := ⟨rfl, rfl, rfl, by decide +kernel, rfl, by decide +kernel, by decide +kernel⟩
theorem sc_law_arm : FnScope ["_law_told"] ["_law_told"] (defScope (top 81)) := ⟨rfl, rfl, rfl, by decide +kernel, rfl, by decide +kernel, by decide +kernel⟩
theorem sc_Chain___add : FnScope ["self", "other", "arms"] ["self", "other"] (defScope (inClass (top 60) 5)) := ⟨rfl, rfl, rfl, by decide +kernel, rfl, by decide +kernel, by decide +kernel⟩
theorem sc_law_chain : FnScope ["_law_tolds", "_law_chain_here", "_law_told"] ["_law_tolds"] (defScope (top 82)) := ⟨rfl, rfl, rfl, by decide +kernel, rfl, by decide +kernel, by decide +kernel⟩
theorem sc_Copy___init : FnScope ["self", "turn", "shift", "mirrored"] ["self", "turn", "shift", "mirrored"] (defScope (inClass (top 46) 0)) := ⟨rfl, rfl, rfl, by decide +kernel, rfl, by decide +kernel, by decide +kernel⟩
theorem sc_multiplied : FnScope ["one", "other", "x"] ["one", "other"] (defScope (top 36)) := ⟨rfl, rfl, rfl, by decide +kernel, rfl, by decide +kernel, by decide +kernel⟩
theorem sc_turned_over : FnScope ["one"] ["one"] (defScope (top 37)) := ⟨rfl, rfl, rfl, by decide +kernel, rfl, by decide +kernel, by decide +kernel⟩
theorem sc_added : FnScope ["one", "other"] ["one", "other"] (defScope (top 33)) := ⟨rfl, rfl, rfl, by decide +kernel, rfl, by decide +kernel, by decide +kernel⟩
theorem sc_opposite : FnScope ["one"] ["one"] (defScope (top 34)) := ⟨rfl, rfl, rfl, by decide +kernel, rfl, by decide +kernel, by decide +kernel⟩
theorem sc_less : FnScope ["one", "other"] ["one", "other"] (defScope (top 35)) := ⟨rfl, rfl, rfl, by decide +kernel, rfl, by decide +kernel, by decide +kernel⟩
theorem sc_copy_about : FnScope ["pole", "turn", "mirrored", "carried"] ["pole", "turn", "mirrored"] (defScope (top 50)) := ⟨rfl, rfl, rfl, by decide +kernel, rfl, by decide +kernel, by decide +kernel⟩
theorem sc_Arm_effect : FnScope ["self"] ["self"] (defScope (inClass (top 49) 1)) := ⟨rfl, rfl, rfl, by decide +kernel, rfl, by decide +kernel, by decide +kernel⟩
theorem sc_carried : FnScope ["copy", "spot"] ["copy", "spot"] (defScope (top 45)) := ⟨rfl, rfl, rfl, by decide +kernel, rfl, by decide +kernel, by decide +kernel⟩
theorem sc_Copy___rshift : FnScope ["self", "other", "turn"] ["self", "other"] (defScope (inClass (top 46) 3)) := ⟨rfl, rfl, rfl, by decide +kernel, rfl, by decide +kernel, by decide +kernel⟩
theorem sc_copies_ahead : FnScope ["arms", "found", "arm"] ["arms"] (defScope (top 61)) := ⟨rfl, rfl, rfl, by decide +kernel, rfl, by decide +kernel, by decide +kernel⟩
theorem sc_ratio : FnScope ["numerator", "denominator", "divisor"] ["numerator", "denominator"] (defScope (top 28)) := ⟨rfl, rfl, rfl, by decide +kernel, rfl, by decide +kernel, by decide +kernel⟩
theorem sc_size : FnScope ["one"] ["one"] (defScope (top 39)) := ⟨rfl, rfl, rfl, by decide +kernel, rfl, by decide +kernel, by decide +kernel⟩
theorem sc_Copy_growth : FnScope ["self"] ["self"] (defScope (inClass (top 46) 5)) := ⟨rfl, rfl, rfl, by decide +kernel, rfl, by decide +kernel, by decide +kernel⟩
theorem sc_inverse : FnScope ["one"] ["one"] (defScope (top 38)) := ⟨rfl, rfl, rfl, by decide +kernel, rfl, by decide +kernel, by decide +kernel⟩
theorem sc_Copy___invert : FnScope ["self", "back", "shift"] ["self"] (defScope (inClass (top 46) 4)) := ⟨rfl, rfl, rfl, by decide +kernel, rfl, by decide +kernel, by decide +kernel⟩
theorem sc_zones : FnScope ["chain", "found", "arm", "ahead", "growth", "ends", "reach"] ["chain"] (defScope (top 62)) := ⟨rfl, rfl, rfl, by decide +kernel, rfl, by decide +kernel, by decide +kernel⟩
theorem sc_is_less : FnScope ["one", "other"] ["one", "other"] (defScope (top 40)) := ⟨rfl, rfl, rfl, by decide +kernel, rfl, by decide +kernel, by decide +kernel⟩
theorem sc_is_in_ring : FnScope ["spot", "ring", "distance"] ["spot", "ring"] (defScope (top 64)) := ⟨rfl, rfl, rfl, by decide +kernel, rfl, by decide +kernel, by decide +kernel⟩
theorem sc_reachable_spots : FnScope ["chain", "limit", "rings", "found", "numbers", "x", "y", "ring"] ["chain", "limit"] (defScope (top 63)) := ⟨rfl, rfl, rfl, by decide +kernel, rfl, by decide +kernel, by decide +kernel⟩
theorem sc_law_ratio : FnScope ["_law_p", "_law_q"] ["_law_p", "_law_q"] (defScope (top 83)) := ⟨rfl, rfl, rfl, by decide +kernel, rfl, by decide +kernel, by decide +kernel⟩
theorem sc_law_size : FnScope ["_law_one"] ["_law_one"] (defScope (top 84)) := ⟨rfl, rfl, rfl, by decide +kernel, rfl, by decide +kernel, by decide +kernel⟩
theorem sc_law_plus : FnScope ["_law_one", "_law_other", "_law_x", "_law_y"] ["_law_one", "_law_other"] (defScope (top 85)) := ⟨rfl, rfl, rfl, by decide +kernel, rfl, by decide +kernel, by decide +kernel⟩
theorem sc_law_minus : FnScope ["_law_one", "_law_other"] ["_law_one", "_law_other"] (defScope (top 86)) := ⟨rfl, rfl, rfl, by decide +kernel, rfl, by decide +kernel, by decide +kernel⟩
theorem sc_law_less : FnScope ["_law_one", "_law_other"] ["_law_one", "_law_other"] (defScope (top 87)) := ⟨rfl, rfl, rfl, by decide +kernel, rfl, by decide +kernel, by decide +kernel⟩
theorem sc_law_reached : FnScope ["_law_told", "_law_spot_here", "_law_distance"] ["_law_told", "_law_spot_here"] (defScope (top 88)) := ⟨rfl, rfl, rfl, by decide +kernel, rfl, by decide +kernel, by decide +kernel⟩
theorem sc_law_times : FnScope ["_law_one", "_law_other", "_law_x", "_law_y"] ["_law_one", "_law_other"] (defScope (top 89)) := ⟨rfl, rfl, rfl, by decide +kernel, rfl, by decide +kernel, by decide +kernel⟩
theorem sc_law_over : FnScope ["_law_one"] ["_law_one"] (defScope (top 90)) := ⟨rfl, rfl, rfl, by decide +kernel, rfl, by decide +kernel, by decide +kernel⟩
theorem sc_law_near : FnScope ["_law_pole", "_law_one", "_law_other", "_law_way", "_law_here", "_law_along", "_law_length", "_law_ends"] ["_law_pole", "_law_one", "_law_other"] (defScope (top 91)) := ⟨rfl, rfl, rfl, by decide +kernel, rfl, by decide +kernel, by decide +kernel⟩
theorem sc_law_traced : FnScope ["_law_told", "_law_stroke", "_law_k", "_law_least_far"] ["_law_told", "_law_stroke"] (defScope (top 92)) := ⟨rfl, rfl, rfl, by decide +kernel, rfl, by decide +kernel, by decide +kernel⟩
theorem sc_law_about : FnScope ["_law_told", "_law_pole", "_law_turn_here", "_law_near_here", "_law_far", "_law_flipped", "_law_carried_to"] ["_law_told"] (defScope (top 93)) := ⟨rfl, rfl, rfl, by decide +kernel, rfl, by decide +kernel, by decide +kernel⟩
theorem sc_law_carried : FnScope ["_law_told", "_law_spot_here"] ["_law_told", "_law_spot_here"] (defScope (top 94)) := ⟨rfl, rfl, rfl, by decide +kernel, rfl, by decide +kernel, by decide +kernel⟩
theorem sc_law_moved : FnScope ["_law_told", "_law_strokes", "_law_found", "_law_stroke", "_law_spot_here"] ["_law_told", "_law_strokes"] (defScope (top 95)) := ⟨rfl, rfl, rfl, by decide +kernel, rfl, by decide +kernel, by decide +kernel⟩
theorem sc_law_missed : FnScope ["_law_tolds", "_law_strokes", "_law_number", "_law_index", "_law_part", "_law_told"] ["_law_tolds", "_law_strokes"] (defScope (top 96)) := ⟨rfl, rfl, rfl, by decide +kernel, rfl, by decide +kernel, by decide +kernel⟩
theorem sc_law_equal : FnScope ["_law_actual", "_law_expected", "_law_k"] ["_law_actual", "_law_expected"] (defScope (top 97)) := ⟨rfl, rfl, rfl, by decide +kernel, rfl, by decide +kernel, by decide +kernel⟩
theorem sc_parts_of : FnScope ["stroke"] ["stroke"] (defScope (top 54)) := ⟨rfl, rfl, rfl, by decide +kernel, rfl, by decide +kernel, by decide +kernel⟩
theorem sc_farthest : FnScope ["pole", "one", "other", "distances"] ["pole", "one", "other"] (defScope (top 53)) := ⟨rfl, rfl, rfl, by decide +kernel, rfl, by decide +kernel, by decide +kernel⟩
theorem sc_common_multiple : FnScope ["values", "found", "value"] ["values"] (defScope (top 27)) := ⟨rfl, rfl, rfl, by decide +kernel, rfl, by decide +kernel, by decide +kernel⟩
theorem sc_least : FnScope ["one", "other"] ["one", "other"] (defScope (top 41)) := ⟨rfl, rfl, rfl, by decide +kernel, rfl, by decide +kernel, by decide +kernel⟩
theorem sc_nearest : FnScope ["pole", "one", "other", "scale", "spots", "spot", "right", "up", "across", "high", "length", "along", "aside"] ["pole", "one", "other"] (defScope (top 52)) := ⟨rfl, rfl, rfl, by decide +kernel, rfl, by decide +kernel, by decide +kernel⟩
theorem sc_span : FnScope ["pole", "part"] ["pole", "part"] (defScope (top 55)) := ⟨rfl, rfl, rfl, by decide +kernel, rfl, by decide +kernel, by decide +kernel⟩
theorem sc_touched_span : FnScope ["pole", "drawing", "found", "stroke", "part", "low", "high"] ["pole", "drawing"] (defScope (top 56)) := ⟨rfl, rfl, rfl, by decide +kernel, rfl, by decide +kernel, by decide +kernel⟩
theorem sc_check_stroke : FnScope ["stroke", "index", "spot", "e", "is_still", "one", "other"] ["stroke", "index"] (defScope (top 70)) := ⟨rfl, rfl, rfl, by decide +kernel, rfl, by decide +kernel, by decide +kernel⟩
theorem sc_Drawing___init : FnScope ["self", "strokes", "index", "stroke"] ["self", "strokes"] (defScope (inClass (top 71) 0)) := ⟨rfl, rfl, rfl, by decide +kernel, rfl, by decide +kernel, by decide +kernel⟩
theorem sc_Drawing_copied : FnScope ["self", "copy", "strokes", "spot", "stroke"] ["self", "copy"] (defScope (inClass (top 71) 8)) := ⟨rfl, rfl, rfl, by decide +kernel, rfl, by decide +kernel, by decide +kernel⟩
theorem sc_needed_reach : FnScope ["chain", "drawing", "found", "arm"] ["chain", "drawing"] (defScope (top 65)) := ⟨rfl, rfl, rfl, by decide +kernel, rfl, by decide +kernel, by decide +kernel⟩
theorem sc_is_between : FnScope ["distance", "near", "far"] ["distance", "near", "far"] (defScope (top 51)) := ⟨rfl, rfl, rfl, by decide +kernel, rfl, by decide +kernel, by decide +kernel⟩
theorem sc_can_draw : FnScope ["chain", "drawing", "arm", "found", "distance"] ["chain", "drawing"] (defScope (top 66)) := ⟨rfl, rfl, rfl, by decide +kernel, rfl, by decide +kernel, by decide +kernel⟩
theorem sc_Drawing___add : FnScope ["self", "other", "strokes"] ["self", "other"] (defScope (inClass (top 71) 5)) := ⟨rfl, rfl, rfl, by decide +kernel, rfl, by decide +kernel, by decide +kernel⟩
theorem sc_law_drawingQ : FnScope ["_law_strokes", "_law_drawing_here", "_law_stroke"] ["_law_strokes"] (defScope (top 98)) := ⟨rfl, rfl, rfl, by decide +kernel, rfl, by decide +kernel, by decide +kernel⟩
theorem sc_Chain___getitem : FnScope ["self", "index"] ["self", "index"] (defScope (inClass (top 60) 2)) := ⟨rfl, rfl, rfl, by decide +kernel, rfl, by decide +kernel, by decide +kernel⟩
theorem sc_Arm_reaches : FnScope ["self", "spot"] ["self", "spot"] (defScope (inClass (top 49) 3)) := ⟨rfl, rfl, rfl, by decide +kernel, rfl, by decide +kernel, by decide +kernel⟩
theorem sc_law : FnScope ["_law_script", "_law_d", "_law_tolds", "_law_k", "_law_chain_here", "_law_limit", "_law_found", "_law_due", "_law_x", "_law_y", "_law_missed_here", "_law_drawn", "_law_spot_here", "_law_wide", "_law_odd"] ["_law_script"] (defScope (top 100)) := ⟨rfl, rfl, rfl, by decide +kernel, rfl, by decide +kernel, by decide +kernel⟩
theorem sc_law_error_of : FnScope ["_law_call", "e", "_law_kinds", "_law_names", "_law_name"] ["_law_call"] (defScope (top 99)) := ⟨rfl, rfl, rfl, by decide +kernel, rfl, by decide +kernel, by decide +kernel⟩
section
variable {P : Program} {w : World} {K : PySem.W.Frag} {mg : Str → Option Value} {base : Heap} {f : Addr}

theorem gv_err (Γ : CL) {X : Cx} (T : Fc X.K X.mg Γ) (hA : X.A.units + 200 < cLine) {g : Addr} {cdg : Value} (q : Str) : LamX.GivesTo X ["_law_call", "e", "_law_kinds", "_law_names", "_law_name"] "_law_error_of" (defScope (top 99)) g cdg (defBody (top 99)) "_law_call" q (TErr X.K (resE Γ errL)) := by
  refine err_gives (sg := defScope (top 99)) (Ng := ["_law_call", "e", "_law_kinds", "_law_names", "_law_name"]) (i := 1) sc_law_error_of.nd rfl rfl rfl T.gx_CopyError (by decide) (fun _ => rfl) (fun C fs v r => ?_) (fun s H => ps_ret pe_non) (fun s H C fs v r => ?_)
  · obtain ⟨p, hp, ds, hl, rfl, rfl, rfl⟩ := r
    simp only [errL, List.mem_cons, List.not_mem_nil, or_false] at hp
    subst hp
    · exact T.ek_InvalidSize.k.ce
  · obtain ⟨p, hp, ds, hl, rfl, rfl, rfl⟩ := r
    simp only [errL, List.mem_cons, List.not_mem_nil, or_false] at hp
    subst hp
    · refine suOk_ofF (rd := fun a => rd_errF a (((attrNs 9).zip ds).reverse) (fun j => decide (j = 9))) (fun a oe d pn hz hf hd2 => ?_) (fun a μ DD q => vcF_9 hl a μ DD q)
      have XC := T.ek_InvalidSize.k.xc
      have hve := T.ek_InvalidSize.k.ve
      have hk := T.ek_InvalidSize.k.ks
      have hat := T.ek_InvalidSize.at
      have hr : UR (X.A.deeper (envOfC "_law_error_of" (defScope (top 99)) s.heap.objs.size g cdg)).units := ⟨by show X.A.units + 3 + 64 < cLine; omega, by show X.A.units + 3 + 65 < cLine; omega⟩
      exact (dssf_cons (dsf_set (i := 2) sc_law_error_of.nd (def_lst (daf_cons (def_isE (X := (cxOf C8.CX0 X.prog X.w X.K X.mg X.base ["_law_call", "e", "_law_kinds", "_law_names", "_law_name"] "_law_error_of" (defScope (top 99)) g cdg X.A X.stack s H C8.E0).nox) hd2 T.f_isinstance rfl XC hz hf T.gx_InvalidSpot (hk 0 (by decide)) rfl (de_var 1)) (daf_cons (def_isE (X := (cxOf C8.CX0 X.prog X.w X.K X.mg X.base ["_law_call", "e", "_law_kinds", "_law_names", "_law_name"] "_law_error_of" (defScope (top 99)) g cdg X.A X.stack s H C8.E0).nox) hd2 T.f_isinstance rfl XC hz hf T.gx_InvalidTurn (hk 1 (by decide)) rfl (de_var 1)) (daf_cons (def_isE (X := (cxOf C8.CX0 X.prog X.w X.K X.mg X.base ["_law_call", "e", "_law_kinds", "_law_names", "_law_name"] "_law_error_of" (defScope (top 99)) g cdg X.A X.stack s H C8.E0).nox) hd2 T.f_isinstance rfl XC hz hf T.gx_InvalidTimes (hk 2 (by decide)) rfl (de_var 1)) daf_nil)))))
 (dssf_cons (dsf_set (i := 2) sc_law_error_of.nd (def_add (def_no (de_var 2)) (def_lst (daf_cons (def_isE (X := (cxOf C8.CX0 X.prog X.w X.K X.mg X.base ["_law_call", "e", "_law_kinds", "_law_names", "_law_name"] "_law_error_of" (defScope (top 99)) g cdg X.A X.stack s H C8.E0).nox) hd2 T.f_isinstance rfl XC hz hf T.gx_TooFew (hk 3 (by decide)) rfl (de_var 1)) (daf_cons (def_isE (X := (cxOf C8.CX0 X.prog X.w X.K X.mg X.base ["_law_call", "e", "_law_kinds", "_law_names", "_law_name"] "_law_error_of" (defScope (top 99)) g cdg X.A X.stack s H C8.E0).nox) hd2 T.f_isinstance rfl XC hz hf T.gx_InvalidStroke (hk 4 (by decide)) rfl (de_var 1)) (daf_cons (def_isE (X := (cxOf C8.CX0 X.prog X.w X.K X.mg X.base ["_law_call", "e", "_law_kinds", "_law_names", "_law_name"] "_law_error_of" (defScope (top 99)) g cdg X.A X.stack s H C8.E0).nox) hd2 T.f_isinstance rfl XC hz hf T.gx_OpenStroke (hk 5 (by decide)) rfl (de_var 1)) daf_nil))))))
 (dssf_cons (dsf_set (i := 2) sc_law_error_of.nd (def_add (def_no (de_var 2)) (def_lst (daf_cons (def_isE (X := (cxOf C8.CX0 X.prog X.w X.K X.mg X.base ["_law_call", "e", "_law_kinds", "_law_names", "_law_name"] "_law_error_of" (defScope (top 99)) g cdg X.A X.stack s H C8.E0).nox) hd2 T.f_isinstance rfl XC hz hf T.gx_InvalidReach (hk 6 (by decide)) rfl (de_var 1)) (daf_cons (def_isE (X := (cxOf C8.CX0 X.prog X.w X.K X.mg X.base ["_law_call", "e", "_law_kinds", "_law_names", "_law_name"] "_law_error_of" (defScope (top 99)) g cdg X.A X.stack s H C8.E0).nox) hd2 T.f_isinstance rfl XC hz hf T.gx_OutOfReach (hk 7 (by decide)) rfl (de_var 1)) (daf_cons (def_isE (X := (cxOf C8.CX0 X.prog X.w X.K X.mg X.base ["_law_call", "e", "_law_kinds", "_law_names", "_law_name"] "_law_error_of" (defScope (top 99)) g cdg X.A X.stack s H C8.E0).nox) hd2 T.f_isinstance rfl XC hz hf T.gx_TooMany (hk 8 (by decide)) rfl (de_var 1)) daf_nil))))))
 (dssf_cons (dsf_set (i := 2) sc_law_error_of.nd (def_add (def_no (de_var 2)) (def_lst (daf_cons (def_isE (X := (cxOf C8.CX0 X.prog X.w X.K X.mg X.base ["_law_call", "e", "_law_kinds", "_law_names", "_law_name"] "_law_error_of" (defScope (top 99)) g cdg X.A X.stack s H C8.E0).nox) hd2 T.f_isinstance rfl XC hz hf T.gx_InvalidSize (hk 9 (by decide)) rfl (de_var 1)) (daf_cons (def_isE (X := (cxOf C8.CX0 X.prog X.w X.K X.mg X.base ["_law_call", "e", "_law_kinds", "_law_names", "_law_name"] "_law_error_of" (defScope (top 99)) g cdg X.A X.stack s H C8.E0).nox) hd2 T.f_isinstance rfl XC hz hf T.gx_InvalidBox (hk 10 (by decide)) rfl (de_var 1)) (daf_cons (def_isE (X := (cxOf C8.CX0 X.prog X.w X.K X.mg X.base ["_law_call", "e", "_law_kinds", "_law_names", "_law_name"] "_law_error_of" (defScope (top 99)) g cdg X.A X.stack s H C8.E0).nox) hd2 T.f_isinstance rfl XC hz hf T.gx_Contradiction (hk 11 (by decide)) rfl (de_var 1)) daf_nil))))))
 (dssf_cons (dsf_set (i := 2) sc_law_error_of.nd (def_add (def_no (de_var 2)) (def_lst (daf_cons (def_isE (X := (cxOf C8.CX0 X.prog X.w X.K X.mg X.base ["_law_call", "e", "_law_kinds", "_law_names", "_law_name"] "_law_error_of" (defScope (top 99)) g cdg X.A X.stack s H C8.E0).nox) hd2 T.f_isinstance rfl XC hz hf T.gx_BadText (hk 12 (by decide)) rfl (de_var 1)) (daf_cons (def_isE (X := (cxOf C8.CX0 X.prog X.w X.K X.mg X.base ["_law_call", "e", "_law_kinds", "_law_names", "_law_name"] "_law_error_of" (defScope (top 99)) g cdg X.A X.stack s H C8.E0).nox) hd2 T.f_isinstance rfl XC hz hf T.gx_BadRow (hk 13 (by decide)) rfl (de_var 1)) (daf_cons (def_isE (X := (cxOf C8.CX0 X.prog X.w X.K X.mg X.base ["_law_call", "e", "_law_kinds", "_law_names", "_law_name"] "_law_error_of" (defScope (top 99)) g cdg X.A X.stack s H C8.E0).nox) hd2 T.f_isinstance rfl XC hz hf T.gx_UnknownName (hk 14 (by decide)) rfl (de_var 1)) daf_nil))))))
 (dssf_cons (dsf_set (i := 2) sc_law_error_of.nd (def_add (def_no (de_var 2)) (def_lst (daf_cons (def_isE (X := (cxOf C8.CX0 X.prog X.w X.K X.mg X.base ["_law_call", "e", "_law_kinds", "_law_names", "_law_name"] "_law_error_of" (defScope (top 99)) g cdg X.A X.stack s H C8.E0).nox) hd2 T.f_isinstance rfl XC hz hf T.gx_InvalidName (hk 15 (by decide)) rfl (de_var 1)) (daf_cons (def_isE (X := (cxOf C8.CX0 X.prog X.w X.K X.mg X.base ["_law_call", "e", "_law_kinds", "_law_names", "_law_name"] "_law_error_of" (defScope (top 99)) g cdg X.A X.stack s H C8.E0).nox) hd2 T.f_isinstance rfl XC hz hf T.gx_InvalidCode (hk 16 (by decide)) rfl (de_var 1)) (daf_cons (def_isE (X := (cxOf C8.CX0 X.prog X.w X.K X.mg X.base ["_law_call", "e", "_law_kinds", "_law_names", "_law_name"] "_law_error_of" (defScope (top 99)) g cdg X.A X.stack s H C8.E0).nox) hd2 T.f_isinstance rfl XC hz hf T.gx_UnknownArm (hk 17 (by decide)) rfl (de_var 1)) daf_nil))))))
 (dssf_cons (dsf_set (i := 2) sc_law_error_of.nd (def_add (def_no (de_var 2)) (def_lst (daf_cons (def_isE (X := (cxOf C8.CX0 X.prog X.w X.K X.mg X.base ["_law_call", "e", "_law_kinds", "_law_names", "_law_name"] "_law_error_of" (defScope (top 99)) g cdg X.A X.stack s H C8.E0).nox) hd2 T.f_isinstance rfl XC hz hf T.gx_NotFree (hk 18 (by decide)) rfl (de_var 1)) (daf_cons (def_isE (X := (cxOf C8.CX0 X.prog X.w X.K X.mg X.base ["_law_call", "e", "_law_kinds", "_law_names", "_law_name"] "_law_error_of" (defScope (top 99)) g cdg X.A X.stack s H C8.E0).nox) hd2 T.f_isinstance rfl XC hz hf T.gx_InvalidOperation (hk 19 (by decide)) rfl (de_var 1)) daf_nil)))))
 (dssf_cons (dsf_ifF (dtf_w (dwf_or (dtf_no (dt_ne hr.units (de_count (X := (cxOf C8.CX0 X.prog X.w X.K X.mg X.base ["_law_call", "e", "_law_kinds", "_law_names", "_law_name"] "_law_error_of" (defScope (top 99)) g cdg X.A X.stack s H C8.E0).nox.suite a ((a, oe) :: pn)) hr.u65 (de_var 2) (da_cons de_bl da_nil)) de_int)) (dwf_or1 (dtf_not (dtf_val (def_isEV (X := (cxOf C8.CX0 X.prog X.w X.K X.mg X.base ["_law_call", "e", "_law_kinds", "_law_names", "_law_name"] "_law_error_of" (defScope (top 99)) g cdg X.A X.stack s H C8.E0).nox) (n := "ValueError") hd2 T.f_isinstance rfl XC hz hf T.f_ValueError (by decide +kernel) hve rfl (de_var 1)))))))
 (dssf_one (dsf_no ds_never))
 dssf_nil)
 (dssf_cons (dsf_set (i := 3) sc_law_error_of.nd (def_lst (daf_cons (def_no de_str) (daf_cons (def_no de_str) (daf_cons (def_no de_str) (daf_cons (def_no de_str) (daf_cons (def_no de_str) (daf_cons (def_no de_str) (daf_cons (def_no de_str) (daf_cons (def_no de_str) (daf_cons (def_no de_str) (daf_cons (def_no de_str) (daf_cons (def_no de_str) (daf_cons (def_no de_str) daf_nil))))))))))))))
 (dssf_cons (dsf_set (i := 3) sc_law_error_of.nd (def_add (def_no (de_var 3)) (def_lst (daf_cons (def_no de_str) (daf_cons (def_no de_str) (daf_cons (def_no de_str) (daf_cons (def_no de_str) (daf_cons (def_no de_str) (daf_cons (def_no de_str) (daf_cons (def_no de_str) (daf_cons (def_no de_str) daf_nil)))))))))))
 (dssf_cons (dsf_set (i := 4) sc_law_error_of.nd (def_no (de_ix (de_var 3) (de_index (X := (cxOf C8.CX0 X.prog X.w X.K X.mg X.base ["_law_call", "e", "_law_kinds", "_law_names", "_law_name"] "_law_error_of" (defScope (top 99)) g cdg X.A X.stack s H C8.E0).nox.suite a ((a, oe) :: pn)) hr.u65 (de_var 2) (da_cons de_bl da_nil)))))
 (dssf_cons (dsf_ifF (dtf_no (dt_eq hr.units (de_var 4) de_str))
 (dssf_one (dsf_A1 (X := (cxOf C8.CX0 X.prog X.w X.K X.mg X.base ["_law_call", "e", "_law_kinds", "_law_names", "_law_name"] "_law_error_of" (defScope (top 99)) g cdg X.A X.stack s H C8.E0).nox) (i := 1) (hat "index" (by decide)) hz hf (de_var 4)))
 dssf_nil)
 (dssf_cons (dsf_ifF (dtf_no (dt_eq hr.units (de_var 4) de_str))
 (dssf_one (dsf_A3 (X := (cxOf C8.CX0 X.prog X.w X.K X.mg X.base ["_law_call", "e", "_law_kinds", "_law_names", "_law_name"] "_law_error_of" (defScope (top 99)) g cdg X.A X.stack s H C8.E0).nox) (i := 1) (hat "arm" (by decide)) (hat "stroke" (by decide)) (hat "part" (by decide)) hz hf (de_var 4)))
 dssf_nil)
 (dssf_cons (dsf_ifF (dtf_no (dt_eq hr.units (de_var 4) de_str))
 (dssf_one (dsf_A2 (X := (cxOf C8.CX0 X.prog X.w X.K X.mg X.base ["_law_call", "e", "_law_kinds", "_law_names", "_law_name"] "_law_error_of" (defScope (top 99)) g cdg X.A X.stack s H C8.E0).nox) (i := 1) (hat "row" (by decide)) (hat "word" (by decide)) hz hf (de_var 4)))
 dssf_nil)
 (dssf_cons (dsf_ifF (dtf_no (dt_eq hr.units (de_var 4) de_str))
 (dssf_one (dsf_A2 (X := (cxOf C8.CX0 X.prog X.w X.K X.mg X.base ["_law_call", "e", "_law_kinds", "_law_names", "_law_name"] "_law_error_of" (defScope (top 99)) g cdg X.A X.stack s H C8.E0).nox) (i := 1) (hat "row" (by decide)) (hat "reason" (by decide)) hz hf (de_var 4)))
 dssf_nil)
 (dssf_one (dsf_AI (X := (cxOf C8.CX0 X.prog X.w X.K X.mg X.base ["_law_call", "e", "_law_kinds", "_law_names", "_law_name"] "_law_error_of" (defScope (top 99)) g cdg X.A X.stack s H C8.E0).nox) (i := 1) (hat "place" (by decide)) hz hf (de_var 4) (dt_in hr.u65 (de_var 4) (de_lst (da_cons de_str (da_cons de_str da_nil)))) de_int)))))))))))))))))
theorem dvx_reachable_spots (Γ : CL) (T : Fc K mg Γ) (G_is_int_in : FnG P w K mg base 1 "is_int_in" (sp_is_int_in Γ)) (G_zones : FnG P w K mg base 11 "zones" (sp_zones Γ)) (G_is_in_ring : FnG P w K mg base 5 "is_in_ring" (sp_is_in_ring Γ)) (cdv : Value) (A : Around) (outer : List Env) (s0 : Shared) (H : Hp) (E : XK) (hr : Room 11 (A.deeper (envOfC "reachable_spots" (defScope (top 63)) s0.heap.objs.size f cdv))) (tk : Takes (cxOf (L2.CX P w) P w K mg base ["chain", "limit", "rings", "found", "numbers", "x", "y", "ring"] "reachable_spots" (defScope (top 63)) f cdv A outer s0 H E) (fun cls d _ H' => E cls d H')) : DSsX (cxOf (L2.CX P w) P w K mg base ["chain", "limit", "rings", "found", "numbers", "x", "y", "ring"] "reachable_spots" (defScope (top 63)) f cdv A outer s0 H E) (fun cls d _ H' => E cls d H') (defBody (top 63)) (rdx_reachable_spots Γ) :=
 (dssx_cons (dsx_if (dt_not (dt_val (de_call G_is_int_in (hr.mono (by decide)) rfl (da_cons (de_var 1) (da_cons de_int (da_cons T.c_MAX_SIZE.de da_nil))))))
 (dssx_one (dsx_raise T.x_InvalidSize tk rfl))
 dssx_nil)
 (dssx_cons (dsx_nox (ds_par (i := 2) (j := 3) sc_reachable_spots.nd (da_cons (de_call G_zones (hr.mono (by decide)) rfl (da_cons (de_var 0) da_nil)) (da_cons (de_lstM da_nil) da_nil))))
 (dssx_cons (dsx_nox (ds_set (i := 4) sc_reachable_spots.nd (de_listRg2 rfl T.f_range rfl T.f_list (de_sub de_int (de_var 1)) (de_add (de_var 1) de_int))))
 (dssx_cons (dsx_nox (ds_for (vs := [5]) (di_list (de_var 4)) (dg_name (i := 5) sc_reachable_spots.nd)
 (dss_one (ds_for (vs := [6]) (di_list (de_var 4)) (dg_name (i := 6) sc_reachable_spots.nd)
 (dss_one (ds_if (dt_val (de_all rfl T.f_all (da_cons (de_lc [("ring", 7)] sc_reachable_spots.nd (di_list (de_var 2)) (by kernel_rfl) (fun _ _ _ _ _ => (dg_name (i := 7) sc_reachable_spots.nd)) (fun _ _ _ _ _ => dts_nil) (fun _ _ _ _ _ => (de_call G_is_in_ring (hr.mono (by decide)) rfl (da_cons (de_tup (da_cons (de_var 5) (da_cons (de_var 6) (da_cons de_int da_nil)))) (da_cons (de_var 7) da_nil))))) da_nil)))
 (dss_one (ds_expr (de_append (de_var 3) (da_cons (de_tup (da_cons (de_var 5) (da_cons (de_var 6) (da_cons de_int da_nil)))) da_nil))))
 dss_nil))))))
 (dssx_one (dsx_nox (ds_ret (de_frz (de_var 3)))))))))
theorem dv_law_random (Γ : CL) (T : Fc K mg Γ)  (cdv : Value) (A : Around) (outer : List Env) (s0 : Shared) (H : Hp) (E : XK) (hr : Room 0 (A.deeper (envOfC "_law_random" (defScope (top 73)) s0.heap.objs.size f cdv))) : DSs (cxOf CX0 P w K mg base ["_law_script", "_law_salt", "_law_seed", "_law_cell"] "_law_random" (defScope (top 73)) f cdv A outer s0 H E).nox (defBody (top 73)) (rd_law_random Γ) :=
 (dss_cons (ds_set (i := 2) sc_law_random.nd (de_var 1))
 (dss_cons (ds_for (vs := [3]) (di_list (de_var 0)) (dg_name (i := 3) sc_law_random.nd)
 (dss_one (ds_set (i := 2) sc_law_random.nd (de_mod (de_add (de_mul (de_var 2) de_int) (de_abs rfl T.f_abs (da_cons (de_var 3) da_nil))) de_int))))
 (dss_one (ds_ret (de_addM (de_lst (da_cons (de_var 2) (da_cons de_int da_nil))) (de_lc [("_law_cell", 3)] sc_law_random.nd (di_list (de_var 0)) (by kernel_rfl) (fun _ _ _ _ _ => (dg_name (i := 3) sc_law_random.nd)) (fun _ _ _ _ _ => (dts_one (dt_ge (de_var 3) (de_pow de_int de_int)))) (fun _ _ _ _ _ => (de_var 3))))))))
theorem dv_law_below (Γ : CL) (T : Fc K mg Γ)  (cdv : Value) (A : Around) (outer : List Env) (s0 : Shared) (H : Hp) (E : XK) (hr : Room 0 (A.deeper (envOfC "_law_below" (defScope (top 74)) s0.heap.objs.size f cdv))) : DSs (cxOf CX0 P w K mg base ["_law_d", "_law_limit", "_law_result"] "_law_below" (defScope (top 74)) f cdv A outer s0 H E).nox (defBody (top 74)) (rd_law_below Γ) :=
 (dss_cons (ds_if (dt_w (dw_and (dt_eq hr.units (de_ix (de_var 0) de_int) de_int) (dw_and1 (dt_gt (de_len rfl T.f_len (da_cons (de_var 0) da_nil)) de_int))))
 (dss_one (ds_setIx (de_popAt (de_var 0) (da_cons de_int da_nil)) (de_var 0) de_int))
 dss_nil)
 (dss_cons (ds_if (dt_gt (de_ix (de_var 0) de_int) de_int)
 (dss_cons (ds_set (i := 2) sc_law_below.nd (de_mod (de_ix (de_var 0) de_int) (de_var 1)))
 (dss_cons (ds_setIx (de_div (de_ix (de_var 0) de_int) (de_var 1)) (de_var 0) de_int)
 (dss_one (ds_ret (de_var 2)))))
 dss_nil)
 (dss_cons (ds_setIx (de_mod (de_add (de_mul (de_ix (de_var 0) de_int) de_int) de_int) de_int) (de_var 0) de_int)
 (dss_one (ds_ret (de_mod (de_div (de_ix (de_var 0) de_int) de_int) (de_var 1)))))))
theorem dv_law_step (Γ : CL) (T : Fc K mg Γ) (G_law_below : FnG P w K mg base 1 "_law_below" (sp_law_below Γ)) (cdv : Value) (A : Around) (outer : List Env) (s0 : Shared) (H : Hp) (E : XK) (hr : Room 1 (A.deeper (envOfC "_law_step" (defScope (top 75)) s0.heap.objs.size f cdv))) : DSs (cxOf CX0 P w K mg base ["_law_d", "_law_size_now"] "_law_step" (defScope (top 75)) f cdv A outer s0 H E).nox (defBody (top 75)) (rd_law_step Γ) :=
 (dss_one (ds_ret (de_tup (da_cons (de_sub (de_call G_law_below (hr.mono (by decide)) rfl (da_cons (de_var 0) (da_cons (de_add (de_mul de_int (de_var 1)) de_int) da_nil))) (de_var 1)) (da_cons (de_sub (de_call G_law_below (hr.mono (by decide)) rfl (da_cons (de_var 0) (da_cons (de_add (de_mul de_int (de_var 1)) de_int) da_nil))) (de_var 1)) (da_cons de_int da_nil))))))
theorem dv_law_common (Γ : CL) (T : Fc K mg Γ)  (cdv : Value) (A : Around) (outer : List Env) (s0 : Shared) (H : Hp) (E : XK) (hr : Room 0 (A.deeper (envOfC "_law_common" (defScope (top 76)) s0.heap.objs.size f cdv))) : DSs (cxOf CX0 P w K mg base ["_law_one", "_law_other"] "_law_common" (defScope (top 76)) f cdv A outer s0 H E).nox (defBody (top 76)) (rd_law_common Γ) :=
 (dss_cons (ds_par (i := 0) (j := 1) sc_law_common.nd (da_cons (de_abs rfl T.f_abs (da_cons (de_var 0) da_nil)) (da_cons (de_abs rfl T.f_abs (da_cons (de_var 1) da_nil)) da_nil)))
 (dss_cons (ds_while (dt_gt (de_var 1) de_int) (dss_one (ds_par (i := 0) (j := 1) sc_law_common.nd (da_cons (de_var 1) (da_cons (de_mod (de_var 0) (de_var 1)) da_nil)))))
 (dss_one (ds_ret (de_var 0)))))
theorem dv_law_lowest (Γ : CL) (T : Fc K mg Γ) (G_law_common : FnG P w K mg base 1 "_law_common" (sp_law_common Γ)) (cdv : Value) (A : Around) (outer : List Env) (s0 : Shared) (H : Hp) (E : XK) (hr : Room 1 (A.deeper (envOfC "_law_lowest" (defScope (top 77)) s0.heap.objs.size f cdv))) : DSs (cxOf CX0 P w K mg base ["_law_x", "_law_y", "_law_q", "_law_common_now"] "_law_lowest" (defScope (top 77)) f cdv A outer s0 H E).nox (defBody (top 77)) (rd_law_lowest Γ) :=
 (dss_cons (ds_set (i := 3) sc_law_lowest.nd (de_call G_law_common (hr.mono (by decide)) rfl (da_cons (de_call G_law_common (hr.mono (by decide)) rfl (da_cons (de_var 0) (da_cons (de_var 1) da_nil))) (da_cons (de_var 2) da_nil))))
 (dss_cons (ds_set (i := 3) sc_law_lowest.nd (de_if (dt_gt (de_var 2) de_int) (de_var 3) (de_sub de_int (de_var 3))))
 (dss_one (ds_ret (de_tup (da_cons (de_div (de_var 0) (de_var 3)) (da_cons (de_div (de_var 1) (de_var 3)) (da_cons (de_div (de_var 2) (de_var 3)) da_nil))))))))
theorem dv_law_spot (Γ : CL) (T : Fc K mg Γ) (G_law_below : FnG P w K mg base 1 "_law_below" (sp_law_below Γ)) (G_law_lowest : FnG P w K mg base 2 "_law_lowest" (sp_law_lowest Γ)) (cdv : Value) (A : Around) (outer : List Env) (s0 : Shared) (H : Hp) (E : XK) (hr : Room 2 (A.deeper (envOfC "_law_spot" (defScope (top 78)) s0.heap.objs.size f cdv))) : DSs (cxOf CX0 P w K mg base ["_law_d", "_law_below_here"] "_law_spot" (defScope (top 78)) f cdv A outer s0 H E).nox (defBody (top 78)) (rd_law_spot Γ) :=
 (dss_cons (ds_set (i := 1) sc_law_spot.nd (de_ix (de_lst (da_cons de_int (da_cons de_int (da_cons de_int (da_cons de_int (da_cons de_int (da_cons de_int da_nil))))))) (de_call G_law_below (hr.mono (by decide)) rfl (da_cons (de_var 0) (da_cons de_int da_nil)))))
 (dss_one (ds_ret (de_call G_law_lowest (hr.mono (by decide)) rfl (da_cons (de_sub (de_call G_law_below (hr.mono (by decide)) rfl (da_cons (de_var 0) (da_cons de_int da_nil))) de_int) (da_cons (de_sub (de_call G_law_below (hr.mono (by decide)) rfl (da_cons (de_var 0) (da_cons de_int da_nil))) de_int) (da_cons (de_var 1) da_nil)))))))
theorem dv_law_turn (Γ : CL) (T : Fc K mg Γ) (G_law_below : FnG P w K mg base 1 "_law_below" (sp_law_below Γ)) (cdv : Value) (A : Around) (outer : List Env) (s0 : Shared) (H : Hp) (E : XK) (hr : Room 1 (A.deeper (envOfC "_law_turn" (defScope (top 79)) s0.heap.objs.size f cdv))) : DSs (cxOf CX0 P w K mg base ["_law_d", "_law_some"] "_law_turn" (defScope (top 79)) f cdv A outer s0 H E).nox (defBody (top 79)) (rd_law_turn Γ) :=
 (dss_cons (ds_set (i := 1) sc_law_turn.nd (de_lst (da_cons (de_tup (da_cons de_int (da_cons de_int (da_cons de_int da_nil)))) (da_cons (de_tup (da_cons (de_sub de_int de_int) (da_cons de_int (da_cons de_int da_nil)))) (da_cons (de_tup (da_cons de_int (da_cons de_int (da_cons de_int da_nil)))) (da_cons (de_tup (da_cons de_int (da_cons (de_sub de_int de_int) (da_cons de_int da_nil)))) (da_cons (de_tup (da_cons de_int (da_cons de_int (da_cons de_int da_nil)))) (da_cons (de_tup (da_cons de_int (da_cons de_int (da_cons de_int da_nil)))) (da_cons (de_tup (da_cons de_int (da_cons de_int (da_cons de_int da_nil)))) (da_cons (de_tup (da_cons de_int (da_cons de_int (da_cons de_int da_nil)))) da_nil))))))))))
 (dss_cons (ds_set (i := 1) sc_law_turn.nd (de_add (de_var 1) (de_lst (da_cons (de_tup (da_cons de_int (da_cons de_int (da_cons de_int da_nil)))) (da_cons (de_tup (da_cons (de_sub de_int de_int) (da_cons de_int (da_cons de_int da_nil)))) (da_cons (de_tup (da_cons de_int (da_cons (de_sub de_int de_int) (da_cons de_int da_nil)))) (da_cons (de_tup (da_cons de_int (da_cons de_int (da_cons de_int da_nil)))) (da_cons (de_tup (da_cons (de_sub de_int de_int) (da_cons de_int (da_cons de_int da_nil)))) da_nil))))))))
 (dss_one (ds_ret (de_ix (de_var 1) (de_call G_law_below (hr.mono (by decide)) rfl (da_cons (de_var 0) (da_cons de_int da_nil))))))))
theorem dv_law_arm_told (Γ : CL) (T : Fc K mg Γ) (G_law_below : FnG P w K mg base 1 "_law_below" (sp_law_below Γ)) (G_law_step : FnG P w K mg base 2 "_law_step" (sp_law_step Γ)) (G_law_spot : FnG P w K mg base 3 "_law_spot" (sp_law_spot Γ)) (G_law_turn : FnG P w K mg base 2 "_law_turn" (sp_law_turn Γ)) (cdv : Value) (A : Around) (outer : List Env) (s0 : Shared) (H : Hp) (E : XK) (hr : Room 3 (A.deeper (envOfC "_law_arm_told" (defScope (top 80)) s0.heap.objs.size f cdv))) : DSs (cxOf CX0 P w K mg base ["_law_d", "_law_near_here", "_law_pole"] "_law_arm_told" (defScope (top 80)) f cdv A outer s0 H E).nox (defBody (top 80)) (rd_law_arm_told Γ) :=
 (dss_cons (ds_set (i := 1) sc_law_arm_told.nd (de_ix (de_lst (da_cons de_int (da_cons de_int (da_cons de_int (da_cons de_int da_nil))))) (de_call G_law_below (hr.mono (by decide)) rfl (da_cons (de_var 0) (da_cons de_int da_nil)))))
 (dss_cons (ds_set (i := 2) sc_law_arm_told.nd (de_if (dt_gt (de_call G_law_below (hr.mono (by decide)) rfl (da_cons (de_var 0) (da_cons de_int da_nil))) de_int) (de_call G_law_step (hr.mono (by decide)) rfl (da_cons (de_var 0) (da_cons de_int da_nil))) (de_call G_law_spot (hr.mono (by decide)) rfl (da_cons (de_var 0) da_nil))))
 (dss_one (ds_ret (de_tup (da_cons (de_var 2) (da_cons (de_call G_law_turn (hr.mono (by decide)) rfl (da_cons (de_var 0) da_nil)) (da_cons (de_var 1) (da_cons (de_add (de_var 1) (de_ix (de_lst (da_cons de_int (da_cons de_int (da_cons de_int (da_cons de_int da_nil))))) (de_call G_law_below (hr.mono (by decide)) rfl (da_cons (de_var 0) (da_cons de_int da_nil))))) (da_cons (de_eq hr.units (de_call G_law_below (hr.mono (by decide)) rfl (da_cons (de_var 0) (da_cons de_int da_nil))) de_int) da_nil))))))))))
theorem dv_Chain___init (Γ : CL) (T : Fc K mg Γ)  (cdv : Value) (A : Around) (outer : List Env) (s0 : Shared) (H : Hp) (E : XK) (hr : Room 0 (A.deeper (envOfC "Chain.__init__" (defScope (inClass (top 60) 0)) s0.heap.objs.size f cdv))) : DSs (cxOf CX0 P w K mg base ["self", "arms"] "Chain.__init__" (defScope (inClass (top 60) 0)) f cdv A outer s0 H E).nox (defBody (inClass (top 60) 0)) (rd_Chain___init Γ) :=
 (dss_cons (ds_if (dt_gt (de_len rfl T.f_len (da_cons (de_var 1) da_nil)) T.c_MAX_ARMS.de)
 (dss_one ds_never)
 dss_nil)
 (dss_one (ds_fld (de_var 0) (de_var 1) T.cl_Chain T.n_Chain_arms)))
theorem dv_is_int (Γ : CL) (T : Fc K mg Γ)  (cdv : Value) (A : Around) (outer : List Env) (s0 : Shared) (H : Hp) (E : XK) (hr : Room 0 (A.deeper (envOfC "is_int" (defScope (top 25)) s0.heap.objs.size f cdv))) : DSs (cxOf CX0 P w K mg base ["value"] "is_int" (defScope (top 25)) f cdv A outer s0 H E).nox (defBody (top 25)) (rd_is_int Γ) :=
 (dss_one (ds_ret (de_and (de_isi rfl T.f_isinstance (da_cons (de_var 0) (da_cons (de_ty (n := "int") rfl T.f_int (by decide +kernel)) da_nil))) (de_one (de_not (de_isi rfl T.f_isinstance (da_cons (de_var 0) (da_cons (de_ty (n := "bool") rfl T.f_bool (by decide +kernel)) da_nil))))))))
theorem dv_common_divisor (Γ : CL) (T : Fc K mg Γ)  (cdv : Value) (A : Around) (outer : List Env) (s0 : Shared) (H : Hp) (E : XK) (hr : Room 0 (A.deeper (envOfC "common_divisor" (defScope (top 26)) s0.heap.objs.size f cdv))) : DSs (cxOf CX0 P w K mg base ["one", "other"] "common_divisor" (defScope (top 26)) f cdv A outer s0 H E).nox (defBody (top 26)) (rd_common_divisor Γ) :=
 (dss_cons (ds_par (i := 0) (j := 1) sc_common_divisor.nd (da_cons (de_abs rfl T.f_abs (da_cons (de_var 0) da_nil)) (da_cons (de_abs rfl T.f_abs (da_cons (de_var 1) da_nil)) da_nil)))
 (dss_cons (ds_while (dt_gt (de_var 1) de_int) (dss_one (ds_par (i := 0) (j := 1) sc_common_divisor.nd (da_cons (de_var 1) (da_cons (de_mod (de_var 0) (de_var 1)) da_nil)))))
 (dss_one (ds_ret (de_var 0)))))
theorem dv_lowest (Γ : CL) (T : Fc K mg Γ) (G_common_divisor : FnG P w K mg base 1 "common_divisor" (sp_common_divisor Γ)) (cdv : Value) (A : Around) (outer : List Env) (s0 : Shared) (H : Hp) (E : XK) (hr : Room 1 (A.deeper (envOfC "lowest" (defScope (top 29)) s0.heap.objs.size f cdv))) : DSs (cxOf CX0 P w K mg base ["x", "y", "d", "divisor", "sign"] "lowest" (defScope (top 29)) f cdv A outer s0 H E).nox (defBody (top 29)) (rd_lowest Γ) :=
 (dss_cons (ds_set (i := 3) sc_lowest.nd (de_call G_common_divisor (hr.mono (by decide)) rfl (da_cons (de_call G_common_divisor (hr.mono (by decide)) rfl (da_cons (de_var 0) (da_cons (de_var 1) da_nil))) (da_cons (de_var 2) da_nil))))
 (dss_cons (ds_set (i := 4) sc_lowest.nd (de_if (dt_gt (de_var 2) de_int) de_int (de_neg de_int)))
 (dss_one (ds_ret (de_tup (da_cons (de_div (de_mul (de_var 4) (de_var 0)) (de_var 3)) (da_cons (de_div (de_mul (de_var 4) (de_var 1)) (de_var 3)) (da_cons (de_div (de_mul (de_var 4) (de_var 2)) (de_var 3)) da_nil))))))))
theorem dv_is_number (Γ : CL) (T : Fc K mg Γ) (G_is_int : FnG P w K mg base 1 "is_int" (sp_is_int Γ)) (G_lowest : FnG P w K mg base 2 "lowest" (sp_lowest Γ)) (cdv : Value) (A : Around) (outer : List Env) (s0 : Shared) (H : Hp) (E : XK) (hr : Room 2 (A.deeper (envOfC "is_number" (defScope (top 32)) s0.heap.objs.size f cdv))) : DSs (cxOf CX0 P w K mg base ["value", "part"] "is_number" (defScope (top 32)) f cdv A outer s0 H E).nox (defBody (top 32)) (rd_is_number Γ) :=
 (dss_cons (ds_if (dt_w (dw_or (dt_not (dt_val (de_isi rfl T.f_isinstance (da_cons (de_var 0) (da_cons (de_ty (n := "tuple") rfl T.f_tuple (by decide +kernel)) da_nil))))) (dw_or (dt_ne hr.units (de_len rfl T.f_len (da_cons (de_var 0) da_nil)) de_int) (dw_or1 (dt_not (dt_val (de_all rfl T.f_all (da_cons (de_lc [("part", 1)] sc_is_number.nd (di_tup (de_var 0)) (by kernel_rfl) (fun _ _ _ _ _ => (dg_name (i := 1) sc_is_number.nd)) (fun _ _ _ _ _ => dts_nil) (fun _ _ _ _ _ => (de_call G_is_int (hr.mono (by decide)) rfl (da_cons (de_var 1) da_nil)))) da_nil))))))))
 (dss_one (ds_ret de_bl))
 dss_nil)
 (dss_one (ds_ret (de_and (de_gt (de_ix (de_var 0) de_int) de_int) (de_one (de_eq hr.units (de_callS1 G_lowest (hr.mono (by decide)) rfl (de_var 0)) (de_var 0)))))))
theorem dv_check_spot (Γ : CL) (T : Fc K mg Γ) (G_is_number : FnG P w K mg base 3 "is_number" (sp_is_number Γ)) (cdv : Value) (A : Around) (outer : List Env) (s0 : Shared) (H : Hp) (E : XK) (hr : Room 3 (A.deeper (envOfC "check_spot" (defScope (top 43)) s0.heap.objs.size f cdv))) : DSs (cxOf CX0 P w K mg base ["value"] "check_spot" (defScope (top 43)) f cdv A outer s0 H E).nox (defBody (top 43)) (rd_check_spot Γ) :=
 (dss_one (ds_if (dt_not (dt_val (de_call G_is_number (hr.mono (by decide)) rfl (da_cons (de_var 0) da_nil))))
 (dss_one ds_never)
 dss_nil))
theorem dv_check_turn (Γ : CL) (T : Fc K mg Γ) (G_is_number : FnG P w K mg base 3 "is_number" (sp_is_number Γ)) (cdv : Value) (A : Around) (outer : List Env) (s0 : Shared) (H : Hp) (E : XK) (hr : Room 3 (A.deeper (envOfC "check_turn" (defScope (top 44)) s0.heap.objs.size f cdv))) : DSs (cxOf CX0 P w K mg base ["value"] "check_turn" (defScope (top 44)) f cdv A outer s0 H E).nox (defBody (top 44)) (rd_check_turn Γ) :=
 (dss_one (ds_if (dt_w (dw_or (dt_not (dt_val (de_call G_is_number (hr.mono (by decide)) rfl (da_cons (de_var 0) da_nil)))) (dw_or1 (dt_eq hr.units (de_var 0) T.c_ZERO.de))))
 (dss_one ds_never)
 dss_nil))
theorem dv_is_int_in (Γ : CL) (T : Fc K mg Γ)  (cdv : Value) (A : Around) (outer : List Env) (s0 : Shared) (H : Hp) (E : XK) (hr : Room 0 (A.deeper (envOfC "is_int_in" (defScope (top 24)) s0.heap.objs.size f cdv))) : DSs (cxOf CX0 P w K mg base ["value", "low", "high"] "is_int_in" (defScope (top 24)) f cdv A outer s0 H E).nox (defBody (top 24)) (rd_is_int_in Γ) :=
 (dss_one (ds_ret (de_and (de_isi rfl T.f_isinstance (da_cons (de_var 0) (da_cons (de_ty (n := "int") rfl T.f_int (by decide +kernel)) da_nil))) (de_and (de_not (de_isi rfl T.f_isinstance (da_cons (de_var 0) (da_cons (de_ty (n := "bool") rfl T.f_bool (by decide +kernel)) da_nil)))) (de_one (de_chain_le_le (de_var 1) (de_var 0) (de_var 2)))))))
theorem dv_Arm___init (Γ : CL) (T : Fc K mg Γ) (G_check_spot : FnG P w K mg base 4 "check_spot" (sp_check_spot Γ)) (G_check_turn : FnG P w K mg base 4 "check_turn" (sp_check_turn Γ)) (G_is_int_in : FnG P w K mg base 1 "is_int_in" (sp_is_int_in Γ)) (cdv : Value) (A : Around) (outer : List Env) (s0 : Shared) (H : Hp) (E : XK) (hr : Room 4 (A.deeper (envOfC "Arm.__init__" (defScope (inClass (top 49) 0)) s0.heap.objs.size f cdv))) : DSs (cxOf CX0 P w K mg base ["self", "pole", "turn", "near", "far", "mirrored"] "Arm.__init__" (defScope (inClass (top 49) 0)) f cdv A outer s0 H E).nox (defBody (inClass (top 49) 0)) (rd_Arm___init Γ) :=
 (dss_cons (ds_expr (de_call G_check_spot (hr.mono (by decide)) rfl (da_cons (de_var 1) da_nil)))
 (dss_cons (ds_expr (de_call G_check_turn (hr.mono (by decide)) rfl (da_cons (de_var 2) da_nil)))
 (dss_cons (ds_if (dt_w (dw_or (dt_not (dt_val (de_call G_is_int_in (hr.mono (by decide)) rfl (da_cons (de_var 3) (da_cons de_int (da_cons T.c_MAX_REACH.de da_nil)))))) (dw_or1 (dt_not (dt_val (de_call G_is_int_in (hr.mono (by decide)) rfl (da_cons (de_var 4) (da_cons (de_var 3) (da_cons T.c_MAX_REACH.de da_nil)))))))))
 (dss_one ds_never)
 dss_nil)
 (dss_cons (ds_fld (de_var 0) (de_var 1) T.cl_Arm T.n_Arm_pole)
 (dss_cons (ds_fld (de_var 0) (de_var 2) T.cl_Arm T.n_Arm_turn)
 (dss_cons (ds_fld (de_var 0) (de_var 3) T.cl_Arm T.n_Arm_near)
 (dss_cons (ds_fld (de_var 0) (de_var 4) T.cl_Arm T.n_Arm_far)
 (dss_cons (ds_fld (de_var 0) (de_var 5) T.cl_Arm T.n_Arm_mirrored)
 (dss_one (ds_fld (de_var 0) (de_tup (da_cons (de_var 1) (da_cons (de_var 2) (da_cons (de_var 3) (da_cons (de_var 4) (da_cons (de_var 5) da_nil)))))) T.cl_Arm T.n_Arm_key))))))))))
theorem dv_law_arm (Γ : CL) (T : Fc K mg Γ) (G_Arm___init_k_mirrored : MkK P w K mg base 5 "Arm" Γ.Arm (sp_Arm___init Γ) 4 ["mirrored"] gD_Arm_mirrored) (cdv : Value) (A : Around) (outer : List Env) (s0 : Shared) (H : Hp) (E : XK) (hr : Room 6 (A.deeper (envOfC "_law_arm" (defScope (top 81)) s0.heap.objs.size f cdv))) : DSs (cxOf CX0 P w K mg base ["_law_told"] "_law_arm" (defScope (top 81)) f cdv A outer s0 H E).nox (defBody (top 81)) (rd_law_arm Γ) :=
 (dss_one (ds_ret (de_makeK G_Arm___init_k_mirrored (hr.mono (by decide)) rfl (da_cons (de_ix (de_var 0) de_int) (da_cons (de_ix (de_var 0) de_int) (da_cons (de_ix (de_var 0) de_int) (da_cons (de_ix (de_var 0) de_int) da_nil)))) (dk_cons (de_ix (de_var 0) de_int) dk_nil))))
theorem dv_Chain___add (Γ : CL) (T : Fc K mg Γ) (G_Chain___init : MkS P w K mg base 1 "Chain" Γ.Chain (sp_Chain___init Γ)) (cdv : Value) (A : Around) (outer : List Env) (s0 : Shared) (H : Hp) (E : XK) (hr : Room 2 (A.deeper (envOfC "Chain.__add__" (defScope (inClass (top 60) 5)) s0.heap.objs.size f cdv))) : DSs (cxOf CX0 P w K mg base ["self", "other", "arms"] "Chain.__add__" (defScope (inClass (top 60) 5)) f cdv A outer s0 H E).nox (defBody (inClass (top 60) 5)) (rd_Chain___add Γ) :=
 (dss_cons (ds_set (i := 2) sc_Chain___add.nd (de_tup (da_star (de_fld (de_var 0) T.cl_Chain T.n_Chain_arms) (da_star (de_fld (de_var 1) T.cl_Chain T.n_Chain_arms) da_nil))))
 (dss_one (ds_ret (de_makeS1 G_Chain___init (hr.mono (by decide)) rfl (de_var 2)))))
theorem dv_law_chain (Γ : CL) (T : Fc K mg Γ) (G_law_arm : FnG P w K mg base 7 "_law_arm" (sp_law_arm Γ)) (G_Chain___add : MtG P w K mg base 3 Γ.Chain (He.ma K Γ.Chain "__add__") (sp_Chain___add Γ)) (G_Chain___init : MkS P w K mg base 1 "Chain" Γ.Chain (sp_Chain___init Γ)) (cdv : Value) (A : Around) (outer : List Env) (s0 : Shared) (H : Hp) (E : XK) (hr : Room 7 (A.deeper (envOfC "_law_chain" (defScope (top 82)) s0.heap.objs.size f cdv))) : DSs (cxOf CX0 P w K mg base ["_law_tolds", "_law_chain_here", "_law_told"] "_law_chain" (defScope (top 82)) f cdv A outer s0 H E).nox (defBody (top 82)) (rd_law_chain Γ) :=
 (dss_cons (ds_set (i := 1) sc_law_chain.nd (de_makeS0 G_Chain___init (hr.mono (by decide)) rfl))
 (dss_cons (ds_for (vs := [2]) (di_list (de_var 0)) (dg_name (i := 2) sc_law_chain.nd)
 (dss_one (ds_set (i := 1) sc_law_chain.nd (de_opO G_Chain___add (hr.mono (by decide)) T.sf_Chain T.w_Chain___add T.v_Chain___add (de_var 1) (de_makeS G_Chain___init (hr.mono (by decide)) (by rfl) (da_cons (de_call G_law_arm (hr.mono (by decide)) rfl (da_cons (de_var 2) da_nil)) da_nil))))))
 (dss_one (ds_ret (de_var 1)))))
theorem dv_Copy___init (Γ : CL) (T : Fc K mg Γ) (G_check_turn : FnG P w K mg base 4 "check_turn" (sp_check_turn Γ)) (G_check_spot : FnG P w K mg base 4 "check_spot" (sp_check_spot Γ)) (cdv : Value) (A : Around) (outer : List Env) (s0 : Shared) (H : Hp) (E : XK) (hr : Room 4 (A.deeper (envOfC "Copy.__init__" (defScope (inClass (top 46) 0)) s0.heap.objs.size f cdv))) : DSs (cxOf CX0 P w K mg base ["self", "turn", "shift", "mirrored"] "Copy.__init__" (defScope (inClass (top 46) 0)) f cdv A outer s0 H E).nox (defBody (inClass (top 46) 0)) (rd_Copy___init Γ) :=
 (dss_cons (ds_expr (de_call G_check_turn (hr.mono (by decide)) rfl (da_cons (de_var 1) da_nil)))
 (dss_cons (ds_expr (de_call G_check_spot (hr.mono (by decide)) rfl (da_cons (de_var 2) da_nil)))
 (dss_cons (ds_fld (de_var 0) (de_var 1) T.cl_Copy T.n_Copy_turn)
 (dss_cons (ds_fld (de_var 0) (de_var 2) T.cl_Copy T.n_Copy_shift)
 (dss_cons (ds_fld (de_var 0) (de_var 3) T.cl_Copy T.n_Copy_mirrored)
 (dss_one (ds_fld (de_var 0) (de_tup (da_cons (de_var 1) (da_cons (de_var 2) (da_cons (de_var 3) da_nil)))) T.cl_Copy T.n_Copy_key)))))))
theorem dv_multiplied (Γ : CL) (T : Fc K mg Γ) (G_lowest : FnG P w K mg base 2 "lowest" (sp_lowest Γ)) (cdv : Value) (A : Around) (outer : List Env) (s0 : Shared) (H : Hp) (E : XK) (hr : Room 2 (A.deeper (envOfC "multiplied" (defScope (top 36)) s0.heap.objs.size f cdv))) : DSs (cxOf CX0 P w K mg base ["one", "other", "x"] "multiplied" (defScope (top 36)) f cdv A outer s0 H E).nox (defBody (top 36)) (rd_multiplied Γ) :=
 (dss_cons (ds_set (i := 2) sc_multiplied.nd (de_sub (de_mul (de_ix (de_var 0) de_int) (de_ix (de_var 1) de_int)) (de_mul (de_ix (de_var 0) de_int) (de_ix (de_var 1) de_int))))
 (dss_one (ds_ret (de_call G_lowest (hr.mono (by decide)) rfl (da_cons (de_var 2) (da_cons (de_add (de_mul (de_ix (de_var 0) de_int) (de_ix (de_var 1) de_int)) (de_mul (de_ix (de_var 0) de_int) (de_ix (de_var 1) de_int))) (da_cons (de_mul (de_ix (de_var 0) de_int) (de_ix (de_var 1) de_int)) da_nil)))))))
theorem dv_turned_over (Γ : CL) (T : Fc K mg Γ)  (cdv : Value) (A : Around) (outer : List Env) (s0 : Shared) (H : Hp) (E : XK) (hr : Room 0 (A.deeper (envOfC "turned_over" (defScope (top 37)) s0.heap.objs.size f cdv))) : DSs (cxOf CX0 P w K mg base ["one"] "turned_over" (defScope (top 37)) f cdv A outer s0 H E).nox (defBody (top 37)) (rd_turned_over Γ) :=
 (dss_one (ds_ret (de_tup (da_cons (de_ix (de_var 0) de_int) (da_cons (de_sub de_int (de_ix (de_var 0) de_int)) (da_cons (de_ix (de_var 0) de_int) da_nil))))))
theorem dv_added (Γ : CL) (T : Fc K mg Γ) (G_lowest : FnG P w K mg base 2 "lowest" (sp_lowest Γ)) (cdv : Value) (A : Around) (outer : List Env) (s0 : Shared) (H : Hp) (E : XK) (hr : Room 2 (A.deeper (envOfC "added" (defScope (top 33)) s0.heap.objs.size f cdv))) : DSs (cxOf CX0 P w K mg base ["one", "other"] "added" (defScope (top 33)) f cdv A outer s0 H E).nox (defBody (top 33)) (rd_added Γ) :=
 (dss_one (ds_ret (de_call G_lowest (hr.mono (by decide)) rfl (da_cons (de_add (de_mul (de_ix (de_var 0) de_int) (de_ix (de_var 1) de_int)) (de_mul (de_ix (de_var 1) de_int) (de_ix (de_var 0) de_int))) (da_cons (de_add (de_mul (de_ix (de_var 0) de_int) (de_ix (de_var 1) de_int)) (de_mul (de_ix (de_var 1) de_int) (de_ix (de_var 0) de_int))) (da_cons (de_mul (de_ix (de_var 0) de_int) (de_ix (de_var 1) de_int)) da_nil))))))
theorem dv_opposite (Γ : CL) (T : Fc K mg Γ)  (cdv : Value) (A : Around) (outer : List Env) (s0 : Shared) (H : Hp) (E : XK) (hr : Room 0 (A.deeper (envOfC "opposite" (defScope (top 34)) s0.heap.objs.size f cdv))) : DSs (cxOf CX0 P w K mg base ["one"] "opposite" (defScope (top 34)) f cdv A outer s0 H E).nox (defBody (top 34)) (rd_opposite Γ) :=
 (dss_one (ds_ret (de_tup (da_cons (de_sub de_int (de_ix (de_var 0) de_int)) (da_cons (de_sub de_int (de_ix (de_var 0) de_int)) (da_cons (de_ix (de_var 0) de_int) da_nil))))))
theorem dv_less (Γ : CL) (T : Fc K mg Γ) (G_added : FnG P w K mg base 3 "added" (sp_added Γ)) (G_opposite : FnG P w K mg base 1 "opposite" (sp_opposite Γ)) (cdv : Value) (A : Around) (outer : List Env) (s0 : Shared) (H : Hp) (E : XK) (hr : Room 3 (A.deeper (envOfC "less" (defScope (top 35)) s0.heap.objs.size f cdv))) : DSs (cxOf CX0 P w K mg base ["one", "other"] "less" (defScope (top 35)) f cdv A outer s0 H E).nox (defBody (top 35)) (rd_less Γ) :=
 (dss_one (ds_ret (de_call G_added (hr.mono (by decide)) rfl (da_cons (de_var 0) (da_cons (de_call G_opposite (hr.mono (by decide)) rfl (da_cons (de_var 1) da_nil)) da_nil)))))
theorem dv_copy_about (Γ : CL) (T : Fc K mg Γ) (G_multiplied : FnG P w K mg base 3 "multiplied" (sp_multiplied Γ)) (G_turned_over : FnG P w K mg base 1 "turned_over" (sp_turned_over Γ)) (G_less : FnG P w K mg base 4 "less" (sp_less Γ)) (G_Copy___init_k_mirrored : MkK P w K mg base 5 "Copy" Γ.Copy (sp_Copy___init Γ) 2 ["mirrored"] gD_Copy_mirrored) (cdv : Value) (A : Around) (outer : List Env) (s0 : Shared) (H : Hp) (E : XK) (hr : Room 6 (A.deeper (envOfC "copy_about" (defScope (top 50)) s0.heap.objs.size f cdv))) : DSs (cxOf CX0 P w K mg base ["pole", "turn", "mirrored", "carried"] "copy_about" (defScope (top 50)) f cdv A outer s0 H E).nox (defBody (top 50)) (rd_copy_about Γ) :=
 (dss_cons (ds_set (i := 3) sc_copy_about.nd (de_call G_multiplied (hr.mono (by decide)) rfl (da_cons (de_var 1) (da_cons (de_if (dt_val (de_var 2)) (de_call G_turned_over (hr.mono (by decide)) rfl (da_cons (de_var 0) da_nil)) (de_var 0)) da_nil))))
 (dss_one (ds_ret (de_makeK G_Copy___init_k_mirrored (hr.mono (by decide)) rfl (da_cons (de_var 1) (da_cons (de_call G_less (hr.mono (by decide)) rfl (da_cons (de_var 0) (da_cons (de_var 3) da_nil))) da_nil)) (dk_cons (de_var 2) dk_nil)))))
theorem dv_Arm_effect (Γ : CL) (T : Fc K mg Γ) (G_copy_about : FnG P w K mg base 7 "copy_about" (sp_copy_about Γ)) (cdv : Value) (A : Around) (outer : List Env) (s0 : Shared) (H : Hp) (E : XK) (hr : Room 7 (A.deeper (envOfC "Arm.effect" (defScope (inClass (top 49) 1)) s0.heap.objs.size f cdv))) : DSs (cxOf CX0 P w K mg base ["self"] "Arm.effect" (defScope (inClass (top 49) 1)) f cdv A outer s0 H E).nox (defBody (inClass (top 49) 1)) (rd_Arm_effect Γ) :=
 (dss_one (ds_ret (de_call G_copy_about (hr.mono (by decide)) rfl (da_cons (de_fld (de_var 0) T.cl_Arm T.n_Arm_pole) (da_cons (de_fld (de_var 0) T.cl_Arm T.n_Arm_turn) (da_cons (de_fld (de_var 0) T.cl_Arm T.n_Arm_mirrored) da_nil))))))
theorem dv_carried (Γ : CL) (T : Fc K mg Γ) (G_added : FnG P w K mg base 3 "added" (sp_added Γ)) (G_multiplied : FnG P w K mg base 3 "multiplied" (sp_multiplied Γ)) (G_turned_over : FnG P w K mg base 1 "turned_over" (sp_turned_over Γ)) (cdv : Value) (A : Around) (outer : List Env) (s0 : Shared) (H : Hp) (E : XK) (hr : Room 3 (A.deeper (envOfC "carried" (defScope (top 45)) s0.heap.objs.size f cdv))) : DSs (cxOf CX0 P w K mg base ["copy", "spot"] "carried" (defScope (top 45)) f cdv A outer s0 H E).nox (defBody (top 45)) (rd_carried Γ) :=
 (dss_one (ds_ret (de_call G_added (hr.mono (by decide)) rfl (da_cons (de_call G_multiplied (hr.mono (by decide)) rfl (da_cons (de_fld (de_var 0) T.cl_Copy T.n_Copy_turn) (da_cons (de_if (dt_val (de_fld (de_var 0) T.cl_Copy T.n_Copy_mirrored)) (de_call G_turned_over (hr.mono (by decide)) rfl (da_cons (de_var 1) da_nil)) (de_var 1)) da_nil))) (da_cons (de_fld (de_var 0) T.cl_Copy T.n_Copy_shift) da_nil)))))
theorem dv_Copy___rshift (Γ : CL) (T : Fc K mg Γ) (G_turned_over : FnG P w K mg base 1 "turned_over" (sp_turned_over Γ)) (G_carried : FnG P w K mg base 4 "carried" (sp_carried Γ)) (G_multiplied : FnG P w K mg base 3 "multiplied" (sp_multiplied Γ)) (G_Copy___init_k_mirrored : MkK P w K mg base 5 "Copy" Γ.Copy (sp_Copy___init Γ) 2 ["mirrored"] gD_Copy_mirrored) (cdv : Value) (A : Around) (outer : List Env) (s0 : Shared) (H : Hp) (E : XK) (hr : Room 6 (A.deeper (envOfC "Copy.__rshift__" (defScope (inClass (top 46) 3)) s0.heap.objs.size f cdv))) : DSs (cxOf CX0 P w K mg base ["self", "other", "turn"] "Copy.__rshift__" (defScope (inClass (top 46) 3)) f cdv A outer s0 H E).nox (defBody (inClass (top 46) 3)) (rd_Copy___rshift Γ) :=
 (dss_cons (ds_set (i := 2) sc_Copy___rshift.nd (de_if (dt_val (de_fld (de_var 1) T.cl_Copy T.n_Copy_mirrored)) (de_call G_turned_over (hr.mono (by decide)) rfl (da_cons (de_fld (de_var 0) T.cl_Copy T.n_Copy_turn) da_nil)) (de_fld (de_var 0) T.cl_Copy T.n_Copy_turn)))
 (dss_one (ds_ret (de_makeK G_Copy___init_k_mirrored (hr.mono (by decide)) rfl (da_cons (de_call G_multiplied (hr.mono (by decide)) rfl (da_cons (de_fld (de_var 1) T.cl_Copy T.n_Copy_turn) (da_cons (de_var 2) da_nil))) (da_cons (de_call G_carried (hr.mono (by decide)) rfl (da_cons (de_var 1) (da_cons (de_fld (de_var 0) T.cl_Copy T.n_Copy_shift) da_nil))) da_nil)) (dk_cons (de_ne hr.units (de_fld (de_var 0) T.cl_Copy T.n_Copy_mirrored) (de_fld (de_var 1) T.cl_Copy T.n_Copy_mirrored)) dk_nil)))))
theorem dv_copies_ahead (Γ : CL) (T : Fc K mg Γ) (G_Arm_effect : MtG P w K mg base 8 Γ.Arm (gtA K Γ.Arm "effect") (sp_Arm_effect Γ)) (G_Copy___rshift : MtG P w K mg base 7 Γ.Copy (He.ma K Γ.Copy "__rshift__") (sp_Copy___rshift Γ)) (G_Copy___init_k : MkD P w K mg base 5 "Copy" Γ.Copy (sp_Copy___init Γ) [.bl false]) (cdv : Value) (A : Around) (outer : List Env) (s0 : Shared) (H : Hp) (E : XK) (hr : Room 9 (A.deeper (envOfC "copies_ahead" (defScope (top 61)) s0.heap.objs.size f cdv))) : DSs (cxOf CX0 P w K mg base ["arms", "found", "arm"] "copies_ahead" (defScope (top 61)) f cdv A outer s0 H E).nox (defBody (top 61)) (rd_copies_ahead Γ) :=
 (dss_cons (ds_set (i := 1) sc_copies_ahead.nd (de_lstM (da_cons (de_makeD G_Copy___init_k (hr.mono (by decide)) rfl (da_cons T.c_ONE.de (da_cons T.c_ZERO.de da_nil))) da_nil)))
 (dss_cons (ds_for (vs := [2]) (di_tup (de_var 0)) (dg_name (i := 2) sc_copies_ahead.nd)
 (dss_one (ds_expr (de_append (de_var 1) (da_cons (de_opO G_Copy___rshift (hr.mono (by decide)) T.sf_Copy T.w_Copy___rshift T.v_Copy___rshift (de_ix (de_var 1) (de_neg de_int)) (de_prop G_Arm_effect (hr.mono (by decide)) T.cl_Arm T.p_Arm_effect (de_var 2))) da_nil)))))
 (dss_one (ds_ret (de_frz (de_var 1))))))
theorem dv_ratio (Γ : CL) (T : Fc K mg Γ) (G_common_divisor : FnG P w K mg base 1 "common_divisor" (sp_common_divisor Γ)) (cdv : Value) (A : Around) (outer : List Env) (s0 : Shared) (H : Hp) (E : XK) (hr : Room 1 (A.deeper (envOfC "ratio" (defScope (top 28)) s0.heap.objs.size f cdv))) : DSs (cxOf CX0 P w K mg base ["numerator", "denominator", "divisor"] "ratio" (defScope (top 28)) f cdv A outer s0 H E).nox (defBody (top 28)) (rd_ratio Γ) :=
 (dss_cons (ds_set (i := 2) sc_ratio.nd (de_call G_common_divisor (hr.mono (by decide)) rfl (da_cons (de_var 0) (da_cons (de_var 1) da_nil))))
 (dss_one (ds_ret (de_tup (da_cons (de_div (de_var 0) (de_var 2)) (da_cons (de_div (de_var 1) (de_var 2)) da_nil))))))
theorem dv_size (Γ : CL) (T : Fc K mg Γ) (G_ratio : FnG P w K mg base 2 "ratio" (sp_ratio Γ)) (cdv : Value) (A : Around) (outer : List Env) (s0 : Shared) (H : Hp) (E : XK) (hr : Room 2 (A.deeper (envOfC "size" (defScope (top 39)) s0.heap.objs.size f cdv))) : DSs (cxOf CX0 P w K mg base ["one"] "size" (defScope (top 39)) f cdv A outer s0 H E).nox (defBody (top 39)) (rd_size Γ) :=
 (dss_one (ds_ret (de_call G_ratio (hr.mono (by decide)) rfl (da_cons (de_add (de_mul (de_ix (de_var 0) de_int) (de_ix (de_var 0) de_int)) (de_mul (de_ix (de_var 0) de_int) (de_ix (de_var 0) de_int))) (da_cons (de_mul (de_ix (de_var 0) de_int) (de_ix (de_var 0) de_int)) da_nil)))))
theorem dv_Copy_growth (Γ : CL) (T : Fc K mg Γ) (G_size : FnG P w K mg base 3 "size" (sp_size Γ)) (cdv : Value) (A : Around) (outer : List Env) (s0 : Shared) (H : Hp) (E : XK) (hr : Room 3 (A.deeper (envOfC "Copy.growth" (defScope (inClass (top 46) 5)) s0.heap.objs.size f cdv))) : DSs (cxOf CX0 P w K mg base ["self"] "Copy.growth" (defScope (inClass (top 46) 5)) f cdv A outer s0 H E).nox (defBody (inClass (top 46) 5)) (rd_Copy_growth Γ) :=
 (dss_one (ds_ret (de_call G_size (hr.mono (by decide)) rfl (da_cons (de_fld (de_var 0) T.cl_Copy T.n_Copy_turn) da_nil))))
theorem dv_inverse (Γ : CL) (T : Fc K mg Γ) (G_lowest : FnG P w K mg base 2 "lowest" (sp_lowest Γ)) (cdv : Value) (A : Around) (outer : List Env) (s0 : Shared) (H : Hp) (E : XK) (hr : Room 2 (A.deeper (envOfC "inverse" (defScope (top 38)) s0.heap.objs.size f cdv))) : DSs (cxOf CX0 P w K mg base ["one"] "inverse" (defScope (top 38)) f cdv A outer s0 H E).nox (defBody (top 38)) (rd_inverse Γ) :=
 (dss_one (ds_ret (de_call G_lowest (hr.mono (by decide)) rfl (da_cons (de_mul (de_ix (de_var 0) de_int) (de_ix (de_var 0) de_int)) (da_cons (de_sub de_int (de_mul (de_ix (de_var 0) de_int) (de_ix (de_var 0) de_int))) (da_cons (de_add (de_mul (de_ix (de_var 0) de_int) (de_ix (de_var 0) de_int)) (de_mul (de_ix (de_var 0) de_int) (de_ix (de_var 0) de_int))) da_nil))))))
theorem dv_Copy___invert (Γ : CL) (T : Fc K mg Γ) (G_inverse : FnG P w K mg base 3 "inverse" (sp_inverse Γ)) (G_turned_over : FnG P w K mg base 1 "turned_over" (sp_turned_over Γ)) (G_opposite : FnG P w K mg base 1 "opposite" (sp_opposite Γ)) (G_multiplied : FnG P w K mg base 3 "multiplied" (sp_multiplied Γ)) (G_Copy___init_k_mirrored : MkK P w K mg base 5 "Copy" Γ.Copy (sp_Copy___init Γ) 2 ["mirrored"] gD_Copy_mirrored) (cdv : Value) (A : Around) (outer : List Env) (s0 : Shared) (H : Hp) (E : XK) (hr : Room 6 (A.deeper (envOfC "Copy.__invert__" (defScope (inClass (top 46) 4)) s0.heap.objs.size f cdv))) : DSs (cxOf CX0 P w K mg base ["self", "back", "shift"] "Copy.__invert__" (defScope (inClass (top 46) 4)) f cdv A outer s0 H E).nox (defBody (inClass (top 46) 4)) (rd_Copy___invert Γ) :=
 (dss_cons (ds_set (i := 1) sc_Copy___invert.nd (de_call G_inverse (hr.mono (by decide)) rfl (da_cons (de_if (dt_val (de_fld (de_var 0) T.cl_Copy T.n_Copy_mirrored)) (de_call G_turned_over (hr.mono (by decide)) rfl (da_cons (de_fld (de_var 0) T.cl_Copy T.n_Copy_turn) da_nil)) (de_fld (de_var 0) T.cl_Copy T.n_Copy_turn)) da_nil)))
 (dss_cons (ds_set (i := 2) sc_Copy___invert.nd (de_if (dt_val (de_fld (de_var 0) T.cl_Copy T.n_Copy_mirrored)) (de_call G_turned_over (hr.mono (by decide)) rfl (da_cons (de_fld (de_var 0) T.cl_Copy T.n_Copy_shift) da_nil)) (de_fld (de_var 0) T.cl_Copy T.n_Copy_shift)))
 (dss_one (ds_ret (de_makeK G_Copy___init_k_mirrored (hr.mono (by decide)) rfl (da_cons (de_var 1) (da_cons (de_call G_opposite (hr.mono (by decide)) rfl (da_cons (de_call G_multiplied (hr.mono (by decide)) rfl (da_cons (de_var 1) (da_cons (de_var 2) da_nil))) da_nil)) da_nil)) (dk_cons (de_fld (de_var 0) T.cl_Copy T.n_Copy_mirrored) dk_nil))))))
theorem dv_zones (Γ : CL) (T : Fc K mg Γ) (G_copies_ahead : FnG P w K mg base 10 "copies_ahead" (sp_copies_ahead Γ)) (G_Copy_growth : MtG P w K mg base 4 Γ.Copy (gtA K Γ.Copy "growth") (sp_Copy_growth Γ)) (G_ratio : FnG P w K mg base 2 "ratio" (sp_ratio Γ)) (G_carried : FnG P w K mg base 4 "carried" (sp_carried Γ)) (G_Copy___invert : MtG P w K mg base 7 Γ.Copy (He.ma K Γ.Copy "__invert__") (sp_Copy___invert Γ)) (cdv : Value) (A : Around) (outer : List Env) (s0 : Shared) (H : Hp) (E : XK) (hr : Room 10 (A.deeper (envOfC "zones" (defScope (top 62)) s0.heap.objs.size f cdv))) : DSs (cxOf CX0 P w K mg base ["chain", "found", "arm", "ahead", "growth", "ends", "reach"] "zones" (defScope (top 62)) f cdv A outer s0 H E).nox (defBody (top 62)) (rd_zones Γ) :=
 (dss_cons (ds_set (i := 1) sc_zones.nd (de_lstM da_nil))
 (dss_cons (ds_for (vs := [2, 3]) (di_zip rfl T.f_zip (da_cons (de_fld (de_var 0) T.cl_Chain T.n_Chain_arms) (da_cons (de_call G_copies_ahead (hr.mono (by decide)) rfl (da_cons (de_fld (de_var 0) T.cl_Chain T.n_Chain_arms) da_nil)) da_nil))) (dg_tup (dgs_cons (dg_name (i := 2) sc_zones.nd) (dgs_cons (dg_name (i := 3) sc_zones.nd) dgs_nil)))
 (dss_cons (ds_set (i := 4) sc_zones.nd (de_prop G_Copy_growth (hr.mono (by decide)) T.cl_Copy T.p_Copy_growth (de_var 3)))
 (dss_cons (ds_setLc (i := 5) [("reach", 6)] sc_zones.nd (sw_true rfl rfl rfl (by kernel_rfl)) (di_tup (de_tup (da_cons (de_fld (de_var 2) T.cl_Arm T.n_Arm_near) (da_cons (de_fld (de_var 2) T.cl_Arm T.n_Arm_far) da_nil)))) (by kernel_rfl) (fun _ _ _ _ _ => (dg_name (i := 6) sc_zones.nd)) (fun _ _ _ _ _ => dts_nil) (fun _ _ _ _ _ => (de_call G_ratio (hr.mono (by decide)) rfl (da_cons (de_mul (de_mul (de_var 6) (de_var 6)) (de_ix (de_var 4) de_int)) (da_cons (de_ix (de_var 4) de_int) da_nil)))))
 (dss_one (ds_expr (de_append (de_var 1) (da_cons (de_tup (da_cons (de_call G_carried (hr.mono (by decide)) rfl (da_cons (de_inv G_Copy___invert (hr.mono (by decide)) T.w_Copy___invert T.v_Copy___invert (de_var 3)) (da_cons (de_fld (de_var 2) T.cl_Arm T.n_Arm_pole) da_nil))) (da_cons (de_ix (de_var 5) de_int) (da_cons (de_ix (de_var 5) de_int) da_nil)))) da_nil)))))))
 (dss_one (ds_ret (de_frz (de_var 1))))))
theorem dv_is_less (Γ : CL) (T : Fc K mg Γ)  (cdv : Value) (A : Around) (outer : List Env) (s0 : Shared) (H : Hp) (E : XK) (hr : Room 0 (A.deeper (envOfC "is_less" (defScope (top 40)) s0.heap.objs.size f cdv))) : DSs (cxOf CX0 P w K mg base ["one", "other"] "is_less" (defScope (top 40)) f cdv A outer s0 H E).nox (defBody (top 40)) (rd_is_less Γ) :=
 (dss_one (ds_ret (de_lt (de_mul (de_ix (de_var 0) de_int) (de_ix (de_var 1) de_int)) (de_mul (de_ix (de_var 1) de_int) (de_ix (de_var 0) de_int)))))
theorem dv_is_in_ring (Γ : CL) (T : Fc K mg Γ) (G_size : FnG P w K mg base 3 "size" (sp_size Γ)) (G_less : FnG P w K mg base 4 "less" (sp_less Γ)) (G_is_less : FnG P w K mg base 1 "is_less" (sp_is_less Γ)) (cdv : Value) (A : Around) (outer : List Env) (s0 : Shared) (H : Hp) (E : XK) (hr : Room 4 (A.deeper (envOfC "is_in_ring" (defScope (top 64)) s0.heap.objs.size f cdv))) : DSs (cxOf CX0 P w K mg base ["spot", "ring", "distance"] "is_in_ring" (defScope (top 64)) f cdv A outer s0 H E).nox (defBody (top 64)) (rd_is_in_ring Γ) :=
 (dss_cons (ds_set (i := 2) sc_is_in_ring.nd (de_call G_size (hr.mono (by decide)) rfl (da_cons (de_call G_less (hr.mono (by decide)) rfl (da_cons (de_var 0) (da_cons (de_ix (de_var 1) de_int) da_nil))) da_nil)))
 (dss_one (ds_ret (de_and (de_not (de_call G_is_less (hr.mono (by decide)) rfl (da_cons (de_var 2) (da_cons (de_ix (de_var 1) de_int) da_nil)))) (de_one (de_not (de_call G_is_less (hr.mono (by decide)) rfl (da_cons (de_ix (de_var 1) de_int) (da_cons (de_var 2) da_nil)))))))))
theorem dv_reachable_spots (Γ : CL) (T : Fc K mg Γ) (G_is_int_in : FnG P w K mg base 1 "is_int_in" (sp_is_int_in Γ)) (G_zones : FnG P w K mg base 11 "zones" (sp_zones Γ)) (G_is_in_ring : FnG P w K mg base 5 "is_in_ring" (sp_is_in_ring Γ)) (cdv : Value) (A : Around) (outer : List Env) (s0 : Shared) (H : Hp) (E : XK) (hr : Room 11 (A.deeper (envOfC "reachable_spots" (defScope (top 63)) s0.heap.objs.size f cdv))) : DSs (cxOf CX0 P w K mg base ["chain", "limit", "rings", "found", "numbers", "x", "y", "ring"] "reachable_spots" (defScope (top 63)) f cdv A outer s0 H E).nox (defBody (top 63)) (rd_reachable_spots Γ) :=
 (dss_cons (ds_if (dt_not (dt_val (de_call G_is_int_in (hr.mono (by decide)) rfl (da_cons (de_var 1) (da_cons de_int (da_cons T.c_MAX_SIZE.de da_nil))))))
 (dss_one ds_never)
 dss_nil)
 (dss_cons (ds_par (i := 2) (j := 3) sc_reachable_spots.nd (da_cons (de_call G_zones (hr.mono (by decide)) rfl (da_cons (de_var 0) da_nil)) (da_cons (de_lstM da_nil) da_nil)))
 (dss_cons (ds_set (i := 4) sc_reachable_spots.nd (de_listRg2 rfl T.f_range rfl T.f_list (de_sub de_int (de_var 1)) (de_add (de_var 1) de_int)))
 (dss_cons (ds_for (vs := [5]) (di_list (de_var 4)) (dg_name (i := 5) sc_reachable_spots.nd)
 (dss_one (ds_for (vs := [6]) (di_list (de_var 4)) (dg_name (i := 6) sc_reachable_spots.nd)
 (dss_one (ds_if (dt_val (de_all rfl T.f_all (da_cons (de_lc [("ring", 7)] sc_reachable_spots.nd (di_list (de_var 2)) (by kernel_rfl) (fun _ _ _ _ _ => (dg_name (i := 7) sc_reachable_spots.nd)) (fun _ _ _ _ _ => dts_nil) (fun _ _ _ _ _ => (de_call G_is_in_ring (hr.mono (by decide)) rfl (da_cons (de_tup (da_cons (de_var 5) (da_cons (de_var 6) (da_cons de_int da_nil)))) (da_cons (de_var 7) da_nil))))) da_nil)))
 (dss_one (ds_expr (de_append (de_var 3) (da_cons (de_tup (da_cons (de_var 5) (da_cons (de_var 6) (da_cons de_int da_nil)))) da_nil))))
 dss_nil)))))
 (dss_one (ds_ret (de_frz (de_var 3))))))))
theorem dv_law_ratio (Γ : CL) (T : Fc K mg Γ) (G_law_lowest : FnG P w K mg base 2 "_law_lowest" (sp_law_lowest Γ)) (cdv : Value) (A : Around) (outer : List Env) (s0 : Shared) (H : Hp) (E : XK) (hr : Room 2 (A.deeper (envOfC "_law_ratio" (defScope (top 83)) s0.heap.objs.size f cdv))) : DSs (cxOf CX0 P w K mg base ["_law_p", "_law_q"] "_law_ratio" (defScope (top 83)) f cdv A outer s0 H E).nox (defBody (top 83)) (rd_law_ratio Γ) :=
 (dss_one (ds_ret (de_tup (da_cons (de_ix (de_call G_law_lowest (hr.mono (by decide)) rfl (da_cons (de_var 0) (da_cons de_int (da_cons (de_var 1) da_nil)))) de_int) (da_cons (de_ix (de_call G_law_lowest (hr.mono (by decide)) rfl (da_cons (de_var 0) (da_cons de_int (da_cons (de_var 1) da_nil)))) de_int) da_nil)))))
theorem dv_law_size (Γ : CL) (T : Fc K mg Γ) (G_law_ratio : FnG P w K mg base 3 "_law_ratio" (sp_law_ratio Γ)) (cdv : Value) (A : Around) (outer : List Env) (s0 : Shared) (H : Hp) (E : XK) (hr : Room 3 (A.deeper (envOfC "_law_size" (defScope (top 84)) s0.heap.objs.size f cdv))) : DSs (cxOf CX0 P w K mg base ["_law_one"] "_law_size" (defScope (top 84)) f cdv A outer s0 H E).nox (defBody (top 84)) (rd_law_size Γ) :=
 (dss_one (ds_ret (de_call G_law_ratio (hr.mono (by decide)) rfl (da_cons (de_add (de_mul (de_ix (de_var 0) de_int) (de_ix (de_var 0) de_int)) (de_mul (de_ix (de_var 0) de_int) (de_ix (de_var 0) de_int))) (da_cons (de_mul (de_ix (de_var 0) de_int) (de_ix (de_var 0) de_int)) da_nil)))))
theorem dv_law_plus (Γ : CL) (T : Fc K mg Γ) (G_law_lowest : FnG P w K mg base 2 "_law_lowest" (sp_law_lowest Γ)) (cdv : Value) (A : Around) (outer : List Env) (s0 : Shared) (H : Hp) (E : XK) (hr : Room 2 (A.deeper (envOfC "_law_plus" (defScope (top 85)) s0.heap.objs.size f cdv))) : DSs (cxOf CX0 P w K mg base ["_law_one", "_law_other", "_law_x", "_law_y"] "_law_plus" (defScope (top 85)) f cdv A outer s0 H E).nox (defBody (top 85)) (rd_law_plus Γ) :=
 (dss_cons (ds_set (i := 2) sc_law_plus.nd (de_add (de_mul (de_ix (de_var 0) de_int) (de_ix (de_var 1) de_int)) (de_mul (de_ix (de_var 1) de_int) (de_ix (de_var 0) de_int))))
 (dss_cons (ds_set (i := 3) sc_law_plus.nd (de_add (de_mul (de_ix (de_var 0) de_int) (de_ix (de_var 1) de_int)) (de_mul (de_ix (de_var 1) de_int) (de_ix (de_var 0) de_int))))
 (dss_one (ds_ret (de_call G_law_lowest (hr.mono (by decide)) rfl (da_cons (de_var 2) (da_cons (de_var 3) (da_cons (de_mul (de_ix (de_var 0) de_int) (de_ix (de_var 1) de_int)) da_nil))))))))
theorem dv_law_minus (Γ : CL) (T : Fc K mg Γ) (G_law_plus : FnG P w K mg base 3 "_law_plus" (sp_law_plus Γ)) (cdv : Value) (A : Around) (outer : List Env) (s0 : Shared) (H : Hp) (E : XK) (hr : Room 3 (A.deeper (envOfC "_law_minus" (defScope (top 86)) s0.heap.objs.size f cdv))) : DSs (cxOf CX0 P w K mg base ["_law_one", "_law_other"] "_law_minus" (defScope (top 86)) f cdv A outer s0 H E).nox (defBody (top 86)) (rd_law_minus Γ) :=
 (dss_one (ds_ret (de_call G_law_plus (hr.mono (by decide)) rfl (da_cons (de_var 0) (da_cons (de_tup (da_cons (de_sub de_int (de_ix (de_var 1) de_int)) (da_cons (de_sub de_int (de_ix (de_var 1) de_int)) (da_cons (de_ix (de_var 1) de_int) da_nil)))) da_nil)))))
theorem dv_law_less (Γ : CL) (T : Fc K mg Γ)  (cdv : Value) (A : Around) (outer : List Env) (s0 : Shared) (H : Hp) (E : XK) (hr : Room 0 (A.deeper (envOfC "_law_less" (defScope (top 87)) s0.heap.objs.size f cdv))) : DSs (cxOf CX0 P w K mg base ["_law_one", "_law_other"] "_law_less" (defScope (top 87)) f cdv A outer s0 H E).nox (defBody (top 87)) (rd_law_less Γ) :=
 (dss_one (ds_ret (de_lt (de_mul (de_ix (de_var 0) de_int) (de_ix (de_var 1) de_int)) (de_mul (de_ix (de_var 1) de_int) (de_ix (de_var 0) de_int)))))
theorem dv_law_reached (Γ : CL) (T : Fc K mg Γ) (G_law_size : FnG P w K mg base 4 "_law_size" (sp_law_size Γ)) (G_law_minus : FnG P w K mg base 4 "_law_minus" (sp_law_minus Γ)) (G_law_less : FnG P w K mg base 1 "_law_less" (sp_law_less Γ)) (cdv : Value) (A : Around) (outer : List Env) (s0 : Shared) (H : Hp) (E : XK) (hr : Room 4 (A.deeper (envOfC "_law_reached" (defScope (top 88)) s0.heap.objs.size f cdv))) : DSs (cxOf CX0 P w K mg base ["_law_told", "_law_spot_here", "_law_distance"] "_law_reached" (defScope (top 88)) f cdv A outer s0 H E).nox (defBody (top 88)) (rd_law_reached Γ) :=
 (dss_cons (ds_set (i := 2) sc_law_reached.nd (de_call G_law_size (hr.mono (by decide)) rfl (da_cons (de_call G_law_minus (hr.mono (by decide)) rfl (da_cons (de_var 1) (da_cons (de_ix (de_var 0) de_int) da_nil))) da_nil)))
 (dss_one (ds_ret (de_and (de_not (de_call G_law_less (hr.mono (by decide)) rfl (da_cons (de_var 2) (da_cons (de_tup (da_cons (de_mul (de_ix (de_var 0) de_int) (de_ix (de_var 0) de_int)) (da_cons de_int da_nil))) da_nil)))) (de_one (de_not (de_call G_law_less (hr.mono (by decide)) rfl (da_cons (de_tup (da_cons (de_mul (de_ix (de_var 0) de_int) (de_ix (de_var 0) de_int)) (da_cons de_int da_nil))) (da_cons (de_var 2) da_nil)))))))))
theorem dv_law_times (Γ : CL) (T : Fc K mg Γ) (G_law_lowest : FnG P w K mg base 2 "_law_lowest" (sp_law_lowest Γ)) (cdv : Value) (A : Around) (outer : List Env) (s0 : Shared) (H : Hp) (E : XK) (hr : Room 2 (A.deeper (envOfC "_law_times" (defScope (top 89)) s0.heap.objs.size f cdv))) : DSs (cxOf CX0 P w K mg base ["_law_one", "_law_other", "_law_x", "_law_y"] "_law_times" (defScope (top 89)) f cdv A outer s0 H E).nox (defBody (top 89)) (rd_law_times Γ) :=
 (dss_cons (ds_set (i := 2) sc_law_times.nd (de_sub (de_mul (de_ix (de_var 0) de_int) (de_ix (de_var 1) de_int)) (de_mul (de_ix (de_var 0) de_int) (de_ix (de_var 1) de_int))))
 (dss_cons (ds_set (i := 3) sc_law_times.nd (de_add (de_mul (de_ix (de_var 0) de_int) (de_ix (de_var 1) de_int)) (de_mul (de_ix (de_var 0) de_int) (de_ix (de_var 1) de_int))))
 (dss_one (ds_ret (de_call G_law_lowest (hr.mono (by decide)) rfl (da_cons (de_var 2) (da_cons (de_var 3) (da_cons (de_mul (de_ix (de_var 0) de_int) (de_ix (de_var 1) de_int)) da_nil))))))))
theorem dv_law_over (Γ : CL) (T : Fc K mg Γ)  (cdv : Value) (A : Around) (outer : List Env) (s0 : Shared) (H : Hp) (E : XK) (hr : Room 0 (A.deeper (envOfC "_law_over" (defScope (top 90)) s0.heap.objs.size f cdv))) : DSs (cxOf CX0 P w K mg base ["_law_one"] "_law_over" (defScope (top 90)) f cdv A outer s0 H E).nox (defBody (top 90)) (rd_law_over Γ) :=
 (dss_one (ds_ret (de_tup (da_cons (de_ix (de_var 0) de_int) (da_cons (de_sub de_int (de_ix (de_var 0) de_int)) (da_cons (de_ix (de_var 0) de_int) da_nil))))))
theorem dv_law_near (Γ : CL) (T : Fc K mg Γ) (G_law_minus : FnG P w K mg base 4 "_law_minus" (sp_law_minus Γ)) (G_law_times : FnG P w K mg base 3 "_law_times" (sp_law_times Γ)) (G_law_over : FnG P w K mg base 1 "_law_over" (sp_law_over Γ)) (G_law_size : FnG P w K mg base 4 "_law_size" (sp_law_size Γ)) (G_law_less : FnG P w K mg base 1 "_law_less" (sp_law_less Γ)) (G_law_ratio : FnG P w K mg base 3 "_law_ratio" (sp_law_ratio Γ)) (cdv : Value) (A : Around) (outer : List Env) (s0 : Shared) (H : Hp) (E : XK) (hr : Room 4 (A.deeper (envOfC "_law_near" (defScope (top 91)) s0.heap.objs.size f cdv))) : DSs (cxOf CX0 P w K mg base ["_law_pole", "_law_one", "_law_other", "_law_way", "_law_here", "_law_along", "_law_length", "_law_ends"] "_law_near" (defScope (top 91)) f cdv A outer s0 H E).nox (defBody (top 91)) (rd_law_near Γ) :=
 (dss_cons (ds_par (i := 3) (j := 4) sc_law_near.nd (da_cons (de_call G_law_minus (hr.mono (by decide)) rfl (da_cons (de_var 2) (da_cons (de_var 1) da_nil))) (da_cons (de_call G_law_minus (hr.mono (by decide)) rfl (da_cons (de_var 0) (da_cons (de_var 1) da_nil))) da_nil)))
 (dss_cons (ds_set (i := 5) sc_law_near.nd (de_call G_law_times (hr.mono (by decide)) rfl (da_cons (de_var 4) (da_cons (de_call G_law_over (hr.mono (by decide)) rfl (da_cons (de_var 3) da_nil)) da_nil))))
 (dss_cons (ds_set (i := 6) sc_law_near.nd (de_call G_law_size (hr.mono (by decide)) rfl (da_cons (de_var 3) da_nil)))
 (dss_cons (ds_if (dt_w (dw_or (dt_le (de_ix (de_var 5) de_int) de_int) (dw_or1 (dt_not (dt_val (de_call G_law_less (hr.mono (by decide)) rfl (da_cons (de_tup (da_cons (de_ix (de_var 5) de_int) (da_cons (de_ix (de_var 5) de_int) da_nil))) (da_cons (de_var 6) da_nil))))))))
 (dss_cons (ds_set (i := 7) sc_law_near.nd (de_lst (da_cons (de_call G_law_size (hr.mono (by decide)) rfl (da_cons (de_var 4) da_nil)) (da_cons (de_call G_law_size (hr.mono (by decide)) rfl (da_cons (de_call G_law_minus (hr.mono (by decide)) rfl (da_cons (de_var 0) (da_cons (de_var 2) da_nil))) da_nil)) da_nil))))
 (dss_one (ds_ret (de_if (dt_val (de_call G_law_less (hr.mono (by decide)) rfl (da_cons (de_ix (de_var 7) de_int) (da_cons (de_ix (de_var 7) de_int) da_nil)))) (de_ix (de_var 7) de_int) (de_ix (de_var 7) de_int)))))
 dss_nil)
 (dss_one (ds_ret (de_call G_law_ratio (hr.mono (by decide)) rfl (da_cons (de_mul (de_mul (de_ix (de_var 5) de_int) (de_ix (de_var 5) de_int)) (de_ix (de_var 6) de_int)) (da_cons (de_mul (de_mul (de_ix (de_var 5) de_int) (de_ix (de_var 5) de_int)) (de_ix (de_var 6) de_int)) da_nil)))))))))
theorem dv_law_traced (Γ : CL) (T : Fc K mg Γ) (G_law_reached : FnG P w K mg base 5 "_law_reached" (sp_law_reached Γ)) (G_law_near : FnG P w K mg base 5 "_law_near" (sp_law_near Γ)) (G_law_less : FnG P w K mg base 1 "_law_less" (sp_law_less Γ)) (cdv : Value) (A : Around) (outer : List Env) (s0 : Shared) (H : Hp) (E : XK) (hr : Room 5 (A.deeper (envOfC "_law_traced" (defScope (top 92)) s0.heap.objs.size f cdv))) : DSs (cxOf CX0 P w K mg base ["_law_told", "_law_stroke", "_law_k", "_law_least_far"] "_law_traced" (defScope (top 92)) f cdv A outer s0 H E).nox (defBody (top 92)) (rd_law_traced Γ) :=
 (dss_cons (ds_if (dt_eq hr.units (de_len rfl T.f_len (da_cons (de_var 1) da_nil)) de_int)
 (dss_one (ds_ret (de_if (dt_val (de_call G_law_reached (hr.mono (by decide)) rfl (da_cons (de_var 0) (da_cons (de_ix (de_var 1) de_int) da_nil)))) de_non de_int)))
 dss_nil)
 (dss_cons (ds_for (vs := [2]) (di_range1 rfl T.f_range (da_cons (de_sub (de_len rfl T.f_len (da_cons (de_var 1) da_nil)) de_int) da_nil)) (dg_name (i := 2) sc_law_traced.nd)
 (dss_cons (ds_set (i := 3) sc_law_traced.nd (de_call G_law_near (hr.mono (by decide)) rfl (da_cons (de_ix (de_var 0) de_int) (da_cons (de_ix (de_var 1) (de_var 2)) (da_cons (de_ix (de_var 1) (de_add (de_var 2) de_int)) da_nil)))))
 (dss_cons (ds_if (dt_w (dw_or (dt_not (dt_val (de_call G_law_reached (hr.mono (by decide)) rfl (da_cons (de_var 0) (da_cons (de_ix (de_var 1) (de_var 2)) da_nil))))) (dw_or1 (dt_not (dt_val (de_call G_law_reached (hr.mono (by decide)) rfl (da_cons (de_var 0) (da_cons (de_ix (de_var 1) (de_add (de_var 2) de_int)) da_nil))))))))
 (dss_one (ds_ret (de_var 2)))
 dss_nil)
 (dss_one (ds_if (dt_val (de_call G_law_less (hr.mono (by decide)) rfl (da_cons (de_var 3) (da_cons (de_tup (da_cons (de_mul (de_ix (de_var 0) de_int) (de_ix (de_var 0) de_int)) (da_cons de_int da_nil))) da_nil))))
 (dss_one (ds_ret (de_var 2)))
 dss_nil)))))
 (dss_one (ds_ret de_non))))
theorem dv_law_about (Γ : CL) (T : Fc K mg Γ) (G_law_times : FnG P w K mg base 3 "_law_times" (sp_law_times Γ)) (G_law_over : FnG P w K mg base 1 "_law_over" (sp_law_over Γ)) (G_law_minus : FnG P w K mg base 4 "_law_minus" (sp_law_minus Γ)) (cdv : Value) (A : Around) (outer : List Env) (s0 : Shared) (H : Hp) (E : XK) (hr : Room 4 (A.deeper (envOfC "_law_about" (defScope (top 93)) s0.heap.objs.size f cdv))) : DSs (cxOf CX0 P w K mg base ["_law_told", "_law_pole", "_law_turn_here", "_law_near_here", "_law_far", "_law_flipped", "_law_carried_to"] "_law_about" (defScope (top 93)) f cdv A outer s0 H E).nox (defBody (top 93)) (rd_law_about Γ) :=
 (dss_cons (ds_asg (vs := [1, 2, 3, 4, 5]) (de_var 0) (dg_tup (dgs_cons (dg_name (i := 1) sc_law_about.nd) (dgs_cons (dg_name (i := 2) sc_law_about.nd) (dgs_cons (dg_name (i := 3) sc_law_about.nd) (dgs_cons (dg_name (i := 4) sc_law_about.nd) (dgs_cons (dg_name (i := 5) sc_law_about.nd) dgs_nil)))))))
 (dss_cons (ds_set (i := 6) sc_law_about.nd (de_call G_law_times (hr.mono (by decide)) rfl (da_cons (de_var 2) (da_cons (de_if (dt_val (de_var 5)) (de_call G_law_over (hr.mono (by decide)) rfl (da_cons (de_var 1) da_nil)) (de_var 1)) da_nil))))
 (dss_one (ds_ret (de_tup (da_cons (de_var 2) (da_cons (de_call G_law_minus (hr.mono (by decide)) rfl (da_cons (de_var 1) (da_cons (de_var 6) da_nil))) (da_cons (de_var 5) da_nil))))))))
theorem dv_law_carried (Γ : CL) (T : Fc K mg Γ) (G_law_plus : FnG P w K mg base 3 "_law_plus" (sp_law_plus Γ)) (G_law_times : FnG P w K mg base 3 "_law_times" (sp_law_times Γ)) (G_law_over : FnG P w K mg base 1 "_law_over" (sp_law_over Γ)) (cdv : Value) (A : Around) (outer : List Env) (s0 : Shared) (H : Hp) (E : XK) (hr : Room 3 (A.deeper (envOfC "_law_carried" (defScope (top 94)) s0.heap.objs.size f cdv))) : DSs (cxOf CX0 P w K mg base ["_law_told", "_law_spot_here"] "_law_carried" (defScope (top 94)) f cdv A outer s0 H E).nox (defBody (top 94)) (rd_law_carried Γ) :=
 (dss_one (ds_ret (de_call G_law_plus (hr.mono (by decide)) rfl (da_cons (de_call G_law_times (hr.mono (by decide)) rfl (da_cons (de_ix (de_var 0) de_int) (da_cons (de_if (dt_val (de_ix (de_var 0) de_int)) (de_call G_law_over (hr.mono (by decide)) rfl (da_cons (de_var 1) da_nil)) (de_var 1)) da_nil))) (da_cons (de_ix (de_var 0) de_int) da_nil)))))
theorem dv_law_moved (Γ : CL) (T : Fc K mg Γ) (G_law_carried : FnG P w K mg base 4 "_law_carried" (sp_law_carried Γ)) (cdv : Value) (A : Around) (outer : List Env) (s0 : Shared) (H : Hp) (E : XK) (hr : Room 4 (A.deeper (envOfC "_law_moved" (defScope (top 95)) s0.heap.objs.size f cdv))) : DSs (cxOf CX0 P w K mg base ["_law_told", "_law_strokes", "_law_found", "_law_stroke", "_law_spot_here"] "_law_moved" (defScope (top 95)) f cdv A outer s0 H E).nox (defBody (top 95)) (rd_law_moved Γ) :=
 (dss_cons (ds_set (i := 2) sc_law_moved.nd (de_lstM da_nil))
 (dss_cons (ds_for (vs := [3]) (di_tup (de_var 1)) (dg_name (i := 3) sc_law_moved.nd)
 (dss_one (ds_expr (de_append (de_var 2) (da_cons (de_tuple rfl T.f_tuple (da_cons (de_lc [("_law_spot_here", 4)] sc_law_moved.nd (di_tup (de_var 3)) (by kernel_rfl) (fun _ _ _ _ _ => (dg_name (i := 4) sc_law_moved.nd)) (fun _ _ _ _ _ => dts_nil) (fun _ _ _ _ _ => (de_call G_law_carried (hr.mono (by decide)) rfl (da_cons (de_var 0) (da_cons (de_var 4) da_nil))))) da_nil)) da_nil)))))
 (dss_one (ds_ret (de_tuple rfl T.f_tuple (da_cons (de_frz (de_var 2)) da_nil))))))
theorem dv_law_missed (Γ : CL) (T : Fc K mg Γ) (G_law_traced : FnG P w K mg base 6 "_law_traced" (sp_law_traced Γ)) (G_law_about : FnG P w K mg base 5 "_law_about" (sp_law_about Γ)) (G_law_moved : FnG P w K mg base 5 "_law_moved" (sp_law_moved Γ)) (cdv : Value) (A : Around) (outer : List Env) (s0 : Shared) (H : Hp) (E : XK) (hr : Room 6 (A.deeper (envOfC "_law_missed" (defScope (top 96)) s0.heap.objs.size f cdv))) : DSs (cxOf CX0 P w K mg base ["_law_tolds", "_law_strokes", "_law_number", "_law_index", "_law_part", "_law_told"] "_law_missed" (defScope (top 96)) f cdv A outer s0 H E).nox (defBody (top 96)) (rd_law_missed Γ) :=
 (dss_cons (ds_for (vs := [2]) (di_range1 rfl T.f_range (da_cons (de_len rfl T.f_len (da_cons (de_var 0) da_nil)) da_nil)) (dg_name (i := 2) sc_law_missed.nd)
 (dss_cons (ds_for (vs := [3]) (di_range1 rfl T.f_range (da_cons (de_len rfl T.f_len (da_cons (de_var 1) da_nil)) da_nil)) (dg_name (i := 3) sc_law_missed.nd)
 (dss_cons (ds_set (i := 4) sc_law_missed.nd (de_call G_law_traced (hr.mono (by decide)) rfl (da_cons (de_ix (de_var 0) (de_var 2)) (da_cons (de_ix (de_var 1) (de_var 3)) da_nil))))
 (dss_one (ds_if (dt_notN (de_var 4) de_non)
 (dss_one (ds_ret (de_tup (da_cons (de_tup (da_cons (de_var 2) (da_cons (de_var 3) (da_cons (de_var 4) da_nil)))) (da_cons (de_tup da_nil) da_nil)))))
 dss_nil))))
 (dss_cons (ds_set (i := 5) sc_law_missed.nd (de_call G_law_about (hr.mono (by decide)) rfl (da_cons (de_ix (de_var 0) (de_var 2)) da_nil)))
 (dss_one (ds_set (i := 1) sc_law_missed.nd (de_call G_law_moved (hr.mono (by decide)) rfl (da_cons (de_var 5) (da_cons (de_var 1) da_nil))))))))
 (dss_one (ds_ret (de_tup (da_cons de_non (da_cons (de_var 1) da_nil))))))
theorem dv_law_equal (Γ : CL) (T : Fc K mg Γ) {k m : Nat} (G_law_equal : FnG P w K mg base k "_law_equal" (sp_law_equal Γ m)) (cdv : Value) (A : Around) (outer : List Env) (s0 : Shared) (H : Hp) (E : XK) (hr : Room k (A.deeper (envOfC "_law_equal" (defScope (top 97)) s0.heap.objs.size f cdv))) : DSs (cxOf CX0 P w K mg base ["_law_actual", "_law_expected", "_law_k"] "_law_equal" (defScope (top 97)) f cdv A outer s0 H E).nox (defBody (top 97)) (rd_law_equal Γ m) :=
 (dss_cons (ds_if (dt_isN (de_var 1) de_non)
 (dss_one (ds_ret (de_isN (de_var 0) de_non)))
 dss_nil)
 (dss_cons (ds_if (dt_val (de_isi rfl T.f_isinstance (da_cons (de_var 1) (da_cons (de_ty (n := "bool") rfl T.f_bool (by decide +kernel)) da_nil))))
 (dss_one (ds_ret (de_and (de_isi rfl T.f_isinstance (da_cons (de_var 0) (da_cons (de_ty (n := "bool") rfl T.f_bool (by decide +kernel)) da_nil))) (de_one (de_eq hr.units (de_var 0) (de_var 1))))))
 dss_nil)
 (dss_cons (ds_if (dt_val (de_isi rfl T.f_isinstance (da_cons (de_var 1) (da_cons (de_ty (n := "int") rfl T.f_int (by decide +kernel)) da_nil))))
 (dss_one (ds_ret (de_and (de_isi rfl T.f_isinstance (da_cons (de_var 0) (da_cons (de_ty (n := "int") rfl T.f_int (by decide +kernel)) da_nil))) (de_and (de_not (de_isi rfl T.f_isinstance (da_cons (de_var 0) (da_cons (de_ty (n := "bool") rfl T.f_bool (by decide +kernel)) da_nil)))) (de_one (de_eq hr.units (de_var 0) (de_var 1)))))))
 dss_nil)
 (dss_cons (ds_if (dt_val (de_isi rfl T.f_isinstance (da_cons (de_var 1) (da_cons (de_ty (n := "str") rfl T.f_str (by decide +kernel)) da_nil))))
 (dss_one (ds_ret (de_and (de_isi rfl T.f_isinstance (da_cons (de_var 0) (da_cons (de_ty (n := "str") rfl T.f_str (by decide +kernel)) da_nil))) (de_one (de_eq hr.units (de_var 0) (de_var 1))))))
 dss_nil)
 (dss_cons (ds_if (dt_ne hr.units (de_isi rfl T.f_isinstance (da_cons (de_var 1) (da_cons (de_ty (n := "tuple") rfl T.f_tuple (by decide +kernel)) da_nil))) (de_isi rfl T.f_isinstance (da_cons (de_var 0) (da_cons (de_ty (n := "tuple") rfl T.f_tuple (by decide +kernel)) da_nil))))
 (dss_one (ds_ret de_bl))
 dss_nil)
 (dss_cons (ds_if (dt_ne hr.units (de_isi rfl T.f_isinstance (da_cons (de_var 1) (da_cons (de_ty (n := "list") rfl T.f_list (by decide +kernel)) da_nil))) (de_isi rfl T.f_isinstance (da_cons (de_var 0) (da_cons (de_ty (n := "list") rfl T.f_list (by decide +kernel)) da_nil))))
 (dss_one (ds_ret de_bl))
 dss_nil)
 (dss_cons (ds_if (dt_ne hr.units (de_len rfl T.f_len (da_cons (de_var 0) da_nil)) (de_len rfl T.f_len (da_cons (de_var 1) da_nil)))
 (dss_one (ds_ret de_bl))
 dss_nil)
 (dss_one (ds_ret (de_all rfl T.f_all (da_cons (de_lc [("_law_k", 2)] sc_law_equal.nd (di_range1 rfl T.f_range (da_cons (de_len rfl T.f_len (da_cons (de_var 1) da_nil)) da_nil)) (by kernel_rfl) (fun _ _ _ _ _ => (dg_name (i := 2) sc_law_equal.nd)) (fun _ _ _ _ _ => dts_nil) (fun _ _ _ _ _ => (de_call G_law_equal hr rfl (da_cons (de_ix (de_var 0) (de_var 2)) (da_cons (de_ix (de_var 1) (de_var 2)) da_nil))))) da_nil)))))))))))
theorem dv_parts_of (Γ : CL) (T : Fc K mg Γ)  (cdv : Value) (A : Around) (outer : List Env) (s0 : Shared) (H : Hp) (E : XK) (hr : Room 0 (A.deeper (envOfC "parts_of" (defScope (top 54)) s0.heap.objs.size f cdv))) : DSs (cxOf CX0 P w K mg base ["stroke"] "parts_of" (defScope (top 54)) f cdv A outer s0 H E).nox (defBody (top 54)) (rd_parts_of Γ) :=
 (dss_one (ds_ret (de_if (dt_eq hr.units (de_len rfl T.f_len (da_cons (de_var 0) da_nil)) de_int) (de_lst (da_cons (de_tup (da_cons (de_ix (de_var 0) de_int) (da_cons (de_ix (de_var 0) de_int) da_nil))) da_nil)) (de_listZip rfl T.f_zip rfl T.f_list (da_cons (de_var 0) (da_cons (de_slice (de_var 0) (do_some de_int) do_none) da_nil))))))
theorem dv_farthest (Γ : CL) (T : Fc K mg Γ) (G_size : FnG P w K mg base 3 "size" (sp_size Γ)) (G_less : FnG P w K mg base 4 "less" (sp_less Γ)) (G_is_less : FnG P w K mg base 1 "is_less" (sp_is_less Γ)) (cdv : Value) (A : Around) (outer : List Env) (s0 : Shared) (H : Hp) (E : XK) (hr : Room 4 (A.deeper (envOfC "farthest" (defScope (top 53)) s0.heap.objs.size f cdv))) : DSs (cxOf CX0 P w K mg base ["pole", "one", "other", "distances"] "farthest" (defScope (top 53)) f cdv A outer s0 H E).nox (defBody (top 53)) (rd_farthest Γ) :=
 (dss_cons (ds_set (i := 3) sc_farthest.nd (de_lst (da_cons (de_call G_size (hr.mono (by decide)) rfl (da_cons (de_call G_less (hr.mono (by decide)) rfl (da_cons (de_var 1) (da_cons (de_var 0) da_nil))) da_nil)) (da_cons (de_call G_size (hr.mono (by decide)) rfl (da_cons (de_call G_less (hr.mono (by decide)) rfl (da_cons (de_var 2) (da_cons (de_var 0) da_nil))) da_nil)) da_nil))))
 (dss_one (ds_ret (de_if (dt_val (de_call G_is_less (hr.mono (by decide)) rfl (da_cons (de_ix (de_var 3) de_int) (da_cons (de_ix (de_var 3) de_int) da_nil)))) (de_ix (de_var 3) de_int) (de_ix (de_var 3) de_int)))))
theorem dv_common_multiple (Γ : CL) (T : Fc K mg Γ) (G_common_divisor : FnG P w K mg base 1 "common_divisor" (sp_common_divisor Γ)) (cdv : Value) (A : Around) (outer : List Env) (s0 : Shared) (H : Hp) (E : XK) (hr : Room 1 (A.deeper (envOfC "common_multiple" (defScope (top 27)) s0.heap.objs.size f cdv))) : DSs (cxOf CX0 P w K mg base ["values", "found", "value"] "common_multiple" (defScope (top 27)) f cdv A outer s0 H E).nox (defBody (top 27)) (rd_common_multiple Γ) :=
 (dss_cons (ds_set (i := 1) sc_common_multiple.nd de_int)
 (dss_cons (ds_for (vs := [2]) (di_list (de_var 0)) (dg_name (i := 2) sc_common_multiple.nd)
 (dss_one (ds_set (i := 1) sc_common_multiple.nd (de_mul (de_div (de_var 1) (de_call G_common_divisor (hr.mono (by decide)) rfl (da_cons (de_var 1) (da_cons (de_var 2) da_nil)))) (de_var 2)))))
 (dss_one (ds_ret (de_var 1)))))
theorem dv_least (Γ : CL) (T : Fc K mg Γ) (G_is_less : FnG P w K mg base 1 "is_less" (sp_is_less Γ)) (cdv : Value) (A : Around) (outer : List Env) (s0 : Shared) (H : Hp) (E : XK) (hr : Room 1 (A.deeper (envOfC "least" (defScope (top 41)) s0.heap.objs.size f cdv))) : DSs (cxOf CX0 P w K mg base ["one", "other"] "least" (defScope (top 41)) f cdv A outer s0 H E).nox (defBody (top 41)) (rd_least Γ) :=
 (dss_one (ds_ret (de_if (dt_val (de_call G_is_less (hr.mono (by decide)) rfl (da_cons (de_var 1) (da_cons (de_var 0) da_nil)))) (de_var 1) (de_var 0))))
theorem dv_nearest (Γ : CL) (T : Fc K mg Γ) (G_common_multiple : FnG P w K mg base 2 "common_multiple" (sp_common_multiple Γ)) (G_ratio : FnG P w K mg base 2 "ratio" (sp_ratio Γ)) (G_least : FnG P w K mg base 2 "least" (sp_least Γ)) (G_size : FnG P w K mg base 3 "size" (sp_size Γ)) (G_less : FnG P w K mg base 4 "less" (sp_less Γ)) (cdv : Value) (A : Around) (outer : List Env) (s0 : Shared) (H : Hp) (E : XK) (hr : Room 4 (A.deeper (envOfC "nearest" (defScope (top 52)) s0.heap.objs.size f cdv))) : DSs (cxOf CX0 P w K mg base ["pole", "one", "other", "scale", "spots", "spot", "right", "up", "across", "high", "length", "along", "aside"] "nearest" (defScope (top 52)) f cdv A outer s0 H E).nox (defBody (top 52)) (rd_nearest Γ) :=
 (dss_cons (ds_set (i := 3) sc_nearest.nd (de_call G_common_multiple (hr.mono (by decide)) rfl (da_cons (de_lst (da_cons (de_ix (de_var 0) de_int) (da_cons (de_ix (de_var 1) de_int) (da_cons (de_ix (de_var 2) de_int) da_nil)))) da_nil)))
 (dss_cons (ds_setLc (i := 4) [("spot", 5)] sc_nearest.nd (sw_true rfl rfl rfl (by kernel_rfl)) (di_tup (de_tup (da_cons (de_var 0) (da_cons (de_var 1) (da_cons (de_var 2) da_nil))))) (by kernel_rfl) (fun _ _ _ _ _ => (dg_name (i := 5) sc_nearest.nd)) (fun _ _ _ _ _ => dts_nil) (fun _ _ _ _ _ => (de_tup (da_cons (de_mul (de_ix (de_var 5) de_int) (de_div (de_var 3) (de_ix (de_var 5) de_int))) (da_cons (de_mul (de_ix (de_var 5) de_int) (de_div (de_var 3) (de_ix (de_var 5) de_int))) da_nil)))))
 (dss_cons (ds_par (i := 6) (j := 7) sc_nearest.nd (da_cons (de_sub (de_ix (de_ix (de_var 4) de_int) de_int) (de_ix (de_ix (de_var 4) de_int) de_int)) (da_cons (de_sub (de_ix (de_ix (de_var 4) de_int) de_int) (de_ix (de_ix (de_var 4) de_int) de_int)) da_nil)))
 (dss_cons (ds_par (i := 8) (j := 9) sc_nearest.nd (da_cons (de_sub (de_ix (de_ix (de_var 4) de_int) de_int) (de_ix (de_ix (de_var 4) de_int) de_int)) (da_cons (de_sub (de_ix (de_ix (de_var 4) de_int) de_int) (de_ix (de_ix (de_var 4) de_int) de_int)) da_nil)))
 (dss_cons (ds_set (i := 10) sc_nearest.nd (de_add (de_mul (de_var 6) (de_var 6)) (de_mul (de_var 7) (de_var 7))))
 (dss_cons (ds_set (i := 11) sc_nearest.nd (de_add (de_mul (de_var 8) (de_var 6)) (de_mul (de_var 9) (de_var 7))))
 (dss_cons (ds_if (dt_chain_lt_lt de_int (de_var 11) (de_var 10))
 (dss_cons (ds_set (i := 12) sc_nearest.nd (de_sub (de_mul (de_var 8) (de_var 7)) (de_mul (de_var 9) (de_var 6))))
 (dss_one (ds_ret (de_call G_ratio (hr.mono (by decide)) rfl (da_cons (de_mul (de_var 12) (de_var 12)) (da_cons (de_mul (de_mul (de_var 10) (de_var 3)) (de_var 3)) da_nil))))))
 dss_nil)
 (dss_one (ds_ret (de_call G_least (hr.mono (by decide)) rfl (da_cons (de_call G_size (hr.mono (by decide)) rfl (da_cons (de_call G_less (hr.mono (by decide)) rfl (da_cons (de_var 1) (da_cons (de_var 0) da_nil))) da_nil)) (da_cons (de_call G_size (hr.mono (by decide)) rfl (da_cons (de_call G_less (hr.mono (by decide)) rfl (da_cons (de_var 2) (da_cons (de_var 0) da_nil))) da_nil)) da_nil))))))))))))
theorem dv_span (Γ : CL) (T : Fc K mg Γ) (G_farthest : FnG P w K mg base 5 "farthest" (sp_farthest Γ)) (G_nearest : FnG P w K mg base 5 "nearest" (sp_nearest Γ)) (cdv : Value) (A : Around) (outer : List Env) (s0 : Shared) (H : Hp) (E : XK) (hr : Room 5 (A.deeper (envOfC "span" (defScope (top 55)) s0.heap.objs.size f cdv))) : DSs (cxOf CX0 P w K mg base ["pole", "part"] "span" (defScope (top 55)) f cdv A outer s0 H E).nox (defBody (top 55)) (rd_span Γ) :=
 (dss_one (ds_ret (de_tup (da_cons (de_callS2 G_nearest (hr.mono (by decide)) rfl (da_cons (de_var 0) (da_star (de_var 1) da_nil))) (da_cons (de_callS2 G_farthest (hr.mono (by decide)) rfl (da_cons (de_var 0) (da_star (de_var 1) da_nil))) da_nil)))))
theorem dv_touched_span (Γ : CL) (T : Fc K mg Γ) (G_parts_of : FnG P w K mg base 1 "parts_of" (sp_parts_of Γ)) (G_span : FnG P w K mg base 6 "span" (sp_span Γ)) (G_least : FnG P w K mg base 2 "least" (sp_least Γ)) (G_is_less : FnG P w K mg base 1 "is_less" (sp_is_less Γ)) (cdv : Value) (A : Around) (outer : List Env) (s0 : Shared) (H : Hp) (E : XK) (hr : Room 6 (A.deeper (envOfC "touched_span" (defScope (top 56)) s0.heap.objs.size f cdv))) : DSs (cxOf CX0 P w K mg base ["pole", "drawing", "found", "stroke", "part", "low", "high"] "touched_span" (defScope (top 56)) f cdv A outer s0 H E).nox (defBody (top 56)) (rd_touched_span Γ) :=
 (dss_cons (ds_set (i := 2) sc_touched_span.nd de_non)
 (dss_cons (ds_for (vs := [3]) (di_tup (de_fld (de_var 1) T.cl_Drawing T.n_Drawing_strokes)) (dg_name (i := 3) sc_touched_span.nd)
 (dss_one (ds_for (vs := [4]) (di_list (de_call G_parts_of (hr.mono (by decide)) rfl (da_cons (de_var 3) da_nil))) (dg_name (i := 4) sc_touched_span.nd)
 (dss_cons (ds_asg (vs := [5, 6]) (de_call G_span (hr.mono (by decide)) rfl (da_cons (de_var 0) (da_cons (de_var 4) da_nil))) (dg_tup (dgs_cons (dg_name (i := 5) sc_touched_span.nd) (dgs_cons (dg_name (i := 6) sc_touched_span.nd) dgs_nil))))
 (dss_cons (ds_if (dt_notN (de_var 2) de_non)
 (dss_one (ds_par (i := 5) (j := 6) sc_touched_span.nd (da_cons (de_call G_least (hr.mono (by decide)) rfl (da_cons (de_ix (de_var 2) de_int) (da_cons (de_var 5) da_nil))) (da_cons (de_if (dt_val (de_call G_is_less (hr.mono (by decide)) rfl (da_cons (de_ix (de_var 2) de_int) (da_cons (de_var 6) da_nil)))) (de_var 6) (de_ix (de_var 2) de_int)) da_nil))))
 dss_nil)
 (dss_one (ds_set (i := 2) sc_touched_span.nd (de_tup (da_cons (de_var 5) (da_cons (de_var 6) da_nil))))))))))
 (dss_one (ds_ret (de_var 2)))))
theorem dv_check_stroke (Γ : CL) (T : Fc K mg Γ) (G_check_spot : FnG P w K mg base 4 "check_spot" (sp_check_spot Γ)) (cdv : Value) (A : Around) (outer : List Env) (s0 : Shared) (H : Hp) (E : XK) (hr : Room 4 (A.deeper (envOfC "check_stroke" (defScope (top 70)) s0.heap.objs.size f cdv))) : DSs (cxOf CX0 P w K mg base ["stroke", "index", "spot", "e", "is_still", "one", "other"] "check_stroke" (defScope (top 70)) f cdv A outer s0 H E).nox (defBody (top 70)) (rd_check_stroke Γ) :=
 (dss_cons (ds_thru (dss_one (ds_for (vs := [2]) (di_tup (de_var 0)) (dg_name (i := 2) sc_check_stroke.nd)
 (dss_one (ds_expr (de_call G_check_spot (hr.mono (by decide)) rfl (da_cons (de_var 2) da_nil)))))))
 (dss_cons (ds_set (i := 4) sc_check_stroke.nd (de_any rfl T.f_any (da_cons (de_lc [("one", 5), ("other", 6)] sc_check_stroke.nd (di_zip rfl T.f_zip (da_cons (de_var 0) (da_cons (de_slice (de_var 0) (do_some de_int) do_none) da_nil))) (by kernel_rfl) (fun _ _ _ _ _ => (dg_tup (dgs_cons (dg_name (i := 5) sc_check_stroke.nd) (dgs_cons (dg_name (i := 6) sc_check_stroke.nd) dgs_nil)))) (fun _ _ _ _ _ => dts_nil) (fun _ _ _ _ _ => (de_eq hr.units (de_var 5) (de_var 6)))) da_nil)))
 (dss_one (ds_if (dt_w (dw_or (dt_not (dt_chain_le_le de_int (de_len rfl T.f_len (da_cons (de_var 0) da_nil)) T.c_MAX_SPOTS.de)) (dw_or1 (dt_val (de_var 4)))))
 (dss_one ds_never)
 dss_nil))))
theorem dv_Drawing___init (Γ : CL) (T : Fc K mg Γ) (G_check_stroke : FnG P w K mg base 5 "check_stroke" (sp_check_stroke Γ)) (cdv : Value) (A : Around) (outer : List Env) (s0 : Shared) (H : Hp) (E : XK) (hr : Room 5 (A.deeper (envOfC "Drawing.__init__" (defScope (inClass (top 71) 0)) s0.heap.objs.size f cdv))) : DSs (cxOf CX0 P w K mg base ["self", "strokes", "index", "stroke"] "Drawing.__init__" (defScope (inClass (top 71) 0)) f cdv A outer s0 H E).nox (defBody (inClass (top 71) 0)) (rd_Drawing___init Γ) :=
 (dss_cons (ds_for (vs := [2, 3]) (di_enum rfl T.f_enumerate (da_cons (de_var 1) da_nil)) (dg_tup (dgs_cons (dg_name (i := 2) sc_Drawing___init.nd) (dgs_cons (dg_name (i := 3) sc_Drawing___init.nd) dgs_nil)))
 (dss_one (ds_expr (de_call G_check_stroke (hr.mono (by decide)) rfl (da_cons (de_var 3) (da_cons (de_var 2) da_nil))))))
 (dss_cons (ds_if (dt_gt (de_len rfl T.f_len (da_cons (de_var 1) da_nil)) T.c_MAX_STROKES.de)
 (dss_one ds_never)
 dss_nil)
 (dss_one (ds_fld (de_var 0) (de_var 1) T.cl_Drawing T.n_Drawing_strokes))))
theorem dv_Drawing_copied (Γ : CL) (T : Fc K mg Γ) (G_carried : FnG P w K mg base 4 "carried" (sp_carried Γ)) (G_Drawing___init : MkS P w K mg base 6 "Drawing" Γ.Drawing (sp_Drawing___init Γ)) (cdv : Value) (A : Around) (outer : List Env) (s0 : Shared) (H : Hp) (E : XK) (hr : Room 7 (A.deeper (envOfC "Drawing.copied" (defScope (inClass (top 71) 8)) s0.heap.objs.size f cdv))) : DSs (cxOf CX0 P w K mg base ["self", "copy", "strokes", "spot", "stroke"] "Drawing.copied" (defScope (inClass (top 71) 8)) f cdv A outer s0 H E).nox (defBody (inClass (top 71) 8)) (rd_Drawing_copied Γ) :=
 (dss_cons (ds_setLc (i := 2) [("stroke", 4)] sc_Drawing_copied.nd (sw_true rfl rfl rfl (by kernel_rfl)) (di_tup (de_fld (de_var 0) T.cl_Drawing T.n_Drawing_strokes)) (by kernel_rfl) (fun _ _ _ _ _ => (dg_name (i := 4) sc_Drawing_copied.nd)) (fun _ _ _ _ _ => dts_nil) (fun _ _ _ _ _ => (de_tuple rfl T.f_tuple (da_cons (de_lc [("spot", 3)] sc_Drawing_copied.nd (di_tup (de_var 4)) (by kernel_rfl) (fun _ _ _ _ _ => (dg_name (i := 3) sc_Drawing_copied.nd)) (fun _ _ _ _ _ => dts_nil) (fun _ _ _ _ _ => (de_call G_carried (hr.mono (by decide)) rfl (da_cons (de_var 1) (da_cons (de_var 3) da_nil))))) da_nil))))
 (dss_one (ds_ret (de_makeS1 G_Drawing___init (hr.mono (by decide)) rfl (de_var 2)))))
theorem dv_needed_reach (Γ : CL) (T : Fc K mg Γ) (G_touched_span : FnG P w K mg base 7 "touched_span" (sp_touched_span Γ)) (G_Arm_effect : MtG P w K mg base 8 Γ.Arm (gtA K Γ.Arm "effect") (sp_Arm_effect Γ)) (G_Drawing_copied : MtG P w K mg base 8 Γ.Drawing (He.ma K Γ.Drawing "copied") (sp_Drawing_copied Γ)) (cdv : Value) (A : Around) (outer : List Env) (s0 : Shared) (H : Hp) (E : XK) (hr : Room 9 (A.deeper (envOfC "needed_reach" (defScope (top 65)) s0.heap.objs.size f cdv))) : DSs (cxOf CX0 P w K mg base ["chain", "drawing", "found", "arm"] "needed_reach" (defScope (top 65)) f cdv A outer s0 H E).nox (defBody (top 65)) (rd_needed_reach Γ) :=
 (dss_cons (ds_set (i := 2) sc_needed_reach.nd (de_lstM da_nil))
 (dss_cons (ds_for (vs := [3]) (di_tup (de_fld (de_var 0) T.cl_Chain T.n_Chain_arms)) (dg_name (i := 3) sc_needed_reach.nd)
 (dss_cons (ds_expr (de_append (de_var 2) (da_cons (de_call G_touched_span (hr.mono (by decide)) rfl (da_cons (de_fld (de_var 3) T.cl_Arm T.n_Arm_pole) (da_cons (de_var 1) da_nil))) da_nil)))
 (dss_one (ds_set (i := 1) sc_needed_reach.nd (de_meth G_Drawing_copied (hr.mono (by decide)) T.cl_Drawing T.m_Drawing_copied (de_var 1) (da_cons (de_prop G_Arm_effect (hr.mono (by decide)) T.cl_Arm T.p_Arm_effect (de_var 3)) da_nil))))))
 (dss_one (ds_ret (de_frz (de_var 2))))))
theorem dv_is_between (Γ : CL) (T : Fc K mg Γ) (G_is_less : FnG P w K mg base 1 "is_less" (sp_is_less Γ)) (cdv : Value) (A : Around) (outer : List Env) (s0 : Shared) (H : Hp) (E : XK) (hr : Room 1 (A.deeper (envOfC "is_between" (defScope (top 51)) s0.heap.objs.size f cdv))) : DSs (cxOf CX0 P w K mg base ["distance", "near", "far"] "is_between" (defScope (top 51)) f cdv A outer s0 H E).nox (defBody (top 51)) (rd_is_between Γ) :=
 (dss_one (ds_ret (de_and (de_not (de_call G_is_less (hr.mono (by decide)) rfl (da_cons (de_var 0) (da_cons (de_tup (da_cons (de_mul (de_var 1) (de_var 1)) (da_cons de_int da_nil))) da_nil)))) (de_one (de_not (de_call G_is_less (hr.mono (by decide)) rfl (da_cons (de_tup (da_cons (de_mul (de_var 2) (de_var 2)) (da_cons de_int da_nil))) (da_cons (de_var 0) da_nil))))))))
theorem dv_can_draw (Γ : CL) (T : Fc K mg Γ) (G_needed_reach : FnG P w K mg base 10 "needed_reach" (sp_needed_reach Γ)) (G_is_between : FnG P w K mg base 2 "is_between" (sp_is_between Γ)) (cdv : Value) (A : Around) (outer : List Env) (s0 : Shared) (H : Hp) (E : XK) (hr : Room 10 (A.deeper (envOfC "can_draw" (defScope (top 66)) s0.heap.objs.size f cdv))) : DSs (cxOf CX0 P w K mg base ["chain", "drawing", "arm", "found", "distance"] "can_draw" (defScope (top 66)) f cdv A outer s0 H E).nox (defBody (top 66)) (rd_can_draw Γ) :=
 (dss_cons (ds_for (vs := [2, 3]) (di_zip rfl T.f_zip (da_cons (de_fld (de_var 0) T.cl_Chain T.n_Chain_arms) (da_cons (de_call G_needed_reach (hr.mono (by decide)) rfl (da_cons (de_var 0) (da_cons (de_var 1) da_nil))) da_nil))) (dg_tup (dgs_cons (dg_name (i := 2) sc_can_draw.nd) (dgs_cons (dg_name (i := 3) sc_can_draw.nd) dgs_nil)))
 (dss_one (ds_if (dt_w (dw_and (dt_notN (de_var 3) de_non) (dw_and1 (dt_not (dt_val (de_all rfl T.f_all (da_cons (de_lc [("distance", 4)] sc_can_draw.nd (di_tup (de_var 3)) (by kernel_rfl) (fun _ _ _ _ _ => (dg_name (i := 4) sc_can_draw.nd)) (fun _ _ _ _ _ => dts_nil) (fun _ _ _ _ _ => (de_call G_is_between (hr.mono (by decide)) rfl (da_cons (de_var 4) (da_cons (de_fld (de_var 2) T.cl_Arm T.n_Arm_near) (da_cons (de_fld (de_var 2) T.cl_Arm T.n_Arm_far) da_nil)))))) da_nil)))))))
 (dss_one (ds_ret de_bl))
 dss_nil)))
 (dss_one (ds_ret de_bl)))
theorem dv_Drawing___add (Γ : CL) (T : Fc K mg Γ) (G_Drawing___init : MkS P w K mg base 6 "Drawing" Γ.Drawing (sp_Drawing___init Γ)) (cdv : Value) (A : Around) (outer : List Env) (s0 : Shared) (H : Hp) (E : XK) (hr : Room 7 (A.deeper (envOfC "Drawing.__add__" (defScope (inClass (top 71) 5)) s0.heap.objs.size f cdv))) : DSs (cxOf CX0 P w K mg base ["self", "other", "strokes"] "Drawing.__add__" (defScope (inClass (top 71) 5)) f cdv A outer s0 H E).nox (defBody (inClass (top 71) 5)) (rd_Drawing___add Γ) :=
 (dss_cons (ds_set (i := 2) sc_Drawing___add.nd (de_tup (da_star (de_fld (de_var 0) T.cl_Drawing T.n_Drawing_strokes) (da_star (de_fld (de_var 1) T.cl_Drawing T.n_Drawing_strokes) da_nil))))
 (dss_one (ds_ret (de_makeS1 G_Drawing___init (hr.mono (by decide)) rfl (de_var 2)))))
theorem dv_law_drawingQ (Γ : CL) (T : Fc K mg Γ) (G_Drawing___add : MtG P w K mg base 8 Γ.Drawing (He.ma K Γ.Drawing "__add__") (sp_Drawing___add Γ)) (G_Drawing___init : MkS P w K mg base 6 "Drawing" Γ.Drawing (sp_Drawing___init Γ)) (cdv : Value) (A : Around) (outer : List Env) (s0 : Shared) (H : Hp) (E : XK) (hr : Room 8 (A.deeper (envOfC "_law_drawing" (defScope (top 98)) s0.heap.objs.size f cdv))) : DSs (cxOf CX0 P w K mg base ["_law_strokes", "_law_drawing_here", "_law_stroke"] "_law_drawing" (defScope (top 98)) f cdv A outer s0 H E).nox (defBody (top 98)) (rd_law_drawingQ Γ) :=
 (dss_cons (ds_set (i := 1) sc_law_drawingQ.nd (de_makeS0 G_Drawing___init (hr.mono (by decide)) rfl))
 (dss_cons (ds_for (vs := [2]) (di_seq (de_var 0)) (dg_name (i := 2) sc_law_drawingQ.nd)
 (dss_one (ds_set (i := 1) sc_law_drawingQ.nd (de_opO G_Drawing___add (hr.mono (by decide)) T.sf_Drawing T.w_Drawing___add T.v_Drawing___add (de_var 1) (de_makeS G_Drawing___init (hr.mono (by decide)) (by rfl) (da_cons (de_var 2) da_nil))))))
 (dss_one (ds_ret (de_var 1)))))
theorem dv_Chain___getitem (Γ : CL) (T : Fc K mg Γ)  (cdv : Value) (A : Around) (outer : List Env) (s0 : Shared) (H : Hp) (E : XK) (hr : Room 0 (A.deeper (envOfC "Chain.__getitem__" (defScope (inClass (top 60) 2)) s0.heap.objs.size f cdv))) : DSs (cxOf CX0 P w K mg base ["self", "index"] "Chain.__getitem__" (defScope (inClass (top 60) 2)) f cdv A outer s0 H E).nox (defBody (inClass (top 60) 2)) (rd_Chain___getitem Γ) :=
 (dss_one (ds_ret (de_ix (de_fld (de_var 0) T.cl_Chain T.n_Chain_arms) (de_var 1))))
theorem dv_Arm_reaches (Γ : CL) (T : Fc K mg Γ) (G_check_spot : FnG P w K mg base 4 "check_spot" (sp_check_spot Γ)) (G_is_between : FnG P w K mg base 2 "is_between" (sp_is_between Γ)) (G_size : FnG P w K mg base 3 "size" (sp_size Γ)) (G_less : FnG P w K mg base 4 "less" (sp_less Γ)) (cdv : Value) (A : Around) (outer : List Env) (s0 : Shared) (H : Hp) (E : XK) (hr : Room 4 (A.deeper (envOfC "Arm.reaches" (defScope (inClass (top 49) 3)) s0.heap.objs.size f cdv))) : DSs (cxOf CX0 P w K mg base ["self", "spot"] "Arm.reaches" (defScope (inClass (top 49) 3)) f cdv A outer s0 H E).nox (defBody (inClass (top 49) 3)) (rd_Arm_reaches Γ) :=
 (dss_cons (ds_expr (de_call G_check_spot (hr.mono (by decide)) rfl (da_cons (de_var 1) da_nil)))
 (dss_one (ds_ret (de_call G_is_between (hr.mono (by decide)) rfl (da_cons (de_call G_size (hr.mono (by decide)) rfl (da_cons (de_call G_less (hr.mono (by decide)) rfl (da_cons (de_var 1) (da_cons (de_fld (de_var 0) T.cl_Arm T.n_Arm_pole) da_nil))) da_nil)) (da_cons (de_fld (de_var 0) T.cl_Arm T.n_Arm_near) (da_cons (de_fld (de_var 0) T.cl_Arm T.n_Arm_far) da_nil)))))))
theorem dv_law (Γ : CL) (T : Fc K mg Γ) (G_law_random : FnG P w K mg base 1 "_law_random" (sp_law_random Γ)) (G_law_below : FnG P w K mg base 1 "_law_below" (sp_law_below Γ)) (G_law_arm_told : FnG P w K mg base 4 "_law_arm_told" (sp_law_arm_told Γ)) (G_law_chain : FnG P w K mg base 8 "_law_chain" (sp_law_chain Γ)) (G_reachable_spots : FnG P w K mg base 12 "reachable_spots" (sp_reachable_spots Γ)) (G_law_missed : FnG P w K mg base 7 "_law_missed" (sp_law_missed Γ)) (G_law_equal : FnG P w K mg base 5 "_law_equal" (sp_law_equal Γ 5)) (G_can_draw : FnG P w K mg base 11 "can_draw" (sp_can_draw Γ)) (G_law_drawingQ : FnG P w K mg base 9 "_law_drawing" (sp_law_drawingQ Γ)) (G_Chain___getitem : MtG P w K mg base 1 Γ.Chain (He.ma K Γ.Chain "__getitem__") (sp_Chain___getitem Γ)) (G_Arm_reaches : MtG P w K mg base 5 Γ.Arm (He.ma K Γ.Arm "reaches") (sp_Arm_reaches Γ)) (G_Arm___init_k : MkD P w K mg base 5 "Arm" Γ.Arm (sp_Arm___init Γ) [.bl false]) (G_Chain___init : MkS P w K mg base 1 "Chain" Γ.Chain (sp_Chain___init Γ)) (G_err : ErrD P w K mg base "_law_error_of" (resE Γ errL)) (GX_reachable_spots : FnGX P w K mg base 12 "reachable_spots" (spx_reachable_spots Γ)) (TB : LamX.TabB base mg (lawC K) Γ.tab) (A : Around) (outer : List Env) (s0 : Shared) (H : Hp) (E : XK) (hr : Room 14 (A.deeper (envOfC "law" (defScope (top 100)) s0.heap.objs.size f (.ref (lawC K))))) : DSs (cxOf CX0 P w K mg base ["_law_script", "_law_d", "_law_tolds", "_law_k", "_law_chain_here", "_law_limit", "_law_found", "_law_due", "_law_x", "_law_y", "_law_missed_here", "_law_drawn", "_law_spot_here", "_law_wide", "_law_odd"] "law" (defScope (top 100)) f (.ref (lawC K)) A outer s0 H E).nox (defBody (top 100)) (rd_law Γ) :=
 (dss_cons (ds_set (i := 1) sc_law.nd (de_call G_law_random (hr.mono (by decide)) rfl (da_cons (de_var 0) (da_cons de_int da_nil))))
 (dss_cons (ds_setLc (i := 2) [("_law_k", 3)] sc_law.nd (sw_true rfl rfl rfl (by kernel_rfl)) (di_range1 rfl T.f_range (da_cons (de_call G_law_below (hr.mono (by decide)) rfl (da_cons (de_var 1) (da_cons de_int da_nil))) da_nil)) (by kernel_rfl) (fun _ _ _ _ _ => (dg_name (i := 3) sc_law.nd)) (fun _ _ _ _ _ => dts_nil) (fun _ _ _ _ _ => (de_call G_law_arm_told (hr.mono (by decide)) rfl (da_cons (de_var 1) da_nil))))
 (dss_cons (ds_asg (vs := [4, 5]) (de_tup (da_cons (de_call G_law_chain (hr.mono (by decide)) rfl (da_cons (de_var 2) da_nil)) (da_cons (de_call G_law_below (hr.mono (by decide)) rfl (da_cons (de_var 1) (da_cons de_int da_nil))) da_nil))) (dg_tup (dgs_cons (dg_name (i := 4) sc_law.nd) (dgs_cons (dg_name (i := 5) sc_law.nd) dgs_nil))))
 (dss_cons (ds_par (i := 6) (j := 7) sc_law.nd (da_cons (de_call G_reachable_spots (hr.mono (by decide)) rfl (da_cons (de_var 4) (da_cons (de_var 5) da_nil))) (da_cons (de_lst da_nil) da_nil)))
 (dss_cons (ds_for (vs := [8]) (di_range2 rfl T.f_range (da_cons (de_sub de_int (de_var 5)) (da_cons (de_add (de_var 5) de_int) da_nil))) (dg_name (i := 8) sc_law.nd)
 (dss_one (ds_for (vs := [9]) (di_range2 rfl T.f_range (da_cons (de_sub de_int (de_var 5)) (da_cons (de_add (de_var 5) de_int) da_nil))) (dg_name (i := 9) sc_law.nd)
 (dss_cons (ds_asg (vs := [10, 11]) (de_call G_law_missed (hr.mono (by decide)) rfl (da_cons (de_var 2) (da_cons (de_tup (da_cons (de_tup (da_cons (de_tup (da_cons (de_var 8) (da_cons (de_var 9) (da_cons de_int da_nil)))) da_nil)) da_nil)) da_nil))) (dg_tup (dgs_cons (dg_name (i := 10) sc_law.nd) (dgs_cons (dg_name (i := 11) sc_law.nd) dgs_nil))))
 (dss_one (ds_set (i := 7) sc_law.nd (de_add (de_var 7) (de_rep (de_lst (da_cons (de_tup (da_cons (de_var 8) (da_cons (de_var 9) (da_cons de_int da_nil)))) da_nil)) (de_int1 rfl T.f_int (da_cons (de_isN (de_var 10) de_non) da_nil))))))))))
 (dss_cons (ds_if (dt_not (dt_val (de_call G_law_equal (hr.mono (by decide)) rfl (da_cons (de_var 6) (da_cons (de_var 7) da_nil)))))
 (dss_one (ds_ret de_bl))
 dss_nil)
 (dss_cons (ds_if (dt_w (dw_and (dt_ne hr.units (de_var 7) (de_lst da_nil)) (dw_and1 (dt_not (dt_val (de_call G_can_draw (hr.mono (by decide)) rfl (da_cons (de_var 4) (da_cons (de_call G_law_drawingQ (hr.mono (by decide)) rfl (da_cons (de_lc [("_law_spot_here", 12)] sc_law.nd (di_list (de_slice (de_var 7) do_none (do_some de_int))) (by kernel_rfl) (fun _ _ _ _ _ => (dg_name (i := 12) sc_law.nd)) (fun _ _ _ _ _ => dts_nil) (fun _ _ _ _ _ => (de_tup (da_cons (de_var 12) da_nil)))) da_nil)) da_nil))))))))
 (dss_one (ds_ret de_bl))
 dss_nil)
 (dss_cons (ds_set (i := 13) sc_law.nd (de_makeS G_Chain___init (hr.mono (by decide)) (by rfl) (da_cons (de_makeD G_Arm___init_k (hr.mono (by decide)) rfl (da_cons (de_tup (da_cons de_int (da_cons de_int (da_cons de_int da_nil)))) (da_cons (de_tup (da_cons de_int (da_cons de_int (da_cons de_int da_nil)))) (da_cons de_int (da_cons de_int da_nil))))) da_nil)))
 (dss_cons (ds_if (dt_ne hr.units (de_len rfl T.f_len (da_cons (de_call G_reachable_spots (hr.mono (by decide)) rfl (da_cons (de_var 13) (da_cons de_int da_nil))) da_nil)) (de_len rfl T.f_len (da_cons (de_lc [("_law_spot_here", 12)] sc_law.nd (di_list (de_call G_reachable_spots (hr.mono (by decide)) rfl (da_cons (de_makeS0 G_Chain___init (hr.mono (by decide)) rfl) (da_cons de_int da_nil)))) (by kernel_rfl) (fun _ _ _ _ _ => (dg_name (i := 12) sc_law.nd)) (fun _ _ _ _ _ => (dts_one (dt_val (de_meth G_Arm_reaches (hr.mono (by decide)) T.cl_Arm T.m_Arm_reaches (de_ixO G_Chain___getitem (hr.mono (by decide)) T.w_Chain___getitem T.v_Chain___getitem T.u_Chain___getitem (de_var 13) de_int) (da_cons (de_var 12) da_nil))))) (fun _ _ _ _ _ => (de_var 12))) da_nil)))
 (dss_one (ds_ret de_bl))
 dss_nil)
 (dss_cons (ds_set (i := 14) sc_law.nd (de_ix (de_lst (da_cons (de_sub de_int de_int) (da_cons de_int (da_cons de_non (da_cons de_bl (da_cons de_str da_nil)))))) (de_call G_law_below (hr.mono (by decide)) rfl (da_cons (de_var 1) (da_cons de_int da_nil)))))
 (dss_one (ds_ret (de_eq hr.units (de_errOf (X := (cxOf CX0 P w K mg base ["_law_script", "_law_d", "_law_tolds", "_law_k", "_law_chain_here", "_law_limit", "_law_found", "_law_due", "_law_x", "_law_y", "_law_missed_here", "_law_drawn", "_law_spot_here", "_law_wide", "_law_odd"] "law" (defScope (top 100)) f (.ref (lawC K)) A outer s0 H E).nox) (k := 12) G_err (hr.mono (by decide)) rfl TB rfl (LamX.lamS_by (by kernel_rfl)) rfl (fun _ _ _ _ _ => rfl) (fun _ _ _ _ _ _ _ hr tk => (dex_call GX_reachable_spots tk (hr.mono (by decide)) (by rfl) (da_cons (de_var 4) (da_cons (de_var 14) da_nil)))) (q := lamQ) (by kernel_rfl)) (de_tup (da_cons de_str (da_cons de_int da_nil))))))))))))))))
end

end L3.K20

/-! ## V21 -/
set_option Elab.async false
set_option linter.all false
set_option maxRecDepth 100000
set_option maxHeartbeats 1000000
/-! Arms at random. -/
namespace L3
open PySem NM L2
theorem Am.small.ok {a : Am} (h : a.small) : a.ok := ⟨h.1.1, h.2.1.1, h.2.2.1, h.2.2.2.1, h.2.2.2.2.2.1, by have := h.2.2.2.2.2.2; omega⟩
theorem Am.small.sz {a : Am} (h : a.small) : a.sz 5 := ⟨h.1.2, h.2.1.2⟩
theorem lc_arms {Γ : CL} {i j : Nat} {ρ : EV} {g : Addr} (hρ : ∀ d, gt (st ρ i d) j = some (.ref g)) {R : List D → MH → Prop} : ∀ (ds : List D) (acc : List Am) (μ : MH) (xs : List D), μ g = some (.lst xs) → RL xs →
    (∀ as ys, as.length = ds.length → (∀ a ∈ as, a.small) → RL ys → R ((acc ++ as).map armTD) (updM μ g (.lst ys))) → lcD (rGN i) rTrue (rCl (sp_law_arm_told Γ) (rCons (rVar j) rNil)) tru ρ ds (acc.map armTD) μ R
  | [], acc, μ, xs, hm, hx, h => by
    refine ⟨trivial, ?_⟩
    have := h [] xs rfl (by simp) hx
    rw [List.append_nil, updM_idL hm] at this
    exact this
  | d :: ds, acc, μ, xs, hm, hx, h => by
    refine ⟨trivial, ?_⟩
    simp only [rGN, rTrue, if_true, rCl, rCons, rVar, rNil, hρ d]
    refine ⟨g, xs, rfl, hm, hx, fun a ys ka hy => ?_⟩
    have e : acc.map armTD ++ [armTD a] = (acc ++ [a]).map armTD := by simp
    show lcD _ _ _ _ _ _ (acc.map armTD ++ [armTD a]) _ _
    rw [e]
    refine lc_arms hρ ds (acc ++ [a]) _ ys updM_same hy fun as ys2 hl ha hy2 => ?_
    rw [updM_updM]
    have := h (a :: as) ys2 (by simp [hl]) (by
      intro w hw
      rcases List.mem_cons.mp hw with rfl | hw
      · exact ka
      · exact ha w hw) hy2
    rw [List.append_assoc]
    exact this
theorem okN_small : ∀ (as : List Am) (n : Nat) (ss : List Stk), (∀ a ∈ as, a.ok ∧ a.sz 5) → okDr n ss → n + 38 * as.length ≤ 250 → okN as ss
  | [], _, _, _, _, _ => trivial
  | a :: r, n, ss, h, k, hl => by
    obtain ⟨ka, sa⟩ := h a (List.mem_cons_self ..)
    rw [List.length_cons] at hl
    have se := Am.eff_sz ka sa
    exact ⟨⟨ka, sa.mono (by decide)⟩, k.mono (by omega), okN_small r (n + 38) _ (fun b hb => h b (List.mem_cons_of_mem _ hb)) ((okDr.at (Am.eff_ok ka) se k).mono (by omega)) (by omega)⟩
section
variable {Γ : CL} {μ : MH} {Q : D → MH → Prop} {as : List Am} {ss : List Stk} {a : Am}
theorem lchain_i (h : ∀ a ∈ as, a.ok ∧ a.sz big) (l : as.length ≤ 6) (q : Q (chainD Γ as) μ) : sp_law_chain Γ [.lst (as.map armTD)] μ Q := ⟨as, rfl, h, l, q⟩
theorem can_i (k : okN as ss) (l : as.length ≤ 6) (q : Q (.bl (canB as ss)) μ) : sp_can_draw Γ [chainD Γ as, drawD Γ ss] μ Q := ⟨as, ss, rfl, k, l, q⟩
theorem missed_i (k : okN as ss) (l : as.length ≤ 6) (q : Q (.tup [missD3 (missL 0 as ss).1, strsD (missL 0 as ss).2]) μ) : sp_law_missed Γ [.lst (as.map armTD), strsD ss] μ Q := ⟨as, ss, rfl, k, l, q⟩
end
end L3

/-! ## V23 -/
set_option Elab.async false
set_option linter.all false
set_option maxRecDepth 100000
set_option maxHeartbeats 1000000
/-! Chains that draw, and what is seen from elsewhere. -/
namespace L3
open PySem NM L2
/-! ### a chain that draws -/
/-! ### the law's helpers -/
end L3

/-! ## V24 -/
set_option Elab.async false
set_option linter.all false
set_option maxRecDepth 100000
set_option maxHeartbeats 1000000
/-! What is seen from elsewhere: carried by a copy of size 1. -/
namespace L3
open PySem NM L2
/-! ### distances -/
section
variable {u : Cp} (hu : u.ok) (h : u.unit) {p a b : Num} (hp : Can p) (ha : Can a) (hb : Can b)
include hu h hp ha
include hb
end
def CanS (ss : List Stk) : Prop := ∀ s ∈ ss, ∀ z ∈ s, Can z
theorem CanS.at {c : Cp} {ss : List Stk} (hc : c.ok) (k : CanS ss) : CanS (movedBy c ss) := by
  intro s hs z hz
  obtain ⟨s', h1, rfl⟩ := List.mem_map.mp hs
  obtain ⟨w, h2, rfl⟩ := List.mem_map.mp hz
  exact Cp.can_at hc (k s' h1 w h2)
section
variable {u : Cp} (hu : u.ok) (h : u.unit)
include hu h
end
/-! ### zones -/
/-! ### sizes -/
theorem comp_ts {c : Cp} {a : Am} {T S : Nat} (hc : c.ok) (ha : a.ok) (sa : a.sz 5) (st' : Sz T c.t) (ss : Sz S c.s) : Sz (T + 6) (c.comp a.eff).t ∧ Sz (S + 25) (c.comp a.eff).s := by
  have se := Am.eff_sz ha sa
  have he := Am.eff_ok ha
  refine ⟨(Sz.mul he.1 (can_flip (m := a.eff.m) hc.1) sa.2 (sz_flip st')).mono (by omega), ?_⟩
  exact (Sz.add (can_mul he.1 (can_flip hc.2.2)) he.2.2 (Sz.mul he.1 (can_flip (m := a.eff.m) hc.2.2) sa.2 (sz_flip ss)) se.2).mono (by omega)
/-! ### what is kept -/
end L3

/-! ## V25 -/
set_option Elab.async false
set_option linter.all false
set_option maxRecDepth 100000
set_option maxHeartbeats 1000000
/-! Spots in reach. -/
namespace L3
open PySem NM L2
theorem bools_bl (bs : List Bool) : bools (bs.map D.bl) = some bs := by
  induction bs with
  | nil => rfl
  | cons b r ih =>
    show (bools (r.map D.bl)).map (b :: ·) = some (b :: r)
    rw [ih]
    rfl
theorem gAll_bl {bs : List Bool} {μ : MH} {R : D → MH → Prop} (h : R (.bl (bs.all _root_.id)) μ) : gAll [.lst (bs.map D.bl)] μ R := by
  show (match bools (bs.map D.bl) with | some bs => R (.bl (bs.all _root_.id)) μ | none => False)
  rw [bools_bl]
  exact h
theorem vc_Chain___getitem (Γ : CL) : ∀ ds μ R, sp_Chain___getitem Γ ds μ R → rd_Chain___getitem Γ (fin R) (startD 2 ds) μ := by
  rintro ds μ R ⟨as, i, a, rfl, e, h⟩
  unfold rd_Chain___getitem
  rw [show startD 2 [chainD Γ as, .int (i : Int)] = [some (chainD Γ as), some (.int (i : Int))] from rfl]
  simp only [rRet, rOp, rFld, rVar, gt, insD_chain, lk_arms, true_and]
  rw [gIx_t, atI_lit, List.getElem?_map, e]
  exact h
theorem vc_Arm_reaches (Γ : CL) : ∀ ds μ R, sp_Arm_reaches Γ ds μ R → rd_Arm_reaches Γ (fin R) (startD 2 ds) μ := by
  rintro ds μ R ⟨a, z, rfl, ka, sa, kz, h⟩
  unfold rd_Arm_reaches
  rw [show startD 2 [armD Γ a, numD z] = [some (armD Γ a), some (numD z)] from rfl]
  have kp : SpOk a.p := ⟨ka.1, sa.1⟩
  refine seq_g fun N hN => ?_
  simp only [rDrop, rCl, rCons, rVar, rNil, gt]
  refine ⟨kz.1, kz.2.mono (by decide), ?_⟩
  refine hN _ _ ?_
  clear hN N
  simp only [rRet, rCl, rCons, rFld, rVar, rNil, gt, insD_arm, lk_pole, lk_near, lk_far, true_and]
  refine less_n kz.1 kp.1 (kz.2.mono (by decide)) (kp.2.mono (by decide)) ?_
  refine ds_i kp.1 kz.1 kp.2 kz.2 ?_
  exact ⟨_, _, _, rfl, (ds_sz kp kz).mono (by decide), ka.bt.1, ka.bt.2, h⟩
theorem vc_is_in_ring (Γ : CL) : ∀ ds μ R, sp_is_in_ring Γ ds μ R → rd_is_in_ring Γ (fin R) (startD 3 ds) μ := by
  rintro ds μ R ⟨z, r, rfl, kz, sz, ⟨⟨kc, sc⟩, slo, shi⟩, h⟩
  unfold rd_is_in_ring
  rw [show startD 3 [numD z, rgD r] = [some (numD z), some (rgD r), none] from rfl]
  have r0 : ∀ (μ : MH) (Q : D → MH → Prop), gIx (rgD r) (.int 0) μ Q = Q (numD r.c) μ := fun _ _ => rfl
  have r1 : ∀ (μ : MH) (Q : D → MH → Prop), gIx (rgD r) (.int 1) μ Q = Q (frD r.lo) μ := fun _ _ => rfl
  have r2 : ∀ (μ : MH) (Q : D → MH → Prop), gIx (rgD r) (.int 2) μ Q = Q (frD r.hi) μ := fun _ _ => rfl
  have kd := can_sub kz kc
  have sd : Sz 1402 (sub z r.c) := Sz.add kz (can_opp kc) sz sc.opp
  have ss : Sz 2805 (szN (sub z r.c)) := sz_szN kd sd
  refine seq_g fun N hN => ?_
  simp only [rAsg, rCl, rCons, rOp, rVar, rC, rNil, gt, r0]
  refine less_n kz kc (sz.mono (by decide)) (sc.mono (by decide)) ?_
  refine size_n kd (sd.mono (by decide)) ?_
  simp only [rGN, st]
  refine hN _ _ ?_
  clear hN N
  simp only [rRet, rAndV, rNotV, rCl, rCons, rOp, rVar, rC, rNil, gt, r1, r2]
  refine lfr_i (z := szN (sub z r.c)) (ss.mono (by decide)) (slo.mono (by decide)) ?_
  unfold rgB at h
  by_cases q : (szN (sub z r.c)).x * r.lo.d < r.lo.x * (szN (sub z r.c)).d
  · rw [decide_eq_true q] at h ⊢
    simp only [Bool.not_true, Bool.false_eq_true, if_false]
    exact h
  · rw [decide_eq_false q] at h ⊢
    simp only [Bool.not_false, if_true]
    refine lfr_i (w := szN (sub z r.c)) (shi.mono (by decide)) (ss.mono (by decide)) ?_
    exact h
theorem spot1_ok {x y n : Int} (h1 : -n ≤ x) (h2 : x ≤ n) (h3 : -n ≤ y) (h4 : y ≤ n) (hn : n ≤ 100) : Can (spotI1 x y) ∧ Sz 8 (spotI1 x y) := ⟨can_i1 x y, by
  unfold Sz Bt spotI1
  dsimp only
  refine ⟨?_, ?_, by decide⟩ <;> omega⟩
theorem side_mem {n i : Int} (hn : 0 ≤ n) : i ∈ sideL n ↔ -n ≤ i ∧ i ≤ n := by
  unfold sideL
  rw [intsL_mem]
  omega
section
variable {Γ : CL} {E : Ed} {as : List Am} {n : Int} {p : Addr} {μ : MH} {s0 s1 : Option D}
abbrev rd_ringY (Γ : CL) : RS := (rIf (rB (rCl gAll (rCons (rLc (rILst (rVar 2)) (rGN 7) rTrue (rCl (sp_is_in_ring Γ) (rCons (rTup (rCons (rVar 5) (rCons (rVar 6) (rCons (rC (.int 1)) rNil)))) (rCons (rVar 7) rNil))) [7]) rNil)))
 (rDrop (rMut (rVar 3) (rCons (rTup (rCons (rVar 5) (rCons (rVar 6) (rCons (rC (.int 1)) rNil)))) rNil) gAppend))
 rNext)
/-- the test of one spot -/
abbrev inAll (as : List Am) (z : Num) : Bool := (zonesL Cp.id as).all fun r => rgB r z
theorem ring_y {E' : Ed} {x y : Int} {pre : List Num} {s4 s7 : Option D} (hr : ∀ r ∈ zonesL Cp.id as, okRg r) (hl : as.length ≤ 6) (hz : Can (spotI1 x y) ∧ Sz 8 (spotI1 x y)) (hp : pre.length ≤ 100000) 
    (hN : E'.nx [s0, s1, some (.lst ((zonesL Cp.id as).map rgD)), some (.ref p), s4, some (.int x), some (.int y), s7] (updM μ p (.lst ((pre ++ [spotI1 x y].filter (inAll as)).map numD)))) :
    rd_ringY Γ E' [s0, s1, some (.lst ((zonesL Cp.id as).map rgD)), some (.ref p), s4, some (.int x), some (.int y), s7] (updM μ p (.lst (pre.map numD))) := by
  have zl : (zonesL Cp.id as).length = as.length := by
    have : ∀ (as : List Am) (c : Cp), (zonesL c as).length = as.length := by
      intro as
      induction as with
      | nil => intro c; rfl
      | cons a r ih => intro c; exact congrArg Nat.succ (ih _)
    exact this as Cp.id
  simp only [rIf, rB, rCl, rCons, rLc, rILst, rVar, gt, rNil, rms, rm]
  refine ⟨by rw [List.length_map, zl]; exact Nat.le_trans hl (by decide), ?_⟩
  refine lcD_mapG (i := 7) (zonesL Cp.id as) rgD (fun r => .bl (rgB r (spotI1 x y))) (fun r hrm Q q => ?_) ?_
  · simp only [st, rTup, rVar, rC, gt]
    refine ⟨by show 3 ≤ 2 ^ 24; decide, ?_⟩
    exact ⟨spotI1 x y, r, rfl, hz.1, hz.2.mono (by decide), hr r hrm, q⟩
  · rw [List.nil_append, show (fun r => D.bl (rgB r (spotI1 x y))) = D.bl ∘ (fun r => rgB r (spotI1 x y)) from rfl, ← List.map_map]
    refine gAll_bl ?_
    rw [List.all_map]
    have e : ((zonesL Cp.id as).all (_root_.id ∘ fun r => rgB r (spotI1 x y))) = inAll as (spotI1 x y) := rfl
    rw [e]
    cases hq : inAll as (spotI1 x y) with
    | true =>
      refine ite_yes rfl ?_
      simp only [rDrop, rMut, rVar, gt, updM_same, rCons, rTup, rC, rNil]
      refine ⟨by show 3 ≤ 2 ^ 24; decide, ?_⟩
      simp only [updM_same, gAppend]
      refine ⟨by rw [List.length_map]; exact Nat.lt_of_le_of_lt hp (by decide), ?_⟩
      rw [updM_updM]
      rw [List.filter_cons_of_pos hq, List.filter_nil, List.map_append] at hN
      exact hN
    | false =>
      refine ite_no (by simp) ?_
      rw [List.filter_cons_of_neg (by rw [hq]; simp), List.filter_nil, List.append_nil] at hN
      exact hN
theorem ring_ys {x : Int} {s4 : Option D} (hr : ∀ r ∈ zonesL Cp.id as, okRg r) (hl : as.length ≤ 6) : ∀ (ys : List Int) (pre : List Num) (s6 s7 : Option D), (∀ y ∈ ys, Can (spotI1 x y) ∧ Sz 8 (spotI1 x y)) → pre.length + ys.length ≤ 100000 →
    (∀ s6 s7, E.nx [s0, s1, some (.lst ((zonesL Cp.id as).map rgD)), some (.ref p), s4, some (.int x), s6, s7] (updM μ p (.lst ((pre ++ (ys.map (spotI1 x)).filter (inAll as)).map numD)))) →
    forD (rGN 6) (rd_ringY Γ) tru E (ys.map D.int) [s0, s1, some (.lst ((zonesL Cp.id as).map rgD)), some (.ref p), s4, some (.int x), s6, s7] (updM μ p (.lst (pre.map numD)))
  | [], pre, s6, s7, _, _, h => ⟨trivial, by have := h s6 s7; rw [List.map_nil, List.filter_nil, List.append_nil] at this; exact this⟩
  | y :: ys, pre, s6, s7, hz, hp, h => by
    rw [List.length_cons] at hp
    refine ⟨trivial, ?_⟩
    simp only [rGN, st]
    refine ring_y hr hl (hz y (List.mem_cons_self ..)) (by omega) ?_
    refine ring_ys hr hl ys (pre ++ [spotI1 x y].filter (inAll as)) _ _ (fun z m => hz z (List.mem_cons_of_mem _ m)) ?_ (fun t6 t7 => ?_)
    · have := List.length_filter_le (inAll as) [spotI1 x y]
      rw [List.length_append]
      simp only [List.length_cons, List.length_nil] at this
      omega
    · rw [List.append_assoc, ← List.filter_append]
      exact h t6 t7
theorem ring_xs {ys : List Int} (hr : ∀ r ∈ zonesL Cp.id as, okRg r) (hl : as.length ≤ 6) : ∀ (xs : List Int) (pre : List Num) (s5 s6 s7 : Option D), (∀ x ∈ xs, ∀ y ∈ ys, Can (spotI1 x y) ∧ Sz 8 (spotI1 x y)) → pre.length + xs.length * ys.length ≤ 100000 →
    (∀ s5 s6 s7, E.nx [s0, s1, some (.lst ((zonesL Cp.id as).map rgD)), some (.ref p), some (.lst (ys.map D.int)), s5, s6, s7] (updM μ p (.lst ((pre ++ (xs.flatMap fun x => ys.map (spotI1 x)).filter (inAll as)).map numD)))) →
    forD (rGN 5) (rFor (rILst (rVar 4)) (rGN 6) (rd_ringY Γ)) tru E (xs.map D.int) [s0, s1, some (.lst ((zonesL Cp.id as).map rgD)), some (.ref p), some (.lst (ys.map D.int)), s5, s6, s7] (updM μ p (.lst (pre.map numD)))
  | [], pre, s5, s6, s7, _, _, h => ⟨trivial, by have := h s5 s6 s7; rw [List.flatMap_nil, List.filter_nil, List.append_nil] at this; exact this⟩
  | x :: xs, pre, s5, s6, s7, hz, hp, h => by
    rw [List.length_cons, Nat.succ_mul] at hp
    refine ⟨trivial, ?_⟩
    simp only [rGN, st, rFor, rILst, rVar, gt]
    refine ring_ys hr hl ys pre _ _ (hz x (List.mem_cons_self ..)) (by omega) (fun t6 t7 => ?_)
    refine ring_xs hr hl xs _ _ _ _ (fun z m => hz z (List.mem_cons_of_mem _ m)) ?_ (fun u5 u6 u7 => ?_)
    · have := List.length_filter_le (inAll as) (ys.map (spotI1 x))
      rw [List.length_append]
      rw [List.length_map] at this
      omega
    · rw [List.append_assoc, ← List.filter_append]
      have := h u5 u6 u7
      rw [List.flatMap_cons] at this
      exact this
theorem vc_reachable_spots (Γ : CL) : ∀ ds μ R, sp_reachable_spots Γ ds μ R → rd_reachable_spots Γ (fin R) (startD 8 ds) μ := by
  rintro ds μ R ⟨as, n, rfl, k, z, l, hr, n0, n1, h⟩
  unfold rd_reachable_spots
  rw [show startD 8 [chainD Γ as, .int n] = [some (chainD Γ as), some (.int n), none, none, none, none, none, none] from rfl]
  refine seq_g fun N hN => ?_
  simp only [rIf, rNot, rB, rCl, rCons, rVar, rC, rNil, gt]
  refine int_in n0 n1 ?_
  simp only [Bool.not_true, Bool.false_eq_true, if_false, rNext]
  refine hN _ _ ?_
  clear hN N
  refine seq_g fun N hN => ?_
  simp only [rPar, rCons, rCl, rVar, rNil, gt, rLstM]
  refine ⟨as, rfl, k, z, l, ?_⟩
  refine ⟨by show 0 ≤ 2 ^ 24; decide, fun p hp => ?_⟩
  simp only [st]
  refine hN _ _ ?_
  clear hN N
  refine seq_g fun N hN => ?_
  simp only [rAsg, rLRg2, rOp, rC, rVar, gt, gSub, gAdd, gI0]
  refine ⟨by unfold RgOk; omega, ?_⟩
  simp only [rGN, st]
  refine hN _ _ ?_
  clear hN N
  refine seq_g fun N hN => ?_
  simp only [rFor, rILst, rVar, gt]
  rw [rangeD_intsL]
  have sl : (sideL n).length = (n + 1 - (0 - n)).toNat := intsL_len _ _
  refine ring_xs (ys := sideL n) hr l (sideL n) [] _ _ _ (fun x hx y hy => ?_) ?_ (fun s5 s6 s7 => ?_)
  · rw [side_mem n0] at hx hy
    exact spot1_ok hx.1 hx.2 hy.1 hy.2 (by omega)
  · rw [sl]
    have : (n + 1 - (0 - n)).toNat ≤ 41 := by omega
    have := Nat.mul_le_mul this this
    show 0 + _ ≤ _
    omega
  · refine hN _ _ ?_
    simp only [rRet, rFrz, rVar, gt, frz, updM_same, List.nil_append]
    rw [delM_updM hp]
    exact h
theorem vcx_reachable_spots (Γ : CL) : ∀ ds μ R re, spx_reachable_spots Γ ds μ R re → rdx_reachable_spots Γ (finX R re) (startD 8 ds) μ := by
  rintro ds μ R re ⟨as, d, rfl, ok, bad, h⟩
  unfold rdx_reachable_spots
  rw [show startD 8 [chainD Γ as, d] = [some (chainD Γ as), some d, none, none, none, none, none, none] from rfl]
  refine seq_g fun N hN => ?_
  simp only [rIf, rNot, rB, rCl, rCons, rVar, rC, rNil, gt]
  refine ⟨d, 0, 20, rfl, ok, ?_⟩
  rw [bad]
  simp only [Bool.not_false, if_true]
  exact h
end
end L3

/-! ## V26 -/
set_option Elab.async false
set_option linter.all false
set_option maxRecDepth 100000
set_option maxHeartbeats 1000000
/-! Zones of chains and dots that are traced. -/
namespace L3
open PySem NM L2
/-! ### plain laws of zones -/
theorem dist_at {c : Cp} {z w : Num} (h : c.ok) (hz : Can z) (hw : Can w) : re (szN (sub (c.at z) (c.at w))) = re (szN c.t) * re (szN (sub z w)) := by
  have k1 := Cp.can_at h hz
  have k2 := Cp.can_at h hw
  have k3 := can_sub k1 k2
  have k4 := can_sub hz hw
  rw [re_szN k3, re_szN h.1, re_szN k4, re_sub k1 k2, im_sub k1 k2, re_sub hz hw, im_sub hz hw, re_at h hz, re_at h hw, im_at h hz, im_at h hw]
  have := sg_sq c.m
  grind
/-- the same as whole numbers -/
theorem dist_int {c : Cp} {z p : Num} (h : c.ok) (hz : Can z) (hp : Can p) : (szN (sub (c.at z) p)).x * ((szN c.t).d * (szN (sub z (c.inv.at p))).d) = (szN c.t).x * (szN (sub z (c.inv.at p))).x * (szN (sub (c.at z) p)).d := by
  have ki := Cp.can_at (Cp.inv_ok h) hp
  have e := dist_at h hz ki
  rw [Cp.at_inv h hp] at e
  have k1 := can_szN (ne_d (can_sub (Cp.can_at h hz) hp))
  have k2 := can_szN (ne_d h.1)
  have k3 := can_szN (ne_d (can_sub hz ki))
  generalize szN (sub (c.at z) p) = T at *
  generalize szN c.t = g at *
  generalize szN (sub z (c.inv.at p)) = S at *
  have c1 := cast_ne (ne_d k1)
  have c2 := cast_ne (ne_d k2)
  have c3 := cast_ne (ne_d k3)
  unfold re at e
  have q : ((T.x * (g.d * S.d) : Int) : Rat) = ((g.x * S.x * T.d : Int) : Rat) := by
    push_cast
    grind
  exact_mod_cast q
theorem zone_lt {M gx gd Sx Sd Tx Td : Int} (hg : 0 < gx) (hd : 0 < gd) (hS : 0 < Sd) (hT : 0 < Td) (e : Tx * (gd * Sd) = gx * Sx * Td) :
    (Sx * (low (M * gd) 0 gx).d < (low (M * gd) 0 gx).x * Sd ↔ Tx * 1 < M * Td) ∧ ((low (M * gd) 0 gx).x * Sd < Sx * (low (M * gd) 0 gx).d ↔ M * Td < Tx * 1) := by
  obtain ⟨k, hk, e1, e2, e3, e4, _⟩ := low_spec (x := M * gd) (y := 0) (show gx ≠ 0 by omega)
  generalize low (M * gd) 0 gx = n at *
  have kp : 0 < k := by
    rcases Int.lt_or_gt_of_ne hk with q | q
    · exfalso
      have : k * n.d < 0 := Int.mul_neg_of_neg_of_pos q e4
      omega
    · exact q
  have gs : 0 < gd * Sd := Int.mul_pos hd hS
  have kt : 0 < k * Td := Int.mul_pos kp hT
  have a1 : Sx * n.d * (k * Td) = Tx * 1 * (gd * Sd) := by
    have : Sx * n.d * (k * Td) = gx * Sx * Td := by rw [e3]; grind
    rw [this, ← e]
    grind
  have a2 : n.x * Sd * (k * Td) = M * Td * (gd * Sd) := by
    have : n.x * Sd * (k * Td) = k * n.x * Sd * Td := by grind
    rw [this, ← e1]
    grind
  constructor
  · rw [← Int.mul_lt_mul_right kt, a1, a2, Int.mul_lt_mul_right gs]
  · rw [← Int.mul_lt_mul_right kt, a1, a2, Int.mul_lt_mul_right gs]
theorem szN_dpos {z : Num} (h : Can z) : 0 < (szN z).d := (can_szN (ne_d h)).1
/-- a spot is in the zone as its carried spot is in reach -/
theorem zone_reach {c : Cp} {a : Am} {z : Num} (h : c.ok) (ka : a.ok) (hz : Can z) :
    (!decide ((szN (sub z (zoneOf c a).c)).x * (zoneOf c a).lo.d < (zoneOf c a).lo.x * (szN (sub z (zoneOf c a).c)).d) && !decide ((zoneOf c a).hi.x * (szN (sub z (zoneOf c a).c)).d < (szN (sub z (zoneOf c a).c)).x * (zoneOf c a).hi.d)) = reachB a (c.at z) := by
  have e := dist_int h hz ka.1
  have kp := Cp.can_at (Cp.inv_ok h) ka.1
  have p1 := szN_pos h.1 h.2.1
  have p2 := szN_dpos h.1
  have p3 := szN_dpos (can_sub hz kp)
  have p4 := szN_dpos (can_sub (Cp.can_at h hz) ka.1)
  have l1 := (zone_lt (M := a.lo * a.lo) p1 p2 p3 p4 e).1
  have l2 := (zone_lt (M := a.hi * a.hi) p1 p2 p3 p4 e).2
  unfold reachB
  congr 1
  · exact congrArg (fun b => !b) (decide_eq_decide.mpr l1)
  · exact congrArg (fun b => !b) (decide_eq_decide.mpr l2)
theorem zone_sz {c : Cp} {a : Am} (h : c.ok) (s : c.sz 115) (ka : a.small) : (Can (zoneOf c a).c ∧ Sz 701 (zoneOf c a).c) ∧ Sz 256 (zoneOf c a).lo ∧ Sz 256 (zoneOf c a).hi := by
  have ki := Cp.inv_ok h
  have si := Cp.inv_sz h s
  have ss := sz_szN h.1 s.1
  have ps := szN_pos h.1 h.2.1
  obtain ⟨_, _, _, b1, b2, b3, b4⟩ := id ka
  have l1 : Bt 10 a.lo := by unfold Bt; omega
  have l2 : Bt 10 a.hi := by unfold Bt; omega
  have z0 : Bt 256 0 := by unfold Bt; exact Nat.two_pow_pos _
  refine ⟨⟨Cp.can_at ki ka.1.1, (Cp.sz_at ki ka.1.1 si ka.1.2).mono (by decide)⟩, ?_, ?_⟩
  · exact low_sz (by omega) (((l1.mul l1).mul ss.2.2).mono (by decide)) z0 (ss.1.mono (by decide))
  · exact low_sz (by omega) (((l2.mul l2).mul ss.2.2).mono (by decide)) z0 (ss.1.mono (by decide))
theorem ring_reach {c : Cp} {a : Am} {z : Num} (h : c.ok) (ka : a.ok) (hz : Can z) : rgB (zoneOf c a) z = betw a.lo a.hi (dsQ a.p (c.at z)) := by
  have e := zone_reach h ka hz
  rw [reachB_betw ka.1 (Cp.can_at h hz)] at e
  exact e
theorem chain_AZ : ∀ (as : List Am) (c : Cp) (T S : Nat), c.ok → Sz T c.t → Sz S c.s → (∀ a ∈ as, a.small) → T + 6 * as.length ≤ 40 → S + 25 * as.length ≤ 130 →
    okA c as ∧ okZ c as ∧ (∀ r ∈ zonesL c as, okRg r) ∧ Sz (T + 6 * as.length) (effFrom c as).t ∧ Sz (S + 25 * as.length) (effFrom c as).s ∧ (effFrom c as).ok
  | [], c, T, S, hc, h1, h2, _, _, _ => ⟨trivial, trivial, (fun r h => by cases h), h1, h2, hc⟩
  | a :: r, c, T, S, hc, h1, h2, k, l1, l2 => by
    have ks := k a (List.mem_cons_self ..)
    have ka := ks.ok
    have sa := ks.sz
    rw [List.length_cons] at l1 l2
    obtain ⟨x1, x2⟩ := comp_ts hc ka sa h1 h2
    obtain ⟨i1, i2, i3, i4, i5, i6⟩ := chain_AZ r (c.comp a.eff) (T + 6) (S + 25) (Cp.comp_ok hc (Am.eff_ok ka)) x1 x2 (fun b hb => k b (List.mem_cons_of_mem _ hb)) (by omega) (by omega)
    have sc : c.sz 115 := ⟨h1.mono (by omega), h2.mono (by omega)⟩
    refine ⟨⟨sc.mono (by decide), sa.mono (by decide), (Am.eff_sz ka sa).mono (by decide), ka, i1⟩, ⟨hc, sc.mono (by decide), ka, sa.mono (by decide), i2⟩, fun q hq => ?_, ?_, ?_, i6⟩
    · rcases List.mem_cons.mp hq with rfl | hq
      · obtain ⟨z1, z2, z3⟩ := zone_sz hc sc ks
        exact ⟨z1, z2.mono (by decide), z3.mono (by decide)⟩
      · exact i3 q hq
    · rw [List.length_cons]
      exact i4.mono (by omega)
    · rw [List.length_cons]
      exact i5.mono (by omega)
theorem chain_AZ0 {as : List Am} (k : ∀ a ∈ as, a.small) (l : as.length ≤ 5) : okA Cp.id as ∧ okZ Cp.id as ∧ (∀ r ∈ zonesL Cp.id as, okRg r) ∧ (effAll as).sz 126 ∧ (effAll as).ok := by
  obtain ⟨h1, h2, h3, h4, h5, h6⟩ := chain_AZ as Cp.id 1 1 Cp.id_ok Sz.one (by unfold Sz Bt; decide) k (by omega) (by omega)
  exact ⟨h1, h2, h3, ⟨h4.mono (by omega), h5.mono (by omega)⟩, h6⟩
theorem part_dot (a : Am) (w : Num) : partB a (w, w) = betw a.lo a.hi (dsQ a.p w) := by
  unfold partB
  rw [near_self, far_self, Bool.and_self]
theorem dots_all {a : Am} {i : Nat} (ws : List Num) : (missS a i (ws.map fun w => [w])).isNone = ws.all fun w => betw a.lo a.hi (dsQ a.p w) := by
  rw [missS_all, List.all_map]
  congr 1
  funext w
  show (partB a (w, w) && true) = _
  rw [Bool.and_true, part_dot]
theorem all_and2 {α : Type} (f g : α → Bool) : ∀ l : List α, (l.all fun x => f x && g x) = (l.all f && l.all g)
  | [] => rfl
  | x :: r => by
    rw [List.all_cons, List.all_cons, List.all_cons, all_and2 f g r]
    cases f x <;> cases g x <;> simp
theorem all_congr' {α : Type} {f g : α → Bool} : ∀ {l : List α}, (∀ x ∈ l, f x = g x) → l.all f = l.all g
  | [], _ => rfl
  | x :: r, h => by rw [List.all_cons, List.all_cons, h x (List.mem_cons_self ..), all_congr' fun y hy => h y (List.mem_cons_of_mem _ hy)]
/-- dots are traced as they lie in the rings -/
theorem missL_dots : ∀ (as : List Am) (c : Cp) (n : Nat) (zs : List Num), c.ok → (∀ a ∈ as, a.ok) → (∀ z ∈ zs, Can z) → (missL n as (zs.map fun z => [c.at z])).1.isNone = zs.all fun z => (zonesL c as).all fun r => rgB r z
  | [], c, n, zs, _, _, _ => by
    show true = _
    symm
    rw [List.all_eq_true]
    intro z _
    rfl
  | a :: r, c, n, zs, hc, k, hz => by
    have ka := k a (List.mem_cons_self ..)
    have e1 : (zs.all fun z => (zonesL c (a :: r)).all fun r => rgB r z) = ((zs.all fun z => rgB (zoneOf c a) z) && zs.all fun z => (zonesL (c.comp a.eff) r).all fun r => rgB r z) := all_and2 _ _ zs
    have e2 : (missS a 0 (zs.map fun z => [c.at z])).isNone = zs.all fun z => rgB (zoneOf c a) z := by
      have := dots_all (a := a) (i := 0) (zs.map c.at)
      rw [List.map_map, List.all_map] at this
      refine Eq.trans this ?_
      exact all_congr' fun z m => (ring_reach hc ka (hz z m)).symm
    rw [e1]
    unfold missL
    cases q : missS a 0 (zs.map fun z => [c.at z]) with
    | some x =>
      rw [q] at e2
      rw [← e2]
      rfl
    | none =>
      rw [q] at e2
      rw [← e2]
      have e3 : movedBy a.eff (zs.map fun z => [c.at z]) = zs.map fun z => [(c.comp a.eff).at z] := by
        unfold movedBy
        rw [List.map_map]
        refine List.map_congr_left fun z m => ?_
        show [a.eff.at (c.at z)] = _
        rw [Cp.comp_at hc (Am.eff_ok ka) (hz z m)]
      show (missL (n + 1) r (movedBy a.eff _)).1.isNone = _
      rw [e3, missL_dots r (c.comp a.eff) (n + 1) zs (Cp.comp_ok hc (Am.eff_ok ka)) (fun b hb => k b (List.mem_cons_of_mem _ hb)) hz]
      rfl
section
variable {Γ : CL} {μ : MH} {as : List Am}
theorem reach_i {n : Int} {Q : D → MH → Prop} (k : ∀ a ∈ as, a.small) (l : as.length ≤ 5) (n0 : 0 ≤ n) (n1 : n ≤ 20) (q : Q (.lst ((spotsL as n).map numD)) μ) : sp_reachable_spots Γ [chainD Γ as, .int n] μ Q := by
  obtain ⟨h1, h2, h3, _, _⟩ := chain_AZ0 k l
  exact ⟨as, n, rfl, h1, h2, by omega, h3, n0, n1, q⟩
theorem grid_mem {n : Int} (hn : 0 ≤ n) {z : Num} (h : z ∈ gridL n) : ∃ x y, z = spotI1 x y ∧ -n ≤ x ∧ x ≤ n ∧ -n ≤ y ∧ y ≤ n := by
  unfold gridL at h
  obtain ⟨x, hx, h⟩ := List.mem_flatMap.mp h
  obtain ⟨y, hy, rfl⟩ := List.mem_map.mp h
  rw [side_mem hn] at hx hy
  exact ⟨x, y, rfl, hx.1, hx.2, hy.1, hy.2⟩
theorem grid_ok {n : Int} (hn : 0 ≤ n) (h1 : n ≤ 100) {z : Num} (h : z ∈ gridL n) : Can z ∧ Sz 8 z := by
  obtain ⟨x, y, rfl, a, b, c, d⟩ := grid_mem hn h
  exact spot1_ok a b c d h1
theorem grid_len {n : Int} (hn : 0 ≤ n) (h1 : n ≤ 20) : (gridL n).length ≤ 1681 := by
  have : ∀ xs ys : List Int, (xs.flatMap fun x => ys.map fun y => spotI1 x y).length = xs.length * ys.length := by
    intro xs ys
    induction xs with
    | nil => simp
    | cons x r ih => rw [List.flatMap_cons, List.length_append, ih, List.length_map, List.length_cons, Nat.succ_mul, Nat.add_comm]
  unfold gridL
  rw [this]
  have e : (sideL n).length = (n + 1 - (0 - n)).toNat := intsL_len _ _
  rw [e]
  have : (n + 1 - (0 - n)).toNat ≤ 41 := by omega
  exact Nat.mul_le_mul this this
end
theorem vc_law_drawingQ (Γ : CL) : ∀ ds μ R, sp_law_drawingQ Γ ds μ R → rd_law_drawingQ Γ (fin R) (startD 3 ds) μ := by
  rintro ds μ R ⟨ss, e, k, h⟩
  unfold rd_law_drawingQ
  rcases e with rfl | rfl
  · rw [show startD 3 [strsD ss] = [some (strsD ss), none, none] from rfl]
    refine seq_g fun N hN => ?_
    simp only [rAsg, rCl, rNil]
    refine make_draw (ss := []) .nil ?_
    simp only [rGN, st]
    refine hN _ _ ?_
    clear hN N
    refine seq_g fun N hN => ?_
    simp only [rFor, rISeq, rVar, gt, strsD]
    refine ldraw_loop ss [] none k (fun x => ?_)
    refine hN _ _ ?_
    simp only [rRet, rVar, gt, List.nil_append]
    exact h
  · rw [show startD 3 [.lst (ss.map strD)] = [some (.lst (ss.map strD)), none, none] from rfl]
    refine seq_g fun N hN => ?_
    simp only [rAsg, rCl, rNil]
    refine make_draw (ss := []) .nil ?_
    simp only [rGN, st]
    refine hN _ _ ?_
    clear hN N
    refine seq_g fun N hN => ?_
    simp only [rFor, rISeq, rVar, gt]
    refine ldraw_loop ss [] none k (fun x => ?_)
    refine hN _ _ ?_
    simp only [rRet, rVar, gt, List.nil_append]
    exact h
theorem drawingL_i {Γ : CL} {μ : MH} {Q : D → MH → Prop} {ss : List Stk} (k : okDr big ss) (q : Q (drawD Γ ss) μ) : sp_law_drawingQ Γ [.lst (ss.map strD)] μ Q := ⟨ss, .inr rfl, k, q⟩
end L3

/-! ## V_k20 -/
set_option Elab.async false
set_option linter.all false
set_option maxRecDepth 100000
set_option maxHeartbeats 1000000
namespace L3.K20
open PySem NM L2
section
variable {Γ : CL} {μ : MH} {R : D → MH → Prop} {as : List Am} {n : Int} {g : Addr} {xs : List D} {s0 s3 : Option D}
theorem deq_size : deq (.tup [.str "size", .int 0]) (.tup [.str "size", .int 0]) = true := by decide +kernel
theorem pure_size : pureN 20 (.tup [.str "size", .int 0]) = true := by decide +kernel
theorem t1 {x2 x5 x6 x7 x8 x9 x10 x11 x12 x13 x14 : Option D} (ht : μ Γ.tab = some (.tab lamQ)) (hg : g ≠ Γ.tab) (hm : μ g = some (.lst xs)) (hx : RL xs) (hR : ∀ μ', R (.bl true) μ') :
    rd_law_t1 Γ (fin R) [s0, some (.ref g), x2, s3, some (chainD Γ as), x5, x6, x7, x8, x9, x10, x11, x12, x13, x14] μ := by
  unfold rd_law_t1
  refine seq_g fun N hN => ?_
  simp only [rAsg, rOp, rLst, rCons, rCl, rVar, rC, rNil, gt, gSub, gI0]
  refine ⟨by show 5 ≤ 2 ^ 24; decide, ?_⟩
  refine ⟨g, 5, xs, rfl, by decide, by decide, hm, hx, fun r ys r0 r1 hy => ?_⟩
  have key : ∀ d : D, okD d = true → inIntD d 0 20 = false → rGN 14 d [s0, some (.ref g), x2, s3, some (chainD Γ as), x5, x6, x7, x8, x9, x10, x11, x12, x13, x14] (updM μ g (.lst ys)) N := by
    intro d ok bad
    simp only [rGN, st]
    refine hN _ _ ?_
    simp only [rRet, rOp, rErrOf, rClX, rCons, rVar, rC, rNil, gt, rTup]
    refine ⟨by rw [updM_ne hg.symm]; exact ht, as, d, rfl, ok, bad, ?_⟩
    refine ⟨.tup [.str "size", .int 0], ⟨9, by simp [errL], [], rfl, rfl, rfl, rfl⟩, ?_⟩
    refine ⟨by show 2 ≤ 2 ^ 24; decide, ?_⟩
    rw [gEq_t]
    refine ⟨pure_size, pure_size, ?_⟩
    rw [deq_size]
    exact hR _
  have : r = 0 ∨ r = 1 ∨ r = 2 ∨ r = 3 ∨ r = 4 := by omega
  rcases this with rfl | rfl | rfl | rfl | rfl
  · exact key (.int (0 - 1)) rfl rfl
  · exact key (.int 21) rfl rfl
  · exact key .non rfl rfl
  · exact key (.bl true) rfl rfl
  · exact key (.str "3") rfl rfl
/-- an arm of which the reach is 20 -/
def wide : Am := ⟨zero, one, 0, 20, false⟩
theorem wide_small : wide.small := ⟨⟨can_zero, by unfold Sz Bt; decide⟩, ⟨can_one, by unfold Sz Bt; decide⟩, (fun h => absurd h.1 (by decide)), by decide, by decide, by decide, by decide⟩
theorem lk_reaches (a : Am) : (armFs a).lookup ("reaches" : Str) = none := rfl
theorem lc_filter {ρ : EV} {i : Nat} {f : RX} {t : Num → Bool} {Q : List D → MH → Prop} {μ : MH} (hi : ∀ d, gt (st ρ i d) i = some d) : ∀ (zs : List Num) (acc : List D), (∀ z ∈ zs, ∀ (Q : D → MH → Prop), Q (.bl (t z)) μ → f (st ρ i (numD z)) μ Q) → Q (acc ++ (zs.filter t).map numD) μ →
    lcD (rGN i) (rB f) (rVar i) tru ρ (zs.map numD) acc μ Q
  | [], acc, _, h => ⟨trivial, by simpa using h⟩
  | z :: zs, acc, k, h => by
    refine ⟨trivial, ?_⟩
    simp only [rGN, rB]
    refine k z (List.mem_cons_self ..) _ ?_
    cases q : t z with
    | true =>
      refine ite_yes rfl ?_
      simp only [rVar, hi]
      refine lc_filter hi zs _ (fun w m => k w (List.mem_cons_of_mem _ m)) ?_
      rw [List.filter_cons_of_pos q] at h
      rw [List.append_assoc]
      exact h
    | false =>
      refine ite_no (by simp) ?_
      refine lc_filter hi zs _ (fun w m => k w (List.mem_cons_of_mem _ m)) ?_
      rw [List.filter_cons_of_neg (by rw [q]; simp)] at h
      exact h
theorem t2 {x2 x5 x6 x7 x8 x9 x10 x11 x12 x13 x14 : Option D} (ht : μ Γ.tab = some (.tab lamQ)) (hg : g ≠ Γ.tab) (hm : μ g = some (.lst xs)) (hx : RL xs) (hR : ∀ μ', R (.bl true) μ') :
    rd_law_t2 Γ (fin R) [s0, some (.ref g), x2, s3, some (chainD Γ as), x5, x6, x7, x8, x9, x10, x11, x12, x13, x14] μ := by
  have ws := wide_small
  unfold rd_law_t2
  refine seq_g fun N hN => ?_
  simp only [rAsg, rCl, rCons, rNil, rMakeD, rTup, rC, List.cons_append, List.nil_append]
  refine ⟨by show 3 ≤ 2 ^ 24; decide, by show 3 ≤ 2 ^ 24; decide, ?_⟩
  refine make_arm (p := zero) (t := one) can_zero can_one (fun h => absurd h.1 (by decide)) (by decide) (by unfold Sz Bt; decide +kernel) (by unfold Sz Bt; decide +kernel) ?_
  refine make_chainA (as := [wide]) (by decide) ?_
  simp only [rGN, st]
  refine hN _ _ ?_
  clear hN N
  refine seq_g fun N hN => ?_
  simp only [rIf, rB, rOp, rCl, rCons, rVar, rC, rNil, gt]
  refine reach_i (as := [wide]) (fun a h => by rcases List.mem_cons.mp h with rfl | h; exact ws; cases h) (by decide) (by decide) (by decide) ?_
  simp only [gLen, res, seqD, rLc, rILst, rCl, rCons, rNil, rC, rms, rm]
  refine make_chainA (as := []) (by decide) ?_
  refine reach_i (as := []) (fun a h => by cases h) (by decide) (by decide) (by decide) ?_
  have l20 := grid_len (n := 20) (by decide) (by decide)
  have f0 : spotsL [] 20 = gridL 20 := List.filter_eq_self.mpr fun z _ => rfl
  rw [f0]
  refine ⟨by rw [List.length_map]; exact Nat.le_trans l20 (by decide), ?_⟩
  refine lc_filter (i := 12) (t := fun z => betw wide.lo wide.hi (dsQ wide.p z)) (fun d => rfl) (gridL 20) [] (fun z hz Q q => ?_) ?_
  · obtain ⟨kz, sz⟩ := grid_ok (by decide) (by decide) hz
    simp only [rMeth, rOp, rVar, rC, gt, st, rCons, rNil, gOwnI, insD_chain, Option.map_some, true_and]
    refine ⟨[wide], 0, wide, rfl, rfl, ?_⟩
    simp only [insD_arm, lk_reaches, true_and]
    exact ⟨wide, z, rfl, ws.ok, ws.sz.mono (by decide), ⟨kz, sz.mono (by decide)⟩, q⟩
  · have e : spotsL [wide] 20 = (gridL 20).filter fun z => betw wide.lo wide.hi (dsQ wide.p z) := by
      unfold spotsL
      refine List.filter_congr fun z hz => ?_
      obtain ⟨kz, sz⟩ := grid_ok (by decide) (by decide) hz
      show (rgB (zoneOf Cp.id wide) z && true) = _
      rw [Bool.and_true, ring_reach Cp.id_ok ws.ok kz, Cp.id_at kz]
    rw [e, List.nil_append, gNe_i]
    simp only [beq_self_eq_true, Bool.not_true, Bool.false_eq_true, if_false, rNext]
    refine hN _ _ ?_
    exact t1 ht hg hm hx hR
theorem cut12 (xs : List D) : cutD xs none (some 12) = xs.take 12 := by
  unfold cutD
  have : HT.sIx xs.length xs.length (some 12) = min 12 xs.length := HT.sIx_nat ..
  rw [HT.sIx_none, List.drop_zero, Nat.sub_zero, this]
  rcases Nat.le_total 12 xs.length with h | h
  · rw [Nat.min_eq_left h]
  · rw [Nat.min_eq_right h, List.take_of_length_le (Nat.le_refl _), List.take_of_length_le h]
theorem dots_strs (zs : List Num) : (zs.map fun z => strD [z]) = (zs.map fun z => [z]).map strD := by rw [List.map_map]; rfl
theorem dots_ok {n : Nat} {zs : List Num} (h : zs.length ≤ 12) (k : ∀ z ∈ zs, Can z ∧ Sz n z) : okDr n (zs.map fun z => [z]) := ⟨by rw [List.length_map]; exact h, fun s hs => by
  obtain ⟨z, hz, rfl⟩ := List.mem_map.mp hs
  refine ⟨Nat.le_refl _, by show 1 ≤ 12; decide, ?_, fun w hw => ?_⟩
  · trivial
  · rcases List.mem_cons.mp hw with rfl | hw
    · exact k _ hz
    · cases hw⟩
theorem t3 {x8 x9 x10 x11 x12 x13 x14 x2 : Option D} (ka : ∀ a ∈ as, a.small) (l3 : as.length ≤ 3) (n0 : 0 ≤ n) (n1 : n ≤ 5) (ht : μ Γ.tab = some (.tab lamQ)) (hg : g ≠ Γ.tab) (hm : μ g = some (.lst xs)) (hx : RL xs) (hR : ∀ μ', R (.bl true) μ') :
    rd_law_t3 Γ (fin R) [s0, some (.ref g), x2, s3, some (chainD Γ as), some (.int n), some (.lst ((spotsL as n).map numD)), some (.lst ((spotsL as n).map numD)), x8, x9, x10, x11, x12, x13, x14] μ := by
  have gl := grid_len n0 (show n ≤ 20 by omega)
  have sl : (spotsL as n).length ≤ 1681 := Nat.le_trans (List.length_filter_le _ _) gl
  have so : ∀ z ∈ spotsL as n, Can z ∧ Sz 8 z := fun z h => grid_ok n0 (by omega) (List.mem_filter.mp h).1
  unfold rd_law_t3
  refine seq_g fun N hN => ?_
  simp only [rIf, rNot, rB, rCl, rCons, rVar, rNil, gt]
  refine equal_i rfl ?_ ?_
  · show (decide (((spotsL as n).map numD).length ≤ 1000000) && ((spotsL as n).map numD).all (okq 3)) = true
    rw [List.length_map, decide_eq_true (by omega), Bool.true_and, List.all_eq_true]
    intro d hd
    obtain ⟨z, _, rfl⟩ := List.mem_map.mp hd
    rfl
  simp only [Bool.not_true, Bool.false_eq_true, if_false, rNext]
  refine hN _ _ ?_
  clear hN N
  refine seq_g fun N hN => ?_
  have nx : ∀ y12, N [s0, some (.ref g), x2, s3, some (chainD Γ as), some (.int n), some (.lst ((spotsL as n).map numD)), some (.lst ((spotsL as n).map numD)), x8, x9, x10, x11, y12, x13, x14] μ := fun y12 => hN _ _ (t2 ht hg hm hx hR)
  simp only [rIf, rAnd, rNot, rB, rOp, rVar, rLst, rNil, rC, gt]
  refine ⟨by show 0 ≤ 2 ^ 24; decide, ?_⟩
  refine ⟨?_, rfl, ?_⟩
  · show ((spotsL as n).map numD).all (pureN 19) = true
    rw [List.all_eq_true]
    intro d hd
    obtain ⟨z, _, rfl⟩ := List.mem_map.mp hd
    rfl
  by_cases q : (!deq (.lst ((spotsL as n).map numD)) (.lst [])) = true
  · refine ite_yes q ?_
    simp only [rCl, rCons, rVar, gt, rLc, rILst, rSl, rNoPart, rPart, rC, gSl, res, rNil, rms, rm]
    rw [cut12, ← List.map_take]
    have kt : ∀ z ∈ (spotsL as n).take 12, Can z ∧ Sz 8 z := fun z h => so z (List.mem_of_mem_take h)
    have lt : ((spotsL as n).take 12).length ≤ 12 := by rw [List.length_take]; omega
    refine ⟨by rw [List.length_map]; exact Nat.le_trans lt (by decide), ?_⟩
    refine lcD_mapG (i := 12) ((spotsL as n).take 12) numD (fun z => strD [z]) (fun z hz Q q => ?_) ?_
    · simp only [rTup, rCons, rVar, rNil, gt, st]
      exact ⟨by show 1 ≤ 2 ^ 24; decide, q⟩
    rw [List.nil_append, dots_strs]
    have kd := dots_ok lt kt
    refine drawingL_i (kd.mono (by decide)) ?_
    have k5 : ∀ a ∈ as, a.ok ∧ a.sz 5 := fun a h => ⟨(ka a h).ok, (ka a h).sz⟩
    refine can_i (okN_small as 8 _ k5 kd (by omega)) (by omega) ?_
    have e : canB as (((spotsL as n).take 12).map fun z => [z]) = true := by
      rw [can_miss as 0]
      have := missL_dots as Cp.id 0 ((spotsL as n).take 12) Cp.id_ok (fun a h => (ka a h).ok) (fun z h => (kt z h).1)
      have e2 : (((spotsL as n).take 12).map fun z => [Cp.id.at z]) = ((spotsL as n).take 12).map fun z => [z] := List.map_congr_left fun z h => by rw [Cp.id_at (kt z h).1]
      rw [e2] at this
      rw [this, List.all_eq_true]
      intro z hz
      exact (List.mem_filter.mp (List.mem_of_mem_take hz)).2
    rw [e]
    simp only [Bool.not_true, Bool.false_eq_true, if_false, rNext]
    exact nx _
  · exact ite_no q (nx _)
end
/-! ### all spots, one by one -/
section
variable {Γ : CL} {E : Ed} {as : List Am} {n : Int} {μ : MH} {s0 s1 s3 s4 s6 s12 s13 s14 : Option D}
theorem f1 {x y : Int} {pre : List Num} {x10 x11 : Option D} (ka : ∀ a ∈ as, a.small) (l3 : as.length ≤ 3) (kz : Can (spotI1 x y) ∧ Sz 8 (spotI1 x y)) (hp : pre.length ≤ 100000)
    (h : ∀ x10 x11, E.nx [s0, s1, some (.lst (as.map armTD)), s3, s4, some (.int n), s6, some (.lst ((pre ++ [spotI1 x y].filter (inAll as)).map numD)), some (.int x), some (.int y), x10, x11, s12, s13, s14] μ) :
    rd_law_f1 Γ E [s0, s1, some (.lst (as.map armTD)), s3, s4, some (.int n), s6, some (.lst (pre.map numD)), some (.int x), some (.int y), x10, x11, s12, s13, s14] μ := by
  have k5 : ∀ a ∈ as, a.ok ∧ a.sz 5 := fun a h => ⟨(ka a h).ok, (ka a h).sz⟩
  have kd : okDr 8 [[spotI1 x y]] := dots_ok (zs := [spotI1 x y]) (by show 1 ≤ 12; decide) (fun z hz => by
    rcases List.mem_cons.mp hz with rfl | hz
    · exact kz
    · cases hz)
  have e : (missL 0 as [[spotI1 x y]]).1.isNone = inAll as (spotI1 x y) := by
    have := missL_dots as Cp.id 0 [spotI1 x y] Cp.id_ok (fun a h => (ka a h).ok) (fun z h => by
      rcases List.mem_cons.mp h with rfl | h
      · exact kz.1
      · cases h)
    rw [List.map_cons, List.map_nil, Cp.id_at kz.1] at this
    rw [this]
    show (_ && true) = _
    rw [Bool.and_true]
  unfold rd_law_f1
  refine seq_g fun N hN => ?_
  simp only [rAsg, rCl, rCons, rTup, rVar, rC, rNil, gt]
  refine ⟨by show 3 ≤ 2 ^ 24; decide, by show 1 ≤ 2 ^ 24; decide, by show 1 ≤ 2 ^ 24; decide, ?_⟩
  refine missed_i (ss := [[spotI1 x y]]) (okN_small as 8 _ k5 kd (by omega)) (by omega) ?_
  refine ⟨rfl, ?_⟩
  simp only [rGCons, rGNil, rGN, st, true_and]
  refine hN _ _ ?_
  clear hN N
  simp only [rAsg, rOp, rLst, rCl, rCons, rTup, rVar, rC, rNil, gt]
  refine ⟨by show 3 ≤ 2 ^ 24; decide, by show 1 ≤ 2 ^ 24; decide, ?_⟩
  have en : isNonD (missD3 (missL 0 as [[spotI1 x y]]).1) = inAll as (spotI1 x y) := by
    rw [← e]
    cases (missL 0 as [[spotI1 x y]]).1 <;> rfl
  have gi : ∀ (d : D) (μ : MH) (Q : D → MH → Prop), Q (.bl (isNonD d)) μ → gIsN d .non μ Q := fun d μ Q q => by
    cases d <;> exact q
  refine gi _ _ _ ?_
  rw [en]
  cases q : inAll as (spotI1 x y) with
  | true =>
    refine ⟨by decide, by decide, by show 1 * 1 ≤ 2 ^ 24; decide, ?_⟩
    refine ⟨by rw [List.length_map]; show pre.length + 1 ≤ 2 ^ 24; omega, ?_⟩
    have := h (some (missD3 (missL 0 as [[spotI1 x y]]).1)) (some (strsD (missL 0 as [[spotI1 x y]]).2))
    rw [List.filter_cons_of_pos q, List.filter_nil, List.map_append] at this
    exact this
  | false =>
    refine ⟨by decide, by decide, by show 1 * 0 ≤ 2 ^ 24; decide, ?_⟩
    refine ⟨by rw [List.length_map]; show pre.length + 0 ≤ 2 ^ 24; omega, ?_⟩
    have := h (some (missD3 (missL 0 as [[spotI1 x y]]).1)) (some (strsD (missL 0 as [[spotI1 x y]]).2))
    rw [List.filter_cons_of_neg (by rw [q]; simp), List.filter_nil, List.append_nil] at this
    show E.nx [s0, s1, _, s3, s4, _, s6, some (.lst (pre.map numD ++ [])), _, _, _, _, s12, s13, s14] μ
    rw [List.append_nil]
    exact this
theorem f1s {x : Int} (ka : ∀ a ∈ as, a.small) (l3 : as.length ≤ 3) : ∀ (ys : List Int) (pre : List Num) (x9 x10 x11 : Option D), (∀ y ∈ ys, Can (spotI1 x y) ∧ Sz 8 (spotI1 x y)) → pre.length + ys.length ≤ 100000 →
    (∀ x9 x10 x11, E.nx [s0, s1, some (.lst (as.map armTD)), s3, s4, some (.int n), s6, some (.lst ((pre ++ (ys.map (spotI1 x)).filter (inAll as)).map numD)), some (.int x), x9, x10, x11, s12, s13, s14] μ) →
    forD (rGN 9) (rd_law_f1 Γ) tru E (ys.map D.int) [s0, s1, some (.lst (as.map armTD)), s3, s4, some (.int n), s6, some (.lst (pre.map numD)), some (.int x), x9, x10, x11, s12, s13, s14] μ
  | [], pre, x9, x10, x11, _, _, h => ⟨trivial, by have := h x9 x10 x11; rw [List.map_nil, List.filter_nil, List.append_nil] at this; exact this⟩
  | y :: ys, pre, x9, x10, x11, hz, hp, h => by
    rw [List.length_cons] at hp
    refine ⟨trivial, ?_⟩
    simp only [rGN, st]
    refine f1 ka l3 (hz y (List.mem_cons_self ..)) (by omega) fun x10 x11 => ?_
    refine f1s ka l3 ys (pre ++ [spotI1 x y].filter (inAll as)) _ _ _ (fun z m => hz z (List.mem_cons_of_mem _ m)) ?_ (fun y9 y10 y11 => ?_)
    · have := List.length_filter_le (inAll as) [spotI1 x y]
      rw [List.length_append]
      simp only [List.length_cons, List.length_nil] at this
      omega
    · rw [List.append_assoc, ← List.filter_append]
      exact h y9 y10 y11
theorem f2s (ka : ∀ a ∈ as, a.small) (l3 : as.length ≤ 3) (n0 : 0 ≤ n) (n1 : n ≤ 5) : ∀ (xs : List Int) (pre : List Num) (x8 x9 x10 x11 : Option D), (∀ x ∈ xs, ∀ y ∈ sideL n, Can (spotI1 x y) ∧ Sz 8 (spotI1 x y)) → pre.length + xs.length * (sideL n).length ≤ 100000 →
    (∀ x8 x9 x10 x11, E.nx [s0, s1, some (.lst (as.map armTD)), s3, s4, some (.int n), s6, some (.lst ((pre ++ (xs.flatMap fun x => (sideL n).map (spotI1 x)).filter (inAll as)).map numD)), x8, x9, x10, x11, s12, s13, s14] μ) →
    forD (rGN 8) (rd_law_f2 Γ) tru E (xs.map D.int) [s0, s1, some (.lst (as.map armTD)), s3, s4, some (.int n), s6, some (.lst (pre.map numD)), x8, x9, x10, x11, s12, s13, s14] μ
  | [], pre, x8, x9, x10, x11, _, _, h => ⟨trivial, by have := h x8 x9 x10 x11; rw [List.flatMap_nil, List.filter_nil, List.append_nil] at this; exact this⟩
  | x :: xs, pre, x8, x9, x10, x11, hz, hp, h => by
    rw [List.length_cons, Nat.succ_mul] at hp
    refine ⟨trivial, ?_⟩
    unfold rd_law_f2
    simp only [rGN, st, rFor, rIRng2, rCons, rOp, rC, rVar, rNil, gt, gSub, gAdd, gI0]
    refine ⟨by unfold inR; omega, by unfold inR; omega, ?_⟩
    rw [rangeD_intsL]
    refine f1s ka l3 (sideL n) pre _ _ _ (hz x (List.mem_cons_self ..)) (by omega) (fun y9 y10 y11 => ?_)
    refine f2s ka l3 n0 n1 xs _ _ _ _ _ (fun z m => hz z (List.mem_cons_of_mem _ m)) ?_ (fun z8 z9 z10 z11 => ?_)
    · have := List.length_filter_le (inAll as) ((sideL n).map (spotI1 x))
      rw [List.length_append]
      rw [List.length_map] at this
      omega
    · rw [List.append_assoc, ← List.filter_append]
      have := h z8 z9 z10 z11
      rw [List.flatMap_cons] at this
      exact this
end
theorem vc_law (Γ : CL) : ∀ ds μ R, lawT Γ.tab lamQ ds μ R → rd_law Γ (fin R) (startD 15 ds) μ := by
  rintro ds μ R ⟨ns, rfl, hn, ht, hR⟩
  unfold rd_law
  rw [show startD 15 [.scr (ns.map D.int)] = [some (.scr (ns.map D.int)), none, none, none, none, none, none, none, none, none, none, none, none, none, none] from rfl]
  refine seq_g fun N hN => ?_
  simp only [rAsg, rCl, rCons, rVar, rC, gt, rNil]
  refine ⟨ns, 20, rfl, by decide, by decide, hn, fun g xs hg hx => ?_⟩
  have gt' : g ≠ Γ.tab := fun e => by rw [e, ht] at hg; cases hg
  have tb : ∀ v : List D, updM μ g (.lst v) Γ.tab = some (.tab lamQ) := fun v => by rw [updM_ne gt'.symm]; exact ht
  simp only [rGN, st]
  refine hN _ _ ?_
  clear hN N
  refine seq_g fun N hN => ?_
  simp only [rAsg, rLc, rIRng1, rCl, rCons, rVar, rC, gt, rNil, rms, rm]
  refine ⟨g, 4, xs, rfl, by decide, by decide, updM_same, hx, fun n x1 n0 n1 hx1 => ?_⟩
  have hln : (rangeD 0 n.toNat).length = n.toNat := rangeD_len ..
  refine ⟨by unfold inR; omega, by rw [hln]; show n.toNat ≤ 2 ^ 24; omega, ?_⟩
  refine lc_arms (j := 1) (fun d => rfl) _ [] _ x1 updM_same hx1 fun as ys hl ha hy => ?_
  rw [hln] at hl
  simp only [List.nil_append, updM_updM, rGN, st]
  refine hN _ _ ?_
  clear hN N
  have l3 : as.length ≤ 3 := by omega
  refine seq_g fun N hN => ?_
  simp only [rAsg, rTup, rCl, rCons, rVar, rC, gt, rNil]
  refine lchain_i (fun a h => ⟨(ha a h).ok, (ha a h).sz.mono (by decide)⟩) (by omega) ?_
  refine ⟨g, 6, ys, rfl, by decide, by decide, updM_same, hy, fun m zs m0 m1 hz => ?_⟩
  refine ⟨by show 2 ≤ 2 ^ 24; decide, rfl, ?_⟩
  simp only [rGCons, rGNil, rGN, st, true_and, updM_updM]
  refine hN _ _ ?_
  clear hN N
  refine seq_g fun N hN => ?_
  simp only [rPar, rCons, rCl, rLst, rVar, gt, rNil]
  refine reach_i ha (by omega) m0 (by omega) ?_
  refine ⟨by show 0 ≤ 2 ^ 24; decide, ?_⟩
  simp only [st]
  refine hN _ _ ?_
  clear hN N
  refine seq_g fun N hN => ?_
  simp only [rFor, rIRng2, rCons, rOp, rC, rVar, rNil, gt, gSub, gAdd, gI0]
  refine ⟨by unfold inR; omega, by unfold inR; omega, ?_⟩
  rw [rangeD_intsL]
  have sl : (sideL m).length = (m + 1 - (0 - m)).toNat := intsL_len _ _
  refine f2s ha l3 m0 (by omega) (sideL m) [] _ _ _ _ (fun x hx y hy => ?_) ?_ (fun x8 x9 x10 x11 => ?_)
  · rw [side_mem m0] at hx hy
    exact spot1_ok hx.1 hx.2 hy.1 hy.2 (by omega)
  · rw [sl]
    have : (m + 1 - (0 - m)).toNat ≤ 11 := by omega
    have := Nat.mul_le_mul this this
    show 0 + _ ≤ _
    omega
  · refine hN _ _ ?_
    exact t3 ha l3 m0 (by omega) (tb _) gt' updM_same hz hR
end L3.K20

/-! ## A_k20 -/
set_option Elab.async false
set_option linter.all false
set_option maxRecDepth 100000
set_option maxHeartbeats 0
namespace L3.K20
open PySem PySem.Spec PyProof.Rows L2 NM
def Γ0 (K : PySem.W.Frag) : CL := ⟨He.ga K "Copy", He.ga K "Drawing", He.ga K "Arm", He.ga K "Chain", He.ga K "Reader", lawP K, lawP K, fun s => He.ga K s⟩
section
variable {P : Program} {w : World} {K : PySem.W.Frag} {mg : Str → Option Value} {base : Heap}
theorem ln_law_random (Γ : CL) : ∀ ds μ R, sp_law_random Γ ds μ R → ds.length = 2 := by
  intro ds μ R h
  obtain ⟨_, _, rfl, _⟩ := h <;> rfl
theorem ok_law_random {fd : FuncData} (T : Fc K mg (Γ0 K)) (F : FunD K "_law_random" "_law_random" (defArgs (top 73)) (defBody (top 73)) (defScope (top 73)) [] [] (He.ga K "_law_random") fd)  : FnOk P w K mg base CX0 1 (He.ga K "_law_random") fd ["_law_script", "_law_salt"] (spD K (sp_law_random (Γ0 K))) :=
  fnD F sc_law_random (ln_law_random (Γ0 K)) (fun cdv A outer s0 H E hr => dv_law_random (Γ0 K) T  cdv A outer s0 H E hr) (vc_law_random (Γ0 K))
theorem ln_law_below (Γ : CL) : ∀ ds μ R, sp_law_below Γ ds μ R → ds.length = 2 := by
  intro ds μ R h
  obtain ⟨_, _, _, rfl, _⟩ := h <;> rfl
theorem ok_law_below {fd : FuncData} (T : Fc K mg (Γ0 K)) (F : FunD K "_law_below" "_law_below" (defArgs (top 74)) (defBody (top 74)) (defScope (top 74)) [] [] (He.ga K "_law_below") fd)  : FnOk P w K mg base CX0 1 (He.ga K "_law_below") fd ["_law_d", "_law_limit"] (spD K (sp_law_below (Γ0 K))) :=
  fnD F sc_law_below (ln_law_below (Γ0 K)) (fun cdv A outer s0 H E hr => dv_law_below (Γ0 K) T  cdv A outer s0 H E hr) (vc_law_below (Γ0 K))
theorem ln_law_step (Γ : CL) : ∀ ds μ R, sp_law_step Γ ds μ R → ds.length = 2 := by
  intro ds μ R h
  obtain ⟨_, _, _, rfl, _⟩ := h <;> rfl
theorem ok_law_step {fd : FuncData} (T : Fc K mg (Γ0 K)) (F : FunD K "_law_step" "_law_step" (defArgs (top 75)) (defBody (top 75)) (defScope (top 75)) [] [] (He.ga K "_law_step") fd) (G_law_below : FnG P w K mg base 1 "_law_below" (sp_law_below (Γ0 K))) : FnOk P w K mg base CX0 2 (He.ga K "_law_step") fd ["_law_d", "_law_size_now"] (spD K (sp_law_step (Γ0 K))) :=
  fnD F sc_law_step (ln_law_step (Γ0 K)) (fun cdv A outer s0 H E hr => dv_law_step (Γ0 K) T G_law_below cdv A outer s0 H E hr) (vc_law_step (Γ0 K))
theorem ln_law_common (Γ : CL) : ∀ ds μ R, sp_law_common Γ ds μ R → ds.length = 2 := by
  intro ds μ R h
  first | (unfold sp_law_common sp_common_divisor at h; split at h <;> first | rfl | exact h.elim) | (replace h : sp_common_divisor Γ ds μ R := h; obtain ⟨_, _, rfl, _⟩ := h; rfl) | (obtain ⟨rfl, _⟩ := h <;> rfl) | (obtain ⟨_, rfl, _⟩ := h <;> rfl) | (obtain ⟨_, _, rfl, _⟩ := h <;> rfl) | (obtain ⟨_, _, _, rfl, _⟩ := h <;> rfl) | (obtain ⟨_, _, _, _, rfl, _⟩ := h <;> rfl) | (obtain ⟨_, _, _, _, _, rfl, _⟩ := h <;> rfl) | (obtain ⟨_, _, _, _, _, _, rfl, _⟩ := h <;> rfl) | (obtain ⟨_, _, _, _, _, _, _, rfl, _⟩ := h <;> rfl) | (obtain ⟨_, _, _, _, _, _, _, _, rfl, _⟩ := h <;> rfl) | (obtain ⟨rfl | rfl, _⟩ := h <;> rfl) | (obtain ⟨_, rfl | rfl, _⟩ := h <;> rfl) | (obtain ⟨_, _, rfl | rfl, _⟩ := h <;> rfl) | (obtain ⟨_, _, _, rfl | rfl, _⟩ := h <;> rfl) | (obtain ⟨_, ⟨_, rfl, _⟩ | ⟨_, rfl, _⟩⟩ := h <;> rfl) | (rcases h with ⟨_, rfl, _⟩ | ⟨_, _, _, rfl, _⟩ <;> rfl)
theorem ok_law_common {fd : FuncData} (T : Fc K mg (Γ0 K)) (F : FunD K "_law_common" "_law_common" (defArgs (top 76)) (defBody (top 76)) (defScope (top 76)) [] [] (He.ga K "_law_common") fd)  : FnOk P w K mg base CX0 1 (He.ga K "_law_common") fd ["_law_one", "_law_other"] (spD K (sp_law_common (Γ0 K))) :=
  fnD F sc_law_common (ln_law_common (Γ0 K)) (fun cdv A outer s0 H E hr => dv_law_common (Γ0 K) T  cdv A outer s0 H E hr) (vc_law_common (Γ0 K))
theorem ln_law_lowest (Γ : CL) : ∀ ds μ R, sp_law_lowest Γ ds μ R → ds.length = 3 := by
  intro ds μ R h
  first | (unfold sp_law_lowest sp_lowest at h; split at h <;> first | rfl | exact h.elim) | (replace h : sp_lowest Γ ds μ R := h; obtain ⟨_, _, rfl, _⟩ := h; rfl) | (obtain ⟨rfl, _⟩ := h <;> rfl) | (obtain ⟨_, rfl, _⟩ := h <;> rfl) | (obtain ⟨_, _, rfl, _⟩ := h <;> rfl) | (obtain ⟨_, _, _, rfl, _⟩ := h <;> rfl) | (obtain ⟨_, _, _, _, rfl, _⟩ := h <;> rfl) | (obtain ⟨_, _, _, _, _, rfl, _⟩ := h <;> rfl) | (obtain ⟨_, _, _, _, _, _, rfl, _⟩ := h <;> rfl) | (obtain ⟨_, _, _, _, _, _, _, rfl, _⟩ := h <;> rfl) | (obtain ⟨_, _, _, _, _, _, _, _, rfl, _⟩ := h <;> rfl) | (obtain ⟨rfl | rfl, _⟩ := h <;> rfl) | (obtain ⟨_, rfl | rfl, _⟩ := h <;> rfl) | (obtain ⟨_, _, rfl | rfl, _⟩ := h <;> rfl) | (obtain ⟨_, _, _, rfl | rfl, _⟩ := h <;> rfl) | (obtain ⟨_, ⟨_, rfl, _⟩ | ⟨_, rfl, _⟩⟩ := h <;> rfl) | (rcases h with ⟨_, rfl, _⟩ | ⟨_, _, _, rfl, _⟩ <;> rfl)
theorem ok_law_lowest {fd : FuncData} (T : Fc K mg (Γ0 K)) (F : FunD K "_law_lowest" "_law_lowest" (defArgs (top 77)) (defBody (top 77)) (defScope (top 77)) [] [] (He.ga K "_law_lowest") fd) (G_law_common : FnG P w K mg base 1 "_law_common" (sp_law_common (Γ0 K))) : FnOk P w K mg base CX0 2 (He.ga K "_law_lowest") fd ["_law_x", "_law_y", "_law_q"] (spD K (sp_law_lowest (Γ0 K))) :=
  fnD F sc_law_lowest (ln_law_lowest (Γ0 K)) (fun cdv A outer s0 H E hr => dv_law_lowest (Γ0 K) T G_law_common cdv A outer s0 H E hr) (vc_law_lowest (Γ0 K))
theorem ln_law_spot (Γ : CL) : ∀ ds μ R, sp_law_spot Γ ds μ R → ds.length = 1 := by
  intro ds μ R h
  obtain ⟨_, _, rfl, _⟩ := h <;> rfl
theorem ok_law_spot {fd : FuncData} (T : Fc K mg (Γ0 K)) (F : FunD K "_law_spot" "_law_spot" (defArgs (top 78)) (defBody (top 78)) (defScope (top 78)) [] [] (He.ga K "_law_spot") fd) (G_law_below : FnG P w K mg base 1 "_law_below" (sp_law_below (Γ0 K))) (G_law_lowest : FnG P w K mg base 2 "_law_lowest" (sp_law_lowest (Γ0 K))) : FnOk P w K mg base CX0 3 (He.ga K "_law_spot") fd ["_law_d"] (spD K (sp_law_spot (Γ0 K))) :=
  fnD F sc_law_spot (ln_law_spot (Γ0 K)) (fun cdv A outer s0 H E hr => dv_law_spot (Γ0 K) T G_law_below G_law_lowest cdv A outer s0 H E hr) (vc_law_spot (Γ0 K))
theorem ln_law_turn (Γ : CL) : ∀ ds μ R, sp_law_turn Γ ds μ R → ds.length = 1 := by
  intro ds μ R h
  obtain ⟨_, _, rfl, _⟩ := h <;> rfl
theorem ok_law_turn {fd : FuncData} (T : Fc K mg (Γ0 K)) (F : FunD K "_law_turn" "_law_turn" (defArgs (top 79)) (defBody (top 79)) (defScope (top 79)) [] [] (He.ga K "_law_turn") fd) (G_law_below : FnG P w K mg base 1 "_law_below" (sp_law_below (Γ0 K))) : FnOk P w K mg base CX0 2 (He.ga K "_law_turn") fd ["_law_d"] (spD K (sp_law_turn (Γ0 K))) :=
  fnD F sc_law_turn (ln_law_turn (Γ0 K)) (fun cdv A outer s0 H E hr => dv_law_turn (Γ0 K) T G_law_below cdv A outer s0 H E hr) (vc_law_turn (Γ0 K))
theorem ln_law_arm_told (Γ : CL) : ∀ ds μ R, sp_law_arm_told Γ ds μ R → ds.length = 1 := by
  intro ds μ R h
  obtain ⟨_, _, rfl, _⟩ := h <;> rfl
theorem ok_law_arm_told {fd : FuncData} (T : Fc K mg (Γ0 K)) (F : FunD K "_law_arm_told" "_law_arm_told" (defArgs (top 80)) (defBody (top 80)) (defScope (top 80)) [] [] (He.ga K "_law_arm_told") fd) (G_law_below : FnG P w K mg base 1 "_law_below" (sp_law_below (Γ0 K))) (G_law_step : FnG P w K mg base 2 "_law_step" (sp_law_step (Γ0 K))) (G_law_spot : FnG P w K mg base 3 "_law_spot" (sp_law_spot (Γ0 K))) (G_law_turn : FnG P w K mg base 2 "_law_turn" (sp_law_turn (Γ0 K))) : FnOk P w K mg base CX0 4 (He.ga K "_law_arm_told") fd ["_law_d"] (spD K (sp_law_arm_told (Γ0 K))) :=
  fnD F sc_law_arm_told (ln_law_arm_told (Γ0 K)) (fun cdv A outer s0 H E hr => dv_law_arm_told (Γ0 K) T G_law_below G_law_step G_law_spot G_law_turn cdv A outer s0 H E hr) (vc_law_arm_told (Γ0 K))
theorem ok_Chain___init {fd : FuncData} (T : Fc K mg (Γ0 K)) (F : FunD K "__init__" "Chain.__init__" (defArgs (inClass (top 60) 0)) (defBody (inClass (top 60) 0)) (defScope (inClass (top 60) 0)) [] [] (He.ma K (He.ga K "Chain") "__init__") fd)  : FnR P w K mg base CX0 1 (He.ma K (He.ga K "Chain") "__init__") (starSp (spD K (sp_Chain___init (Γ0 K)))) :=
  fnS F sc_Chain___init (fun _ _ _ _ _ _ => ⟨fun _ => rfl, fun _ _ _ => rfl⟩) (fun cdv A outer s0 H E hr => dv_Chain___init (Γ0 K) T  cdv A outer s0 H E hr) (vc_Chain___init (Γ0 K))
theorem ln_is_int (Γ : CL) : ∀ ds μ R, sp_is_int Γ ds μ R → ds.length = 1 := by
  intro ds μ R h
  unfold sp_is_int at h; split at h <;> first | rfl | exact h.elim
theorem ok_is_int {fd : FuncData} (T : Fc K mg (Γ0 K)) (F : FunD K "is_int" "is_int" (defArgs (top 25)) (defBody (top 25)) (defScope (top 25)) [] [] (He.ga K "is_int") fd)  : FnOk P w K mg base CX0 1 (He.ga K "is_int") fd ["value"] (spD K (sp_is_int (Γ0 K))) :=
  fnD F sc_is_int (ln_is_int (Γ0 K)) (fun cdv A outer s0 H E hr => dv_is_int (Γ0 K) T  cdv A outer s0 H E hr) (vc_is_int (Γ0 K))
theorem ln_common_divisor (Γ : CL) : ∀ ds μ R, sp_common_divisor Γ ds μ R → ds.length = 2 := by
  intro ds μ R h
  unfold sp_common_divisor at h; split at h <;> first | rfl | exact h.elim
theorem ok_common_divisor {fd : FuncData} (T : Fc K mg (Γ0 K)) (F : FunD K "common_divisor" "common_divisor" (defArgs (top 26)) (defBody (top 26)) (defScope (top 26)) [] [] (He.ga K "common_divisor") fd)  : FnOk P w K mg base CX0 1 (He.ga K "common_divisor") fd ["one", "other"] (spD K (sp_common_divisor (Γ0 K))) :=
  fnD F sc_common_divisor (ln_common_divisor (Γ0 K)) (fun cdv A outer s0 H E hr => dv_common_divisor (Γ0 K) T  cdv A outer s0 H E hr) (vc_common_divisor (Γ0 K))
theorem ln_lowest (Γ : CL) : ∀ ds μ R, sp_lowest Γ ds μ R → ds.length = 3 := by
  intro ds μ R h
  unfold sp_lowest at h; split at h <;> first | rfl | exact h.elim
theorem ok_lowest {fd : FuncData} (T : Fc K mg (Γ0 K)) (F : FunD K "lowest" "lowest" (defArgs (top 29)) (defBody (top 29)) (defScope (top 29)) [] [] (He.ga K "lowest") fd) (G_common_divisor : FnG P w K mg base 1 "common_divisor" (sp_common_divisor (Γ0 K))) : FnOk P w K mg base CX0 2 (He.ga K "lowest") fd ["x", "y", "d"] (spD K (sp_lowest (Γ0 K))) :=
  fnD F sc_lowest (ln_lowest (Γ0 K)) (fun cdv A outer s0 H E hr => dv_lowest (Γ0 K) T G_common_divisor cdv A outer s0 H E hr) (vc_lowest (Γ0 K))
theorem ln_is_number (Γ : CL) : ∀ ds μ R, sp_is_number Γ ds μ R → ds.length = 1 := by
  intro ds μ R h
  unfold sp_is_number at h; split at h <;> first | rfl | exact h.elim
theorem ok_is_number {fd : FuncData} (T : Fc K mg (Γ0 K)) (F : FunD K "is_number" "is_number" (defArgs (top 32)) (defBody (top 32)) (defScope (top 32)) [] [] (He.ga K "is_number") fd) (G_is_int : FnG P w K mg base 1 "is_int" (sp_is_int (Γ0 K))) (G_lowest : FnG P w K mg base 2 "lowest" (sp_lowest (Γ0 K))) : FnOk P w K mg base CX0 3 (He.ga K "is_number") fd ["value"] (spD K (sp_is_number (Γ0 K))) :=
  fnD F sc_is_number (ln_is_number (Γ0 K)) (fun cdv A outer s0 H E hr => dv_is_number (Γ0 K) T G_is_int G_lowest cdv A outer s0 H E hr) (vc_is_number (Γ0 K))
theorem ln_check_spot (Γ : CL) : ∀ ds μ R, sp_check_spot Γ ds μ R → ds.length = 1 := by
  intro ds μ R h
  unfold sp_check_spot at h; split at h <;> first | rfl | exact h.elim
theorem ok_check_spot {fd : FuncData} (T : Fc K mg (Γ0 K)) (F : FunD K "check_spot" "check_spot" (defArgs (top 43)) (defBody (top 43)) (defScope (top 43)) [] [] (He.ga K "check_spot") fd) (G_is_number : FnG P w K mg base 3 "is_number" (sp_is_number (Γ0 K))) : FnOk P w K mg base CX0 4 (He.ga K "check_spot") fd ["value"] (spD K (sp_check_spot (Γ0 K))) :=
  fnD F sc_check_spot (ln_check_spot (Γ0 K)) (fun cdv A outer s0 H E hr => dv_check_spot (Γ0 K) T G_is_number cdv A outer s0 H E hr) (vc_check_spot (Γ0 K))
theorem ln_check_turn (Γ : CL) : ∀ ds μ R, sp_check_turn Γ ds μ R → ds.length = 1 := by
  intro ds μ R h
  unfold sp_check_turn at h; split at h <;> first | rfl | exact h.elim
theorem ok_check_turn {fd : FuncData} (T : Fc K mg (Γ0 K)) (F : FunD K "check_turn" "check_turn" (defArgs (top 44)) (defBody (top 44)) (defScope (top 44)) [] [] (He.ga K "check_turn") fd) (G_is_number : FnG P w K mg base 3 "is_number" (sp_is_number (Γ0 K))) : FnOk P w K mg base CX0 4 (He.ga K "check_turn") fd ["value"] (spD K (sp_check_turn (Γ0 K))) :=
  fnD F sc_check_turn (ln_check_turn (Γ0 K)) (fun cdv A outer s0 H E hr => dv_check_turn (Γ0 K) T G_is_number cdv A outer s0 H E hr) (vc_check_turn (Γ0 K))
theorem ln_is_int_in (Γ : CL) : ∀ ds μ R, sp_is_int_in Γ ds μ R → ds.length = 3 := by
  intro ds μ R h
  obtain ⟨_, _, _, rfl, _⟩ := h <;> rfl
theorem ok_is_int_in {fd : FuncData} (T : Fc K mg (Γ0 K)) (F : FunD K "is_int_in" "is_int_in" (defArgs (top 24)) (defBody (top 24)) (defScope (top 24)) [] [] (He.ga K "is_int_in") fd)  : FnOk P w K mg base CX0 1 (He.ga K "is_int_in") fd ["value", "low", "high"] (spD K (sp_is_int_in (Γ0 K))) :=
  fnD F sc_is_int_in (ln_is_int_in (Γ0 K)) (fun cdv A outer s0 H E hr => dv_is_int_in (Γ0 K) T  cdv A outer s0 H E hr) (vc_is_int_in (Γ0 K))
theorem ln_Arm___init (Γ : CL) : ∀ ds μ R, sp_Arm___init Γ ds μ R → ds.length = 6 := by
  intro ds μ R h
  unfold sp_Arm___init at h; split at h <;> first | rfl | exact h.elim
theorem ok_Arm___init {fd : FuncData} (T : Fc K mg (Γ0 K)) (F : FunD K "__init__" "Arm.__init__" (defArgs (inClass (top 49) 0)) (defBody (inClass (top 49) 0)) (defScope (inClass (top 49) 0)) [] [("mirrored", (.bl false))] (He.ma K (He.ga K "Arm") "__init__") fd) (G_check_spot : FnG P w K mg base 4 "check_spot" (sp_check_spot (Γ0 K))) (G_check_turn : FnG P w K mg base 4 "check_turn" (sp_check_turn (Γ0 K))) (G_is_int_in : FnG P w K mg base 1 "is_int_in" (sp_is_int_in (Γ0 K))) : FnOk P w K mg base CX0 5 (He.ma K (He.ga K "Arm") "__init__") fd ["self", "pole", "turn", "near", "far", "mirrored"] (spD K (sp_Arm___init (Γ0 K))) :=
  fnD F sc_Arm___init (ln_Arm___init (Γ0 K)) (fun cdv A outer s0 H E hr => dv_Arm___init (Γ0 K) T G_check_spot G_check_turn G_is_int_in cdv A outer s0 H E hr) (vc_Arm___init (Γ0 K))
theorem ln_law_arm (Γ : CL) : ∀ ds μ R, sp_law_arm Γ ds μ R → ds.length = 1 := by
  intro ds μ R h
  obtain ⟨_, rfl, _⟩ := h <;> rfl
theorem ok_law_arm {fd : FuncData} (T : Fc K mg (Γ0 K)) (F : FunD K "_law_arm" "_law_arm" (defArgs (top 81)) (defBody (top 81)) (defScope (top 81)) [] [] (He.ga K "_law_arm") fd) (G_Arm___init_k_mirrored : MkK P w K mg base 5 "Arm" (Γ0 K).Arm (sp_Arm___init (Γ0 K)) 4 ["mirrored"] gD_Arm_mirrored) : FnOk P w K mg base CX0 7 (He.ga K "_law_arm") fd ["_law_told"] (spD K (sp_law_arm (Γ0 K))) :=
  fnD F sc_law_arm (ln_law_arm (Γ0 K)) (fun cdv A outer s0 H E hr => dv_law_arm (Γ0 K) T G_Arm___init_k_mirrored cdv A outer s0 H E hr) (vc_law_arm (Γ0 K))
theorem ln_Chain___add (Γ : CL) : ∀ ds μ R, sp_Chain___add Γ ds μ R → ds.length = 2 := by
  intro ds μ R h
  obtain ⟨_, _, rfl, _⟩ := h <;> rfl
theorem ok_Chain___add {fd : FuncData} (T : Fc K mg (Γ0 K)) (F : FunD K "__add__" "Chain.__add__" (defArgs (inClass (top 60) 5)) (defBody (inClass (top 60) 5)) (defScope (inClass (top 60) 5)) [] [] (He.ma K (He.ga K "Chain") "__add__") fd) (G_Chain___init : MkS P w K mg base 1 "Chain" (Γ0 K).Chain (sp_Chain___init (Γ0 K))) : FnOk P w K mg base CX0 3 (He.ma K (He.ga K "Chain") "__add__") fd ["self", "other"] (spD K (sp_Chain___add (Γ0 K))) :=
  fnD F sc_Chain___add (ln_Chain___add (Γ0 K)) (fun cdv A outer s0 H E hr => dv_Chain___add (Γ0 K) T G_Chain___init cdv A outer s0 H E hr) (vc_Chain___add (Γ0 K))
theorem ln_law_chain (Γ : CL) : ∀ ds μ R, sp_law_chain Γ ds μ R → ds.length = 1 := by
  intro ds μ R h
  obtain ⟨_, rfl, _⟩ := h <;> rfl
theorem ok_law_chain {fd : FuncData} (T : Fc K mg (Γ0 K)) (F : FunD K "_law_chain" "_law_chain" (defArgs (top 82)) (defBody (top 82)) (defScope (top 82)) [] [] (He.ga K "_law_chain") fd) (G_law_arm : FnG P w K mg base 7 "_law_arm" (sp_law_arm (Γ0 K))) (G_Chain___add : MtG P w K mg base 3 (Γ0 K).Chain (He.ma K (Γ0 K).Chain "__add__") (sp_Chain___add (Γ0 K))) (G_Chain___init : MkS P w K mg base 1 "Chain" (Γ0 K).Chain (sp_Chain___init (Γ0 K))) : FnOk P w K mg base CX0 8 (He.ga K "_law_chain") fd ["_law_tolds"] (spD K (sp_law_chain (Γ0 K))) :=
  fnD F sc_law_chain (ln_law_chain (Γ0 K)) (fun cdv A outer s0 H E hr => dv_law_chain (Γ0 K) T G_law_arm G_Chain___add G_Chain___init cdv A outer s0 H E hr) (vc_law_chain (Γ0 K))
theorem ln_Copy___init (Γ : CL) : ∀ ds μ R, sp_Copy___init Γ ds μ R → ds.length = 4 := by
  intro ds μ R h
  unfold sp_Copy___init at h; split at h <;> first | rfl | exact h.elim
theorem ok_Copy___init {fd : FuncData} (T : Fc K mg (Γ0 K)) (F : FunD K "__init__" "Copy.__init__" (defArgs (inClass (top 46) 0)) (defBody (inClass (top 46) 0)) (defScope (inClass (top 46) 0)) [] [("mirrored", (.bl false))] (He.ma K (He.ga K "Copy") "__init__") fd) (G_check_turn : FnG P w K mg base 4 "check_turn" (sp_check_turn (Γ0 K))) (G_check_spot : FnG P w K mg base 4 "check_spot" (sp_check_spot (Γ0 K))) : FnOk P w K mg base CX0 5 (He.ma K (He.ga K "Copy") "__init__") fd ["self", "turn", "shift", "mirrored"] (spD K (sp_Copy___init (Γ0 K))) :=
  fnD F sc_Copy___init (ln_Copy___init (Γ0 K)) (fun cdv A outer s0 H E hr => dv_Copy___init (Γ0 K) T G_check_turn G_check_spot cdv A outer s0 H E hr) (vc_Copy___init (Γ0 K))
theorem ln_multiplied (Γ : CL) : ∀ ds μ R, sp_multiplied Γ ds μ R → ds.length = 2 := by
  intro ds μ R h
  unfold sp_multiplied at h; split at h <;> first | rfl | exact h.elim
theorem ok_multiplied {fd : FuncData} (T : Fc K mg (Γ0 K)) (F : FunD K "multiplied" "multiplied" (defArgs (top 36)) (defBody (top 36)) (defScope (top 36)) [] [] (He.ga K "multiplied") fd) (G_lowest : FnG P w K mg base 2 "lowest" (sp_lowest (Γ0 K))) : FnOk P w K mg base CX0 3 (He.ga K "multiplied") fd ["one", "other"] (spD K (sp_multiplied (Γ0 K))) :=
  fnD F sc_multiplied (ln_multiplied (Γ0 K)) (fun cdv A outer s0 H E hr => dv_multiplied (Γ0 K) T G_lowest cdv A outer s0 H E hr) (vc_multiplied (Γ0 K))
theorem ln_turned_over (Γ : CL) : ∀ ds μ R, sp_turned_over Γ ds μ R → ds.length = 1 := by
  intro ds μ R h
  unfold sp_turned_over at h; split at h <;> first | rfl | exact h.elim
theorem ok_turned_over {fd : FuncData} (T : Fc K mg (Γ0 K)) (F : FunD K "turned_over" "turned_over" (defArgs (top 37)) (defBody (top 37)) (defScope (top 37)) [] [] (He.ga K "turned_over") fd)  : FnOk P w K mg base CX0 1 (He.ga K "turned_over") fd ["one"] (spD K (sp_turned_over (Γ0 K))) :=
  fnD F sc_turned_over (ln_turned_over (Γ0 K)) (fun cdv A outer s0 H E hr => dv_turned_over (Γ0 K) T  cdv A outer s0 H E hr) (vc_turned_over (Γ0 K))
theorem ln_added (Γ : CL) : ∀ ds μ R, sp_added Γ ds μ R → ds.length = 2 := by
  intro ds μ R h
  unfold sp_added at h; split at h <;> first | rfl | exact h.elim
theorem ok_added {fd : FuncData} (T : Fc K mg (Γ0 K)) (F : FunD K "added" "added" (defArgs (top 33)) (defBody (top 33)) (defScope (top 33)) [] [] (He.ga K "added") fd) (G_lowest : FnG P w K mg base 2 "lowest" (sp_lowest (Γ0 K))) : FnOk P w K mg base CX0 3 (He.ga K "added") fd ["one", "other"] (spD K (sp_added (Γ0 K))) :=
  fnD F sc_added (ln_added (Γ0 K)) (fun cdv A outer s0 H E hr => dv_added (Γ0 K) T G_lowest cdv A outer s0 H E hr) (vc_added (Γ0 K))
theorem ln_opposite (Γ : CL) : ∀ ds μ R, sp_opposite Γ ds μ R → ds.length = 1 := by
  intro ds μ R h
  unfold sp_opposite at h; split at h <;> first | rfl | exact h.elim
theorem ok_opposite {fd : FuncData} (T : Fc K mg (Γ0 K)) (F : FunD K "opposite" "opposite" (defArgs (top 34)) (defBody (top 34)) (defScope (top 34)) [] [] (He.ga K "opposite") fd)  : FnOk P w K mg base CX0 1 (He.ga K "opposite") fd ["one"] (spD K (sp_opposite (Γ0 K))) :=
  fnD F sc_opposite (ln_opposite (Γ0 K)) (fun cdv A outer s0 H E hr => dv_opposite (Γ0 K) T  cdv A outer s0 H E hr) (vc_opposite (Γ0 K))
theorem ln_less (Γ : CL) : ∀ ds μ R, sp_less Γ ds μ R → ds.length = 2 := by
  intro ds μ R h
  unfold sp_less at h; split at h <;> first | rfl | exact h.elim
theorem ok_less {fd : FuncData} (T : Fc K mg (Γ0 K)) (F : FunD K "less" "less" (defArgs (top 35)) (defBody (top 35)) (defScope (top 35)) [] [] (He.ga K "less") fd) (G_added : FnG P w K mg base 3 "added" (sp_added (Γ0 K))) (G_opposite : FnG P w K mg base 1 "opposite" (sp_opposite (Γ0 K))) : FnOk P w K mg base CX0 4 (He.ga K "less") fd ["one", "other"] (spD K (sp_less (Γ0 K))) :=
  fnD F sc_less (ln_less (Γ0 K)) (fun cdv A outer s0 H E hr => dv_less (Γ0 K) T G_added G_opposite cdv A outer s0 H E hr) (vc_less (Γ0 K))
theorem ln_copy_about (Γ : CL) : ∀ ds μ R, sp_copy_about Γ ds μ R → ds.length = 3 := by
  intro ds μ R h
  obtain ⟨_, _, _, rfl, _⟩ := h <;> rfl
theorem ok_copy_about {fd : FuncData} (T : Fc K mg (Γ0 K)) (F : FunD K "copy_about" "copy_about" (defArgs (top 50)) (defBody (top 50)) (defScope (top 50)) [] [] (He.ga K "copy_about") fd) (G_multiplied : FnG P w K mg base 3 "multiplied" (sp_multiplied (Γ0 K))) (G_turned_over : FnG P w K mg base 1 "turned_over" (sp_turned_over (Γ0 K))) (G_less : FnG P w K mg base 4 "less" (sp_less (Γ0 K))) (G_Copy___init_k_mirrored : MkK P w K mg base 5 "Copy" (Γ0 K).Copy (sp_Copy___init (Γ0 K)) 2 ["mirrored"] gD_Copy_mirrored) : FnOk P w K mg base CX0 7 (He.ga K "copy_about") fd ["pole", "turn", "mirrored"] (spD K (sp_copy_about (Γ0 K))) :=
  fnD F sc_copy_about (ln_copy_about (Γ0 K)) (fun cdv A outer s0 H E hr => dv_copy_about (Γ0 K) T G_multiplied G_turned_over G_less G_Copy___init_k_mirrored cdv A outer s0 H E hr) (vc_copy_about (Γ0 K))
theorem ln_Arm_effect (Γ : CL) : ∀ ds μ R, sp_Arm_effect Γ ds μ R → ds.length = 1 := by
  intro ds μ R h
  obtain ⟨_, rfl, _⟩ := h <;> rfl
theorem ok_Arm_effect {fd : FuncData} (T : Fc K mg (Γ0 K)) (F : FunD K "effect" "Arm.effect" (defArgs (inClass (top 49) 1)) (defBody (inClass (top 49) 1)) (defScope (inClass (top 49) 1)) [] [] (gtA K (He.ga K "Arm") "effect") fd) (G_copy_about : FnG P w K mg base 7 "copy_about" (sp_copy_about (Γ0 K))) : FnOk P w K mg base CX0 8 (gtA K (He.ga K "Arm") "effect") fd ["self"] (spD K (sp_Arm_effect (Γ0 K))) :=
  fnD F sc_Arm_effect (ln_Arm_effect (Γ0 K)) (fun cdv A outer s0 H E hr => dv_Arm_effect (Γ0 K) T G_copy_about cdv A outer s0 H E hr) (vc_Arm_effect (Γ0 K))
theorem ln_carried (Γ : CL) : ∀ ds μ R, sp_carried Γ ds μ R → ds.length = 2 := by
  intro ds μ R h
  obtain ⟨_, _, rfl, _⟩ := h <;> rfl
theorem ok_carried {fd : FuncData} (T : Fc K mg (Γ0 K)) (F : FunD K "carried" "carried" (defArgs (top 45)) (defBody (top 45)) (defScope (top 45)) [] [] (He.ga K "carried") fd) (G_added : FnG P w K mg base 3 "added" (sp_added (Γ0 K))) (G_multiplied : FnG P w K mg base 3 "multiplied" (sp_multiplied (Γ0 K))) (G_turned_over : FnG P w K mg base 1 "turned_over" (sp_turned_over (Γ0 K))) : FnOk P w K mg base CX0 4 (He.ga K "carried") fd ["copy", "spot"] (spD K (sp_carried (Γ0 K))) :=
  fnD F sc_carried (ln_carried (Γ0 K)) (fun cdv A outer s0 H E hr => dv_carried (Γ0 K) T G_added G_multiplied G_turned_over cdv A outer s0 H E hr) (vc_carried (Γ0 K))
theorem ln_Copy___rshift (Γ : CL) : ∀ ds μ R, sp_Copy___rshift Γ ds μ R → ds.length = 2 := by
  intro ds μ R h
  obtain ⟨_, _, rfl, _⟩ := h <;> rfl
theorem ok_Copy___rshift {fd : FuncData} (T : Fc K mg (Γ0 K)) (F : FunD K "__rshift__" "Copy.__rshift__" (defArgs (inClass (top 46) 3)) (defBody (inClass (top 46) 3)) (defScope (inClass (top 46) 3)) [] [] (He.ma K (He.ga K "Copy") "__rshift__") fd) (G_turned_over : FnG P w K mg base 1 "turned_over" (sp_turned_over (Γ0 K))) (G_carried : FnG P w K mg base 4 "carried" (sp_carried (Γ0 K))) (G_multiplied : FnG P w K mg base 3 "multiplied" (sp_multiplied (Γ0 K))) (G_Copy___init_k_mirrored : MkK P w K mg base 5 "Copy" (Γ0 K).Copy (sp_Copy___init (Γ0 K)) 2 ["mirrored"] gD_Copy_mirrored) : FnOk P w K mg base CX0 7 (He.ma K (He.ga K "Copy") "__rshift__") fd ["self", "other"] (spD K (sp_Copy___rshift (Γ0 K))) :=
  fnD F sc_Copy___rshift (ln_Copy___rshift (Γ0 K)) (fun cdv A outer s0 H E hr => dv_Copy___rshift (Γ0 K) T G_turned_over G_carried G_multiplied G_Copy___init_k_mirrored cdv A outer s0 H E hr) (vc_Copy___rshift (Γ0 K))
theorem ln_copies_ahead (Γ : CL) : ∀ ds μ R, sp_copies_ahead Γ ds μ R → ds.length = 1 := by
  intro ds μ R h
  obtain ⟨_, rfl, _⟩ := h <;> rfl
theorem ok_copies_ahead {fd : FuncData} (T : Fc K mg (Γ0 K)) (F : FunD K "copies_ahead" "copies_ahead" (defArgs (top 61)) (defBody (top 61)) (defScope (top 61)) [] [] (He.ga K "copies_ahead") fd) (G_Arm_effect : MtG P w K mg base 8 (Γ0 K).Arm (gtA K (Γ0 K).Arm "effect") (sp_Arm_effect (Γ0 K))) (G_Copy___rshift : MtG P w K mg base 7 (Γ0 K).Copy (He.ma K (Γ0 K).Copy "__rshift__") (sp_Copy___rshift (Γ0 K))) (G_Copy___init_k : MkD P w K mg base 5 "Copy" (Γ0 K).Copy (sp_Copy___init (Γ0 K)) [.bl false]) : FnOk P w K mg base CX0 10 (He.ga K "copies_ahead") fd ["arms"] (spD K (sp_copies_ahead (Γ0 K))) :=
  fnD F sc_copies_ahead (ln_copies_ahead (Γ0 K)) (fun cdv A outer s0 H E hr => dv_copies_ahead (Γ0 K) T G_Arm_effect G_Copy___rshift G_Copy___init_k cdv A outer s0 H E hr) (vc_copies_ahead (Γ0 K))
theorem ln_ratio (Γ : CL) : ∀ ds μ R, sp_ratio Γ ds μ R → ds.length = 2 := by
  intro ds μ R h
  unfold sp_ratio at h; split at h <;> first | rfl | exact h.elim
theorem ok_ratio {fd : FuncData} (T : Fc K mg (Γ0 K)) (F : FunD K "ratio" "ratio" (defArgs (top 28)) (defBody (top 28)) (defScope (top 28)) [] [] (He.ga K "ratio") fd) (G_common_divisor : FnG P w K mg base 1 "common_divisor" (sp_common_divisor (Γ0 K))) : FnOk P w K mg base CX0 2 (He.ga K "ratio") fd ["numerator", "denominator"] (spD K (sp_ratio (Γ0 K))) :=
  fnD F sc_ratio (ln_ratio (Γ0 K)) (fun cdv A outer s0 H E hr => dv_ratio (Γ0 K) T G_common_divisor cdv A outer s0 H E hr) (vc_ratio (Γ0 K))
theorem ln_size (Γ : CL) : ∀ ds μ R, sp_size Γ ds μ R → ds.length = 1 := by
  intro ds μ R h
  unfold sp_size at h; split at h <;> first | rfl | exact h.elim
theorem ok_size {fd : FuncData} (T : Fc K mg (Γ0 K)) (F : FunD K "size" "size" (defArgs (top 39)) (defBody (top 39)) (defScope (top 39)) [] [] (He.ga K "size") fd) (G_ratio : FnG P w K mg base 2 "ratio" (sp_ratio (Γ0 K))) : FnOk P w K mg base CX0 3 (He.ga K "size") fd ["one"] (spD K (sp_size (Γ0 K))) :=
  fnD F sc_size (ln_size (Γ0 K)) (fun cdv A outer s0 H E hr => dv_size (Γ0 K) T G_ratio cdv A outer s0 H E hr) (vc_size (Γ0 K))
theorem ln_Copy_growth (Γ : CL) : ∀ ds μ R, sp_Copy_growth Γ ds μ R → ds.length = 1 := by
  intro ds μ R h
  obtain ⟨_, rfl, _⟩ := h <;> rfl
theorem ok_Copy_growth {fd : FuncData} (T : Fc K mg (Γ0 K)) (F : FunD K "growth" "Copy.growth" (defArgs (inClass (top 46) 5)) (defBody (inClass (top 46) 5)) (defScope (inClass (top 46) 5)) [] [] (gtA K (He.ga K "Copy") "growth") fd) (G_size : FnG P w K mg base 3 "size" (sp_size (Γ0 K))) : FnOk P w K mg base CX0 4 (gtA K (He.ga K "Copy") "growth") fd ["self"] (spD K (sp_Copy_growth (Γ0 K))) :=
  fnD F sc_Copy_growth (ln_Copy_growth (Γ0 K)) (fun cdv A outer s0 H E hr => dv_Copy_growth (Γ0 K) T G_size cdv A outer s0 H E hr) (vc_Copy_growth (Γ0 K))
theorem ln_inverse (Γ : CL) : ∀ ds μ R, sp_inverse Γ ds μ R → ds.length = 1 := by
  intro ds μ R h
  unfold sp_inverse at h; split at h <;> first | rfl | exact h.elim
theorem ok_inverse {fd : FuncData} (T : Fc K mg (Γ0 K)) (F : FunD K "inverse" "inverse" (defArgs (top 38)) (defBody (top 38)) (defScope (top 38)) [] [] (He.ga K "inverse") fd) (G_lowest : FnG P w K mg base 2 "lowest" (sp_lowest (Γ0 K))) : FnOk P w K mg base CX0 3 (He.ga K "inverse") fd ["one"] (spD K (sp_inverse (Γ0 K))) :=
  fnD F sc_inverse (ln_inverse (Γ0 K)) (fun cdv A outer s0 H E hr => dv_inverse (Γ0 K) T G_lowest cdv A outer s0 H E hr) (vc_inverse (Γ0 K))
theorem ln_Copy___invert (Γ : CL) : ∀ ds μ R, sp_Copy___invert Γ ds μ R → ds.length = 1 := by
  intro ds μ R h
  obtain ⟨_, rfl, _⟩ := h <;> rfl
theorem ok_Copy___invert {fd : FuncData} (T : Fc K mg (Γ0 K)) (F : FunD K "__invert__" "Copy.__invert__" (defArgs (inClass (top 46) 4)) (defBody (inClass (top 46) 4)) (defScope (inClass (top 46) 4)) [] [] (He.ma K (He.ga K "Copy") "__invert__") fd) (G_inverse : FnG P w K mg base 3 "inverse" (sp_inverse (Γ0 K))) (G_turned_over : FnG P w K mg base 1 "turned_over" (sp_turned_over (Γ0 K))) (G_opposite : FnG P w K mg base 1 "opposite" (sp_opposite (Γ0 K))) (G_multiplied : FnG P w K mg base 3 "multiplied" (sp_multiplied (Γ0 K))) (G_Copy___init_k_mirrored : MkK P w K mg base 5 "Copy" (Γ0 K).Copy (sp_Copy___init (Γ0 K)) 2 ["mirrored"] gD_Copy_mirrored) : FnOk P w K mg base CX0 7 (He.ma K (He.ga K "Copy") "__invert__") fd ["self"] (spD K (sp_Copy___invert (Γ0 K))) :=
  fnD F sc_Copy___invert (ln_Copy___invert (Γ0 K)) (fun cdv A outer s0 H E hr => dv_Copy___invert (Γ0 K) T G_inverse G_turned_over G_opposite G_multiplied G_Copy___init_k_mirrored cdv A outer s0 H E hr) (vc_Copy___invert (Γ0 K))
theorem ln_zones (Γ : CL) : ∀ ds μ R, sp_zones Γ ds μ R → ds.length = 1 := by
  intro ds μ R h
  obtain ⟨_, rfl, _⟩ := h <;> rfl
theorem ok_zones {fd : FuncData} (T : Fc K mg (Γ0 K)) (F : FunD K "zones" "zones" (defArgs (top 62)) (defBody (top 62)) (defScope (top 62)) [] [] (He.ga K "zones") fd) (G_copies_ahead : FnG P w K mg base 10 "copies_ahead" (sp_copies_ahead (Γ0 K))) (G_Copy_growth : MtG P w K mg base 4 (Γ0 K).Copy (gtA K (Γ0 K).Copy "growth") (sp_Copy_growth (Γ0 K))) (G_ratio : FnG P w K mg base 2 "ratio" (sp_ratio (Γ0 K))) (G_carried : FnG P w K mg base 4 "carried" (sp_carried (Γ0 K))) (G_Copy___invert : MtG P w K mg base 7 (Γ0 K).Copy (He.ma K (Γ0 K).Copy "__invert__") (sp_Copy___invert (Γ0 K))) : FnOk P w K mg base CX0 11 (He.ga K "zones") fd ["chain"] (spD K (sp_zones (Γ0 K))) :=
  fnD F sc_zones (ln_zones (Γ0 K)) (fun cdv A outer s0 H E hr => dv_zones (Γ0 K) T G_copies_ahead G_Copy_growth G_ratio G_carried G_Copy___invert cdv A outer s0 H E hr) (vc_zones (Γ0 K))
theorem ln_is_less (Γ : CL) : ∀ ds μ R, sp_is_less Γ ds μ R → ds.length = 2 := by
  intro ds μ R h
  first | (unfold sp_is_less sp_law_less at h; split at h <;> first | rfl | exact h.elim) | (replace h : sp_law_less Γ ds μ R := h; obtain ⟨_, _, rfl, _⟩ := h; rfl) | (obtain ⟨rfl, _⟩ := h <;> rfl) | (obtain ⟨_, rfl, _⟩ := h <;> rfl) | (obtain ⟨_, _, rfl, _⟩ := h <;> rfl) | (obtain ⟨_, _, _, rfl, _⟩ := h <;> rfl) | (obtain ⟨_, _, _, _, rfl, _⟩ := h <;> rfl) | (obtain ⟨_, _, _, _, _, rfl, _⟩ := h <;> rfl) | (obtain ⟨_, _, _, _, _, _, rfl, _⟩ := h <;> rfl) | (obtain ⟨_, _, _, _, _, _, _, rfl, _⟩ := h <;> rfl) | (obtain ⟨_, _, _, _, _, _, _, _, rfl, _⟩ := h <;> rfl) | (obtain ⟨rfl | rfl, _⟩ := h <;> rfl) | (obtain ⟨_, rfl | rfl, _⟩ := h <;> rfl) | (obtain ⟨_, _, rfl | rfl, _⟩ := h <;> rfl) | (obtain ⟨_, _, _, rfl | rfl, _⟩ := h <;> rfl) | (obtain ⟨_, ⟨_, rfl, _⟩ | ⟨_, rfl, _⟩⟩ := h <;> rfl) | (rcases h with ⟨_, rfl, _⟩ | ⟨_, _, _, rfl, _⟩ <;> rfl)
theorem ok_is_less {fd : FuncData} (T : Fc K mg (Γ0 K)) (F : FunD K "is_less" "is_less" (defArgs (top 40)) (defBody (top 40)) (defScope (top 40)) [] [] (He.ga K "is_less") fd)  : FnOk P w K mg base CX0 1 (He.ga K "is_less") fd ["one", "other"] (spD K (sp_is_less (Γ0 K))) :=
  fnD F sc_is_less (ln_is_less (Γ0 K)) (fun cdv A outer s0 H E hr => dv_is_less (Γ0 K) T  cdv A outer s0 H E hr) (vc_is_less (Γ0 K))
theorem ln_is_in_ring (Γ : CL) : ∀ ds μ R, sp_is_in_ring Γ ds μ R → ds.length = 2 := by
  intro ds μ R h
  obtain ⟨_, _, rfl, _⟩ := h <;> rfl
theorem ok_is_in_ring {fd : FuncData} (T : Fc K mg (Γ0 K)) (F : FunD K "is_in_ring" "is_in_ring" (defArgs (top 64)) (defBody (top 64)) (defScope (top 64)) [] [] (He.ga K "is_in_ring") fd) (G_size : FnG P w K mg base 3 "size" (sp_size (Γ0 K))) (G_less : FnG P w K mg base 4 "less" (sp_less (Γ0 K))) (G_is_less : FnG P w K mg base 1 "is_less" (sp_is_less (Γ0 K))) : FnOk P w K mg base CX0 5 (He.ga K "is_in_ring") fd ["spot", "ring"] (spD K (sp_is_in_ring (Γ0 K))) :=
  fnD F sc_is_in_ring (ln_is_in_ring (Γ0 K)) (fun cdv A outer s0 H E hr => dv_is_in_ring (Γ0 K) T G_size G_less G_is_less cdv A outer s0 H E hr) (vc_is_in_ring (Γ0 K))
theorem ln_reachable_spots (Γ : CL) : ∀ ds μ R, sp_reachable_spots Γ ds μ R → ds.length = 2 := by
  intro ds μ R h
  obtain ⟨_, _, rfl, _⟩ := h <;> rfl
theorem ok_reachable_spots {fd : FuncData} (T : Fc K mg (Γ0 K)) (F : FunD K "reachable_spots" "reachable_spots" (defArgs (top 63)) (defBody (top 63)) (defScope (top 63)) [] [] (He.ga K "reachable_spots") fd) (G_is_int_in : FnG P w K mg base 1 "is_int_in" (sp_is_int_in (Γ0 K))) (G_zones : FnG P w K mg base 11 "zones" (sp_zones (Γ0 K))) (G_is_in_ring : FnG P w K mg base 5 "is_in_ring" (sp_is_in_ring (Γ0 K))) : FnOk P w K mg base CX0 12 (He.ga K "reachable_spots") fd ["chain", "limit"] (spD K (sp_reachable_spots (Γ0 K))) :=
  fnD F sc_reachable_spots (ln_reachable_spots (Γ0 K)) (fun cdv A outer s0 H E hr => dv_reachable_spots (Γ0 K) T G_is_int_in G_zones G_is_in_ring cdv A outer s0 H E hr) (vc_reachable_spots (Γ0 K))
theorem ln_law_ratio (Γ : CL) : ∀ ds μ R, sp_law_ratio Γ ds μ R → ds.length = 2 := by
  intro ds μ R h
  unfold sp_law_ratio at h; split at h <;> first | rfl | exact h.elim
theorem ok_law_ratio {fd : FuncData} (T : Fc K mg (Γ0 K)) (F : FunD K "_law_ratio" "_law_ratio" (defArgs (top 83)) (defBody (top 83)) (defScope (top 83)) [] [] (He.ga K "_law_ratio") fd) (G_law_lowest : FnG P w K mg base 2 "_law_lowest" (sp_law_lowest (Γ0 K))) : FnOk P w K mg base CX0 3 (He.ga K "_law_ratio") fd ["_law_p", "_law_q"] (spD K (sp_law_ratio (Γ0 K))) :=
  fnD F sc_law_ratio (ln_law_ratio (Γ0 K)) (fun cdv A outer s0 H E hr => dv_law_ratio (Γ0 K) T G_law_lowest cdv A outer s0 H E hr) (vc_law_ratio (Γ0 K))
theorem ln_law_size (Γ : CL) : ∀ ds μ R, sp_law_size Γ ds μ R → ds.length = 1 := by
  intro ds μ R h
  unfold sp_law_size at h; split at h <;> first | rfl | exact h.elim
theorem ok_law_size {fd : FuncData} (T : Fc K mg (Γ0 K)) (F : FunD K "_law_size" "_law_size" (defArgs (top 84)) (defBody (top 84)) (defScope (top 84)) [] [] (He.ga K "_law_size") fd) (G_law_ratio : FnG P w K mg base 3 "_law_ratio" (sp_law_ratio (Γ0 K))) : FnOk P w K mg base CX0 4 (He.ga K "_law_size") fd ["_law_one"] (spD K (sp_law_size (Γ0 K))) :=
  fnD F sc_law_size (ln_law_size (Γ0 K)) (fun cdv A outer s0 H E hr => dv_law_size (Γ0 K) T G_law_ratio cdv A outer s0 H E hr) (vc_law_size (Γ0 K))
theorem ln_law_plus (Γ : CL) : ∀ ds μ R, sp_law_plus Γ ds μ R → ds.length = 2 := by
  intro ds μ R h
  first | (unfold sp_law_plus sp_added at h; split at h <;> first | rfl | exact h.elim) | (replace h : sp_added Γ ds μ R := h; obtain ⟨_, _, rfl, _⟩ := h; rfl) | (obtain ⟨rfl, _⟩ := h <;> rfl) | (obtain ⟨_, rfl, _⟩ := h <;> rfl) | (obtain ⟨_, _, rfl, _⟩ := h <;> rfl) | (obtain ⟨_, _, _, rfl, _⟩ := h <;> rfl) | (obtain ⟨_, _, _, _, rfl, _⟩ := h <;> rfl) | (obtain ⟨_, _, _, _, _, rfl, _⟩ := h <;> rfl) | (obtain ⟨_, _, _, _, _, _, rfl, _⟩ := h <;> rfl) | (obtain ⟨_, _, _, _, _, _, _, rfl, _⟩ := h <;> rfl) | (obtain ⟨_, _, _, _, _, _, _, _, rfl, _⟩ := h <;> rfl) | (obtain ⟨rfl | rfl, _⟩ := h <;> rfl) | (obtain ⟨_, rfl | rfl, _⟩ := h <;> rfl) | (obtain ⟨_, _, rfl | rfl, _⟩ := h <;> rfl) | (obtain ⟨_, _, _, rfl | rfl, _⟩ := h <;> rfl) | (obtain ⟨_, ⟨_, rfl, _⟩ | ⟨_, rfl, _⟩⟩ := h <;> rfl) | (rcases h with ⟨_, rfl, _⟩ | ⟨_, _, _, rfl, _⟩ <;> rfl)
theorem ok_law_plus {fd : FuncData} (T : Fc K mg (Γ0 K)) (F : FunD K "_law_plus" "_law_plus" (defArgs (top 85)) (defBody (top 85)) (defScope (top 85)) [] [] (He.ga K "_law_plus") fd) (G_law_lowest : FnG P w K mg base 2 "_law_lowest" (sp_law_lowest (Γ0 K))) : FnOk P w K mg base CX0 3 (He.ga K "_law_plus") fd ["_law_one", "_law_other"] (spD K (sp_law_plus (Γ0 K))) :=
  fnD F sc_law_plus (ln_law_plus (Γ0 K)) (fun cdv A outer s0 H E hr => dv_law_plus (Γ0 K) T G_law_lowest cdv A outer s0 H E hr) (vc_law_plus (Γ0 K))
theorem ln_law_minus (Γ : CL) : ∀ ds μ R, sp_law_minus Γ ds μ R → ds.length = 2 := by
  intro ds μ R h
  first | (unfold sp_law_minus sp_less at h; split at h <;> first | rfl | exact h.elim) | (replace h : sp_less Γ ds μ R := h; obtain ⟨_, _, rfl, _⟩ := h; rfl) | (obtain ⟨rfl, _⟩ := h <;> rfl) | (obtain ⟨_, rfl, _⟩ := h <;> rfl) | (obtain ⟨_, _, rfl, _⟩ := h <;> rfl) | (obtain ⟨_, _, _, rfl, _⟩ := h <;> rfl) | (obtain ⟨_, _, _, _, rfl, _⟩ := h <;> rfl) | (obtain ⟨_, _, _, _, _, rfl, _⟩ := h <;> rfl) | (obtain ⟨_, _, _, _, _, _, rfl, _⟩ := h <;> rfl) | (obtain ⟨_, _, _, _, _, _, _, rfl, _⟩ := h <;> rfl) | (obtain ⟨_, _, _, _, _, _, _, _, rfl, _⟩ := h <;> rfl) | (obtain ⟨rfl | rfl, _⟩ := h <;> rfl) | (obtain ⟨_, rfl | rfl, _⟩ := h <;> rfl) | (obtain ⟨_, _, rfl | rfl, _⟩ := h <;> rfl) | (obtain ⟨_, _, _, rfl | rfl, _⟩ := h <;> rfl) | (obtain ⟨_, ⟨_, rfl, _⟩ | ⟨_, rfl, _⟩⟩ := h <;> rfl) | (rcases h with ⟨_, rfl, _⟩ | ⟨_, _, _, rfl, _⟩ <;> rfl)
theorem ok_law_minus {fd : FuncData} (T : Fc K mg (Γ0 K)) (F : FunD K "_law_minus" "_law_minus" (defArgs (top 86)) (defBody (top 86)) (defScope (top 86)) [] [] (He.ga K "_law_minus") fd) (G_law_plus : FnG P w K mg base 3 "_law_plus" (sp_law_plus (Γ0 K))) : FnOk P w K mg base CX0 4 (He.ga K "_law_minus") fd ["_law_one", "_law_other"] (spD K (sp_law_minus (Γ0 K))) :=
  fnD F sc_law_minus (ln_law_minus (Γ0 K)) (fun cdv A outer s0 H E hr => dv_law_minus (Γ0 K) T G_law_plus cdv A outer s0 H E hr) (vc_law_minus (Γ0 K))
theorem ln_law_less (Γ : CL) : ∀ ds μ R, sp_law_less Γ ds μ R → ds.length = 2 := by
  intro ds μ R h
  unfold sp_law_less at h; split at h <;> first | rfl | exact h.elim
theorem ok_law_less {fd : FuncData} (T : Fc K mg (Γ0 K)) (F : FunD K "_law_less" "_law_less" (defArgs (top 87)) (defBody (top 87)) (defScope (top 87)) [] [] (He.ga K "_law_less") fd)  : FnOk P w K mg base CX0 1 (He.ga K "_law_less") fd ["_law_one", "_law_other"] (spD K (sp_law_less (Γ0 K))) :=
  fnD F sc_law_less (ln_law_less (Γ0 K)) (fun cdv A outer s0 H E hr => dv_law_less (Γ0 K) T  cdv A outer s0 H E hr) (vc_law_less (Γ0 K))
theorem ln_law_reached (Γ : CL) : ∀ ds μ R, sp_law_reached Γ ds μ R → ds.length = 2 := by
  intro ds μ R h
  obtain ⟨_, _, rfl, _⟩ := h <;> rfl
theorem ok_law_reached {fd : FuncData} (T : Fc K mg (Γ0 K)) (F : FunD K "_law_reached" "_law_reached" (defArgs (top 88)) (defBody (top 88)) (defScope (top 88)) [] [] (He.ga K "_law_reached") fd) (G_law_size : FnG P w K mg base 4 "_law_size" (sp_law_size (Γ0 K))) (G_law_minus : FnG P w K mg base 4 "_law_minus" (sp_law_minus (Γ0 K))) (G_law_less : FnG P w K mg base 1 "_law_less" (sp_law_less (Γ0 K))) : FnOk P w K mg base CX0 5 (He.ga K "_law_reached") fd ["_law_told", "_law_spot_here"] (spD K (sp_law_reached (Γ0 K))) :=
  fnD F sc_law_reached (ln_law_reached (Γ0 K)) (fun cdv A outer s0 H E hr => dv_law_reached (Γ0 K) T G_law_size G_law_minus G_law_less cdv A outer s0 H E hr) (vc_law_reached (Γ0 K))
theorem ln_law_times (Γ : CL) : ∀ ds μ R, sp_law_times Γ ds μ R → ds.length = 2 := by
  intro ds μ R h
  first | (unfold sp_law_times sp_multiplied at h; split at h <;> first | rfl | exact h.elim) | (replace h : sp_multiplied Γ ds μ R := h; obtain ⟨_, _, rfl, _⟩ := h; rfl) | (obtain ⟨rfl, _⟩ := h <;> rfl) | (obtain ⟨_, rfl, _⟩ := h <;> rfl) | (obtain ⟨_, _, rfl, _⟩ := h <;> rfl) | (obtain ⟨_, _, _, rfl, _⟩ := h <;> rfl) | (obtain ⟨_, _, _, _, rfl, _⟩ := h <;> rfl) | (obtain ⟨_, _, _, _, _, rfl, _⟩ := h <;> rfl) | (obtain ⟨_, _, _, _, _, _, rfl, _⟩ := h <;> rfl) | (obtain ⟨_, _, _, _, _, _, _, rfl, _⟩ := h <;> rfl) | (obtain ⟨_, _, _, _, _, _, _, _, rfl, _⟩ := h <;> rfl) | (obtain ⟨rfl | rfl, _⟩ := h <;> rfl) | (obtain ⟨_, rfl | rfl, _⟩ := h <;> rfl) | (obtain ⟨_, _, rfl | rfl, _⟩ := h <;> rfl) | (obtain ⟨_, _, _, rfl | rfl, _⟩ := h <;> rfl) | (obtain ⟨_, ⟨_, rfl, _⟩ | ⟨_, rfl, _⟩⟩ := h <;> rfl) | (rcases h with ⟨_, rfl, _⟩ | ⟨_, _, _, rfl, _⟩ <;> rfl)
theorem ok_law_times {fd : FuncData} (T : Fc K mg (Γ0 K)) (F : FunD K "_law_times" "_law_times" (defArgs (top 89)) (defBody (top 89)) (defScope (top 89)) [] [] (He.ga K "_law_times") fd) (G_law_lowest : FnG P w K mg base 2 "_law_lowest" (sp_law_lowest (Γ0 K))) : FnOk P w K mg base CX0 3 (He.ga K "_law_times") fd ["_law_one", "_law_other"] (spD K (sp_law_times (Γ0 K))) :=
  fnD F sc_law_times (ln_law_times (Γ0 K)) (fun cdv A outer s0 H E hr => dv_law_times (Γ0 K) T G_law_lowest cdv A outer s0 H E hr) (vc_law_times (Γ0 K))
theorem ln_law_over (Γ : CL) : ∀ ds μ R, sp_law_over Γ ds μ R → ds.length = 1 := by
  intro ds μ R h
  first | (unfold sp_law_over sp_turned_over at h; split at h <;> first | rfl | exact h.elim) | (replace h : sp_turned_over Γ ds μ R := h; obtain ⟨_, _, rfl, _⟩ := h; rfl) | (obtain ⟨rfl, _⟩ := h <;> rfl) | (obtain ⟨_, rfl, _⟩ := h <;> rfl) | (obtain ⟨_, _, rfl, _⟩ := h <;> rfl) | (obtain ⟨_, _, _, rfl, _⟩ := h <;> rfl) | (obtain ⟨_, _, _, _, rfl, _⟩ := h <;> rfl) | (obtain ⟨_, _, _, _, _, rfl, _⟩ := h <;> rfl) | (obtain ⟨_, _, _, _, _, _, rfl, _⟩ := h <;> rfl) | (obtain ⟨_, _, _, _, _, _, _, rfl, _⟩ := h <;> rfl) | (obtain ⟨_, _, _, _, _, _, _, _, rfl, _⟩ := h <;> rfl) | (obtain ⟨rfl | rfl, _⟩ := h <;> rfl) | (obtain ⟨_, rfl | rfl, _⟩ := h <;> rfl) | (obtain ⟨_, _, rfl | rfl, _⟩ := h <;> rfl) | (obtain ⟨_, _, _, rfl | rfl, _⟩ := h <;> rfl) | (obtain ⟨_, ⟨_, rfl, _⟩ | ⟨_, rfl, _⟩⟩ := h <;> rfl) | (rcases h with ⟨_, rfl, _⟩ | ⟨_, _, _, rfl, _⟩ <;> rfl)
theorem ok_law_over {fd : FuncData} (T : Fc K mg (Γ0 K)) (F : FunD K "_law_over" "_law_over" (defArgs (top 90)) (defBody (top 90)) (defScope (top 90)) [] [] (He.ga K "_law_over") fd)  : FnOk P w K mg base CX0 1 (He.ga K "_law_over") fd ["_law_one"] (spD K (sp_law_over (Γ0 K))) :=
  fnD F sc_law_over (ln_law_over (Γ0 K)) (fun cdv A outer s0 H E hr => dv_law_over (Γ0 K) T  cdv A outer s0 H E hr) (vc_law_over (Γ0 K))
theorem ln_law_near (Γ : CL) : ∀ ds μ R, sp_law_near Γ ds μ R → ds.length = 3 := by
  intro ds μ R h
  first | (unfold sp_law_near sp_nearest at h; split at h <;> first | rfl | exact h.elim) | (replace h : sp_nearest Γ ds μ R := h; obtain ⟨_, _, rfl, _⟩ := h; rfl) | (obtain ⟨rfl, _⟩ := h <;> rfl) | (obtain ⟨_, rfl, _⟩ := h <;> rfl) | (obtain ⟨_, _, rfl, _⟩ := h <;> rfl) | (obtain ⟨_, _, _, rfl, _⟩ := h <;> rfl) | (obtain ⟨_, _, _, _, rfl, _⟩ := h <;> rfl) | (obtain ⟨_, _, _, _, _, rfl, _⟩ := h <;> rfl) | (obtain ⟨_, _, _, _, _, _, rfl, _⟩ := h <;> rfl) | (obtain ⟨_, _, _, _, _, _, _, rfl, _⟩ := h <;> rfl) | (obtain ⟨_, _, _, _, _, _, _, _, rfl, _⟩ := h <;> rfl) | (obtain ⟨rfl | rfl, _⟩ := h <;> rfl) | (obtain ⟨_, rfl | rfl, _⟩ := h <;> rfl) | (obtain ⟨_, _, rfl | rfl, _⟩ := h <;> rfl) | (obtain ⟨_, _, _, rfl | rfl, _⟩ := h <;> rfl) | (obtain ⟨_, ⟨_, rfl, _⟩ | ⟨_, rfl, _⟩⟩ := h <;> rfl) | (rcases h with ⟨_, rfl, _⟩ | ⟨_, _, _, rfl, _⟩ <;> rfl)
theorem ok_law_near {fd : FuncData} (T : Fc K mg (Γ0 K)) (F : FunD K "_law_near" "_law_near" (defArgs (top 91)) (defBody (top 91)) (defScope (top 91)) [] [] (He.ga K "_law_near") fd) (G_law_minus : FnG P w K mg base 4 "_law_minus" (sp_law_minus (Γ0 K))) (G_law_times : FnG P w K mg base 3 "_law_times" (sp_law_times (Γ0 K))) (G_law_over : FnG P w K mg base 1 "_law_over" (sp_law_over (Γ0 K))) (G_law_size : FnG P w K mg base 4 "_law_size" (sp_law_size (Γ0 K))) (G_law_less : FnG P w K mg base 1 "_law_less" (sp_law_less (Γ0 K))) (G_law_ratio : FnG P w K mg base 3 "_law_ratio" (sp_law_ratio (Γ0 K))) : FnOk P w K mg base CX0 5 (He.ga K "_law_near") fd ["_law_pole", "_law_one", "_law_other"] (spD K (sp_law_near (Γ0 K))) :=
  fnD F sc_law_near (ln_law_near (Γ0 K)) (fun cdv A outer s0 H E hr => dv_law_near (Γ0 K) T G_law_minus G_law_times G_law_over G_law_size G_law_less G_law_ratio cdv A outer s0 H E hr) (vc_law_near (Γ0 K))
theorem ln_law_traced (Γ : CL) : ∀ ds μ R, sp_law_traced Γ ds μ R → ds.length = 2 := by
  intro ds μ R h
  obtain ⟨_, _, rfl, _⟩ := h <;> rfl
theorem ok_law_traced {fd : FuncData} (T : Fc K mg (Γ0 K)) (F : FunD K "_law_traced" "_law_traced" (defArgs (top 92)) (defBody (top 92)) (defScope (top 92)) [] [] (He.ga K "_law_traced") fd) (G_law_reached : FnG P w K mg base 5 "_law_reached" (sp_law_reached (Γ0 K))) (G_law_near : FnG P w K mg base 5 "_law_near" (sp_law_near (Γ0 K))) (G_law_less : FnG P w K mg base 1 "_law_less" (sp_law_less (Γ0 K))) : FnOk P w K mg base CX0 6 (He.ga K "_law_traced") fd ["_law_told", "_law_stroke"] (spD K (sp_law_traced (Γ0 K))) :=
  fnD F sc_law_traced (ln_law_traced (Γ0 K)) (fun cdv A outer s0 H E hr => dv_law_traced (Γ0 K) T G_law_reached G_law_near G_law_less cdv A outer s0 H E hr) (vc_law_traced (Γ0 K))
theorem ln_law_about (Γ : CL) : ∀ ds μ R, sp_law_about Γ ds μ R → ds.length = 1 := by
  intro ds μ R h
  obtain ⟨_, rfl, _⟩ := h <;> rfl
theorem ok_law_about {fd : FuncData} (T : Fc K mg (Γ0 K)) (F : FunD K "_law_about" "_law_about" (defArgs (top 93)) (defBody (top 93)) (defScope (top 93)) [] [] (He.ga K "_law_about") fd) (G_law_times : FnG P w K mg base 3 "_law_times" (sp_law_times (Γ0 K))) (G_law_over : FnG P w K mg base 1 "_law_over" (sp_law_over (Γ0 K))) (G_law_minus : FnG P w K mg base 4 "_law_minus" (sp_law_minus (Γ0 K))) : FnOk P w K mg base CX0 5 (He.ga K "_law_about") fd ["_law_told"] (spD K (sp_law_about (Γ0 K))) :=
  fnD F sc_law_about (ln_law_about (Γ0 K)) (fun cdv A outer s0 H E hr => dv_law_about (Γ0 K) T G_law_times G_law_over G_law_minus cdv A outer s0 H E hr) (vc_law_about (Γ0 K))
theorem ln_law_carried (Γ : CL) : ∀ ds μ R, sp_law_carried Γ ds μ R → ds.length = 2 := by
  intro ds μ R h
  obtain ⟨_, _, rfl, _⟩ := h <;> rfl
theorem ok_law_carried {fd : FuncData} (T : Fc K mg (Γ0 K)) (F : FunD K "_law_carried" "_law_carried" (defArgs (top 94)) (defBody (top 94)) (defScope (top 94)) [] [] (He.ga K "_law_carried") fd) (G_law_plus : FnG P w K mg base 3 "_law_plus" (sp_law_plus (Γ0 K))) (G_law_times : FnG P w K mg base 3 "_law_times" (sp_law_times (Γ0 K))) (G_law_over : FnG P w K mg base 1 "_law_over" (sp_law_over (Γ0 K))) : FnOk P w K mg base CX0 4 (He.ga K "_law_carried") fd ["_law_told", "_law_spot_here"] (spD K (sp_law_carried (Γ0 K))) :=
  fnD F sc_law_carried (ln_law_carried (Γ0 K)) (fun cdv A outer s0 H E hr => dv_law_carried (Γ0 K) T G_law_plus G_law_times G_law_over cdv A outer s0 H E hr) (vc_law_carried (Γ0 K))
theorem ln_law_moved (Γ : CL) : ∀ ds μ R, sp_law_moved Γ ds μ R → ds.length = 2 := by
  intro ds μ R h
  obtain ⟨_, _, rfl, _⟩ := h <;> rfl
theorem ok_law_moved {fd : FuncData} (T : Fc K mg (Γ0 K)) (F : FunD K "_law_moved" "_law_moved" (defArgs (top 95)) (defBody (top 95)) (defScope (top 95)) [] [] (He.ga K "_law_moved") fd) (G_law_carried : FnG P w K mg base 4 "_law_carried" (sp_law_carried (Γ0 K))) : FnOk P w K mg base CX0 5 (He.ga K "_law_moved") fd ["_law_told", "_law_strokes"] (spD K (sp_law_moved (Γ0 K))) :=
  fnD F sc_law_moved (ln_law_moved (Γ0 K)) (fun cdv A outer s0 H E hr => dv_law_moved (Γ0 K) T G_law_carried cdv A outer s0 H E hr) (vc_law_moved (Γ0 K))
theorem ln_law_missed (Γ : CL) : ∀ ds μ R, sp_law_missed Γ ds μ R → ds.length = 2 := by
  intro ds μ R h
  obtain ⟨_, _, rfl, _⟩ := h <;> rfl
theorem ok_law_missed {fd : FuncData} (T : Fc K mg (Γ0 K)) (F : FunD K "_law_missed" "_law_missed" (defArgs (top 96)) (defBody (top 96)) (defScope (top 96)) [] [] (He.ga K "_law_missed") fd) (G_law_traced : FnG P w K mg base 6 "_law_traced" (sp_law_traced (Γ0 K))) (G_law_about : FnG P w K mg base 5 "_law_about" (sp_law_about (Γ0 K))) (G_law_moved : FnG P w K mg base 5 "_law_moved" (sp_law_moved (Γ0 K))) : FnOk P w K mg base CX0 7 (He.ga K "_law_missed") fd ["_law_tolds", "_law_strokes"] (spD K (sp_law_missed (Γ0 K))) :=
  fnD F sc_law_missed (ln_law_missed (Γ0 K)) (fun cdv A outer s0 H E hr => dv_law_missed (Γ0 K) T G_law_traced G_law_about G_law_moved cdv A outer s0 H E hr) (vc_law_missed (Γ0 K))
theorem ln_law_equal (Γ : CL) (m : Nat) : ∀ ds μ R, sp_law_equal Γ (m + 1) ds μ R → ds.length = 2 := by
  intro ds μ R h
  replace h : eqSp m ds μ R := h
  unfold eqSp at h
  split at h <;> first | rfl | exact h.elim
theorem ok_law_equal {fd : FuncData} (T : Fc K mg (Γ0 K)) (F : FunD K "_law_equal" "_law_equal" (defArgs (top 97)) (defBody (top 97)) (defScope (top 97)) [] [] (He.ga K "_law_equal") fd) {k m : Nat} (G_law_equal : FnG P w K mg base k "_law_equal" (sp_law_equal (Γ0 K) m)) : FnOk P w K mg base CX0 (k + 1) (He.ga K "_law_equal") fd ["_law_actual", "_law_expected"] (spD K (sp_law_equal (Γ0 K) (m + 1))) :=
  fnD F sc_law_equal (ln_law_equal (Γ0 K) m) (fun cdv A outer s0 H E hr => dv_law_equal (Γ0 K) T G_law_equal cdv A outer s0 H E hr) (vc_law_equal (Γ0 K) m)
theorem ln_parts_of (Γ : CL) : ∀ ds μ R, sp_parts_of Γ ds μ R → ds.length = 1 := by
  intro ds μ R h
  obtain ⟨_, rfl, _⟩ := h <;> rfl
theorem ok_parts_of {fd : FuncData} (T : Fc K mg (Γ0 K)) (F : FunD K "parts_of" "parts_of" (defArgs (top 54)) (defBody (top 54)) (defScope (top 54)) [] [] (He.ga K "parts_of") fd)  : FnOk P w K mg base CX0 1 (He.ga K "parts_of") fd ["stroke"] (spD K (sp_parts_of (Γ0 K))) :=
  fnD F sc_parts_of (ln_parts_of (Γ0 K)) (fun cdv A outer s0 H E hr => dv_parts_of (Γ0 K) T  cdv A outer s0 H E hr) (vc_parts_of (Γ0 K))
theorem ln_farthest (Γ : CL) : ∀ ds μ R, sp_farthest Γ ds μ R → ds.length = 3 := by
  intro ds μ R h
  obtain ⟨_, _, _, rfl, _⟩ := h <;> rfl
theorem ok_farthest {fd : FuncData} (T : Fc K mg (Γ0 K)) (F : FunD K "farthest" "farthest" (defArgs (top 53)) (defBody (top 53)) (defScope (top 53)) [] [] (He.ga K "farthest") fd) (G_size : FnG P w K mg base 3 "size" (sp_size (Γ0 K))) (G_less : FnG P w K mg base 4 "less" (sp_less (Γ0 K))) (G_is_less : FnG P w K mg base 1 "is_less" (sp_is_less (Γ0 K))) : FnOk P w K mg base CX0 5 (He.ga K "farthest") fd ["pole", "one", "other"] (spD K (sp_farthest (Γ0 K))) :=
  fnD F sc_farthest (ln_farthest (Γ0 K)) (fun cdv A outer s0 H E hr => dv_farthest (Γ0 K) T G_size G_less G_is_less cdv A outer s0 H E hr) (vc_farthest (Γ0 K))
theorem ln_common_multiple (Γ : CL) : ∀ ds μ R, sp_common_multiple Γ ds μ R → ds.length = 1 := by
  intro ds μ R h
  obtain ⟨_, _, rfl, _⟩ := h <;> rfl
theorem ok_common_multiple {fd : FuncData} (T : Fc K mg (Γ0 K)) (F : FunD K "common_multiple" "common_multiple" (defArgs (top 27)) (defBody (top 27)) (defScope (top 27)) [] [] (He.ga K "common_multiple") fd) (G_common_divisor : FnG P w K mg base 1 "common_divisor" (sp_common_divisor (Γ0 K))) : FnOk P w K mg base CX0 2 (He.ga K "common_multiple") fd ["values"] (spD K (sp_common_multiple (Γ0 K))) :=
  fnD F sc_common_multiple (ln_common_multiple (Γ0 K)) (fun cdv A outer s0 H E hr => dv_common_multiple (Γ0 K) T G_common_divisor cdv A outer s0 H E hr) (vc_common_multiple (Γ0 K))
theorem ln_least (Γ : CL) : ∀ ds μ R, sp_least Γ ds μ R → ds.length = 2 := by
  intro ds μ R h
  obtain ⟨_, _, rfl, _⟩ := h <;> rfl
theorem ok_least {fd : FuncData} (T : Fc K mg (Γ0 K)) (F : FunD K "least" "least" (defArgs (top 41)) (defBody (top 41)) (defScope (top 41)) [] [] (He.ga K "least") fd) (G_is_less : FnG P w K mg base 1 "is_less" (sp_is_less (Γ0 K))) : FnOk P w K mg base CX0 2 (He.ga K "least") fd ["one", "other"] (spD K (sp_least (Γ0 K))) :=
  fnD F sc_least (ln_least (Γ0 K)) (fun cdv A outer s0 H E hr => dv_least (Γ0 K) T G_is_less cdv A outer s0 H E hr) (vc_least (Γ0 K))
theorem ln_nearest (Γ : CL) : ∀ ds μ R, sp_nearest Γ ds μ R → ds.length = 3 := by
  intro ds μ R h
  obtain ⟨_, _, _, rfl, _⟩ := h <;> rfl
theorem ok_nearest {fd : FuncData} (T : Fc K mg (Γ0 K)) (F : FunD K "nearest" "nearest" (defArgs (top 52)) (defBody (top 52)) (defScope (top 52)) [] [] (He.ga K "nearest") fd) (G_common_multiple : FnG P w K mg base 2 "common_multiple" (sp_common_multiple (Γ0 K))) (G_ratio : FnG P w K mg base 2 "ratio" (sp_ratio (Γ0 K))) (G_least : FnG P w K mg base 2 "least" (sp_least (Γ0 K))) (G_size : FnG P w K mg base 3 "size" (sp_size (Γ0 K))) (G_less : FnG P w K mg base 4 "less" (sp_less (Γ0 K))) : FnOk P w K mg base CX0 5 (He.ga K "nearest") fd ["pole", "one", "other"] (spD K (sp_nearest (Γ0 K))) :=
  fnD F sc_nearest (ln_nearest (Γ0 K)) (fun cdv A outer s0 H E hr => dv_nearest (Γ0 K) T G_common_multiple G_ratio G_least G_size G_less cdv A outer s0 H E hr) (vc_nearest (Γ0 K))
theorem ln_span (Γ : CL) : ∀ ds μ R, sp_span Γ ds μ R → ds.length = 2 := by
  intro ds μ R h
  obtain ⟨_, _, _, rfl, _⟩ := h <;> rfl
theorem ok_span {fd : FuncData} (T : Fc K mg (Γ0 K)) (F : FunD K "span" "span" (defArgs (top 55)) (defBody (top 55)) (defScope (top 55)) [] [] (He.ga K "span") fd) (G_farthest : FnG P w K mg base 5 "farthest" (sp_farthest (Γ0 K))) (G_nearest : FnG P w K mg base 5 "nearest" (sp_nearest (Γ0 K))) : FnOk P w K mg base CX0 6 (He.ga K "span") fd ["pole", "part"] (spD K (sp_span (Γ0 K))) :=
  fnD F sc_span (ln_span (Γ0 K)) (fun cdv A outer s0 H E hr => dv_span (Γ0 K) T G_farthest G_nearest cdv A outer s0 H E hr) (vc_span (Γ0 K))
theorem ln_touched_span (Γ : CL) : ∀ ds μ R, sp_touched_span Γ ds μ R → ds.length = 2 := by
  intro ds μ R h
  obtain ⟨_, _, rfl, _⟩ := h <;> rfl
theorem ok_touched_span {fd : FuncData} (T : Fc K mg (Γ0 K)) (F : FunD K "touched_span" "touched_span" (defArgs (top 56)) (defBody (top 56)) (defScope (top 56)) [] [] (He.ga K "touched_span") fd) (G_parts_of : FnG P w K mg base 1 "parts_of" (sp_parts_of (Γ0 K))) (G_span : FnG P w K mg base 6 "span" (sp_span (Γ0 K))) (G_least : FnG P w K mg base 2 "least" (sp_least (Γ0 K))) (G_is_less : FnG P w K mg base 1 "is_less" (sp_is_less (Γ0 K))) : FnOk P w K mg base CX0 7 (He.ga K "touched_span") fd ["pole", "drawing"] (spD K (sp_touched_span (Γ0 K))) :=
  fnD F sc_touched_span (ln_touched_span (Γ0 K)) (fun cdv A outer s0 H E hr => dv_touched_span (Γ0 K) T G_parts_of G_span G_least G_is_less cdv A outer s0 H E hr) (vc_touched_span (Γ0 K))
theorem ln_check_stroke (Γ : CL) : ∀ ds μ R, sp_check_stroke Γ ds μ R → ds.length = 2 := by
  intro ds μ R h
  obtain ⟨_, _, rfl, _⟩ := h <;> rfl
theorem ok_check_stroke {fd : FuncData} (T : Fc K mg (Γ0 K)) (F : FunD K "check_stroke" "check_stroke" (defArgs (top 70)) (defBody (top 70)) (defScope (top 70)) [] [] (He.ga K "check_stroke") fd) (G_check_spot : FnG P w K mg base 4 "check_spot" (sp_check_spot (Γ0 K))) : FnOk P w K mg base CX0 5 (He.ga K "check_stroke") fd ["stroke", "index"] (spD K (sp_check_stroke (Γ0 K))) :=
  fnD F sc_check_stroke (ln_check_stroke (Γ0 K)) (fun cdv A outer s0 H E hr => dv_check_stroke (Γ0 K) T G_check_spot cdv A outer s0 H E hr) (vc_check_stroke (Γ0 K))
theorem ok_Drawing___init {fd : FuncData} (T : Fc K mg (Γ0 K)) (F : FunD K "__init__" "Drawing.__init__" (defArgs (inClass (top 71) 0)) (defBody (inClass (top 71) 0)) (defScope (inClass (top 71) 0)) [] [] (He.ma K (He.ga K "Drawing") "__init__") fd) (G_check_stroke : FnG P w K mg base 5 "check_stroke" (sp_check_stroke (Γ0 K))) : FnR P w K mg base CX0 6 (He.ma K (He.ga K "Drawing") "__init__") (starSp (spD K (sp_Drawing___init (Γ0 K)))) :=
  fnS F sc_Drawing___init (fun _ _ _ _ _ _ => ⟨fun _ => rfl, fun _ _ _ => rfl⟩) (fun cdv A outer s0 H E hr => dv_Drawing___init (Γ0 K) T G_check_stroke cdv A outer s0 H E hr) (vc_Drawing___init (Γ0 K))
theorem ln_Drawing_copied (Γ : CL) : ∀ ds μ R, sp_Drawing_copied Γ ds μ R → ds.length = 2 := by
  intro ds μ R h
  obtain ⟨_, _, rfl, _⟩ := h <;> rfl
theorem ok_Drawing_copied {fd : FuncData} (T : Fc K mg (Γ0 K)) (F : FunD K "copied" "Drawing.copied" (defArgs (inClass (top 71) 8)) (defBody (inClass (top 71) 8)) (defScope (inClass (top 71) 8)) [] [] (He.ma K (He.ga K "Drawing") "copied") fd) (G_carried : FnG P w K mg base 4 "carried" (sp_carried (Γ0 K))) (G_Drawing___init : MkS P w K mg base 6 "Drawing" (Γ0 K).Drawing (sp_Drawing___init (Γ0 K))) : FnOk P w K mg base CX0 8 (He.ma K (He.ga K "Drawing") "copied") fd ["self", "copy"] (spD K (sp_Drawing_copied (Γ0 K))) :=
  fnD F sc_Drawing_copied (ln_Drawing_copied (Γ0 K)) (fun cdv A outer s0 H E hr => dv_Drawing_copied (Γ0 K) T G_carried G_Drawing___init cdv A outer s0 H E hr) (vc_Drawing_copied (Γ0 K))
theorem ln_needed_reach (Γ : CL) : ∀ ds μ R, sp_needed_reach Γ ds μ R → ds.length = 2 := by
  intro ds μ R h
  obtain ⟨_, _, rfl, _⟩ := h <;> rfl
theorem ok_needed_reach {fd : FuncData} (T : Fc K mg (Γ0 K)) (F : FunD K "needed_reach" "needed_reach" (defArgs (top 65)) (defBody (top 65)) (defScope (top 65)) [] [] (He.ga K "needed_reach") fd) (G_touched_span : FnG P w K mg base 7 "touched_span" (sp_touched_span (Γ0 K))) (G_Arm_effect : MtG P w K mg base 8 (Γ0 K).Arm (gtA K (Γ0 K).Arm "effect") (sp_Arm_effect (Γ0 K))) (G_Drawing_copied : MtG P w K mg base 8 (Γ0 K).Drawing (He.ma K (Γ0 K).Drawing "copied") (sp_Drawing_copied (Γ0 K))) : FnOk P w K mg base CX0 10 (He.ga K "needed_reach") fd ["chain", "drawing"] (spD K (sp_needed_reach (Γ0 K))) :=
  fnD F sc_needed_reach (ln_needed_reach (Γ0 K)) (fun cdv A outer s0 H E hr => dv_needed_reach (Γ0 K) T G_touched_span G_Arm_effect G_Drawing_copied cdv A outer s0 H E hr) (vc_needed_reach (Γ0 K))
theorem ln_is_between (Γ : CL) : ∀ ds μ R, sp_is_between Γ ds μ R → ds.length = 3 := by
  intro ds μ R h
  obtain ⟨_, _, _, rfl, _⟩ := h <;> rfl
theorem ok_is_between {fd : FuncData} (T : Fc K mg (Γ0 K)) (F : FunD K "is_between" "is_between" (defArgs (top 51)) (defBody (top 51)) (defScope (top 51)) [] [] (He.ga K "is_between") fd) (G_is_less : FnG P w K mg base 1 "is_less" (sp_is_less (Γ0 K))) : FnOk P w K mg base CX0 2 (He.ga K "is_between") fd ["distance", "near", "far"] (spD K (sp_is_between (Γ0 K))) :=
  fnD F sc_is_between (ln_is_between (Γ0 K)) (fun cdv A outer s0 H E hr => dv_is_between (Γ0 K) T G_is_less cdv A outer s0 H E hr) (vc_is_between (Γ0 K))
theorem ln_can_draw (Γ : CL) : ∀ ds μ R, sp_can_draw Γ ds μ R → ds.length = 2 := by
  intro ds μ R h
  obtain ⟨_, _, rfl, _⟩ := h <;> rfl
theorem ok_can_draw {fd : FuncData} (T : Fc K mg (Γ0 K)) (F : FunD K "can_draw" "can_draw" (defArgs (top 66)) (defBody (top 66)) (defScope (top 66)) [] [] (He.ga K "can_draw") fd) (G_needed_reach : FnG P w K mg base 10 "needed_reach" (sp_needed_reach (Γ0 K))) (G_is_between : FnG P w K mg base 2 "is_between" (sp_is_between (Γ0 K))) : FnOk P w K mg base CX0 11 (He.ga K "can_draw") fd ["chain", "drawing"] (spD K (sp_can_draw (Γ0 K))) :=
  fnD F sc_can_draw (ln_can_draw (Γ0 K)) (fun cdv A outer s0 H E hr => dv_can_draw (Γ0 K) T G_needed_reach G_is_between cdv A outer s0 H E hr) (vc_can_draw (Γ0 K))
theorem ln_Drawing___add (Γ : CL) : ∀ ds μ R, sp_Drawing___add Γ ds μ R → ds.length = 2 := by
  intro ds μ R h
  obtain ⟨_, _, rfl, _⟩ := h <;> rfl
theorem ok_Drawing___add {fd : FuncData} (T : Fc K mg (Γ0 K)) (F : FunD K "__add__" "Drawing.__add__" (defArgs (inClass (top 71) 5)) (defBody (inClass (top 71) 5)) (defScope (inClass (top 71) 5)) [] [] (He.ma K (He.ga K "Drawing") "__add__") fd) (G_Drawing___init : MkS P w K mg base 6 "Drawing" (Γ0 K).Drawing (sp_Drawing___init (Γ0 K))) : FnOk P w K mg base CX0 8 (He.ma K (He.ga K "Drawing") "__add__") fd ["self", "other"] (spD K (sp_Drawing___add (Γ0 K))) :=
  fnD F sc_Drawing___add (ln_Drawing___add (Γ0 K)) (fun cdv A outer s0 H E hr => dv_Drawing___add (Γ0 K) T G_Drawing___init cdv A outer s0 H E hr) (vc_Drawing___add (Γ0 K))
theorem ln_law_drawingQ (Γ : CL) : ∀ ds μ R, sp_law_drawingQ Γ ds μ R → ds.length = 1 := by
  intro ds μ R h
  first | (unfold sp_law_drawingQ at h; split at h <;> first | rfl | exact h.elim) | (obtain ⟨rfl, _⟩ := h <;> rfl) | (obtain ⟨_, rfl, _⟩ := h <;> rfl) | (obtain ⟨_, _, rfl, _⟩ := h <;> rfl) | (obtain ⟨_, _, _, rfl, _⟩ := h <;> rfl) | (obtain ⟨_, _, _, _, rfl, _⟩ := h <;> rfl) | (obtain ⟨_, _, _, _, _, rfl, _⟩ := h <;> rfl) | (obtain ⟨_, _, _, _, _, _, rfl, _⟩ := h <;> rfl) | (obtain ⟨_, _, _, _, _, _, _, rfl, _⟩ := h <;> rfl) | (obtain ⟨_, _, _, _, _, _, _, _, rfl, _⟩ := h <;> rfl) | (obtain ⟨rfl | rfl, _⟩ := h <;> rfl) | (obtain ⟨_, rfl | rfl, _⟩ := h <;> rfl) | (obtain ⟨_, _, rfl | rfl, _⟩ := h <;> rfl) | (obtain ⟨_, _, _, rfl | rfl, _⟩ := h <;> rfl) | (obtain ⟨_, ⟨_, rfl, _⟩ | ⟨_, rfl, _⟩⟩ := h <;> rfl) | (rcases h with ⟨_, rfl, _⟩ | ⟨_, _, _, rfl, _⟩ <;> rfl)
theorem ok_law_drawingQ {fd : FuncData} (T : Fc K mg (Γ0 K)) (F : FunD K "_law_drawing" "_law_drawing" (defArgs (top 98)) (defBody (top 98)) (defScope (top 98)) [] [] (He.ga K "_law_drawing") fd) (G_Drawing___add : MtG P w K mg base 8 (Γ0 K).Drawing (He.ma K (Γ0 K).Drawing "__add__") (sp_Drawing___add (Γ0 K))) (G_Drawing___init : MkS P w K mg base 6 "Drawing" (Γ0 K).Drawing (sp_Drawing___init (Γ0 K))) : FnOk P w K mg base CX0 9 (He.ga K "_law_drawing") fd ["_law_strokes"] (spD K (sp_law_drawingQ (Γ0 K))) :=
  fnD F sc_law_drawingQ (ln_law_drawingQ (Γ0 K)) (fun cdv A outer s0 H E hr => dv_law_drawingQ (Γ0 K) T G_Drawing___add G_Drawing___init cdv A outer s0 H E hr) (vc_law_drawingQ (Γ0 K))
theorem ln_Chain___getitem (Γ : CL) : ∀ ds μ R, sp_Chain___getitem Γ ds μ R → ds.length = 2 := by
  intro ds μ R h
  obtain ⟨_, _, _, rfl, _⟩ := h <;> rfl
theorem ok_Chain___getitem {fd : FuncData} (T : Fc K mg (Γ0 K)) (F : FunD K "__getitem__" "Chain.__getitem__" (defArgs (inClass (top 60) 2)) (defBody (inClass (top 60) 2)) (defScope (inClass (top 60) 2)) [] [] (He.ma K (He.ga K "Chain") "__getitem__") fd)  : FnOk P w K mg base CX0 1 (He.ma K (He.ga K "Chain") "__getitem__") fd ["self", "index"] (spD K (sp_Chain___getitem (Γ0 K))) :=
  fnD F sc_Chain___getitem (ln_Chain___getitem (Γ0 K)) (fun cdv A outer s0 H E hr => dv_Chain___getitem (Γ0 K) T  cdv A outer s0 H E hr) (vc_Chain___getitem (Γ0 K))
theorem ln_Arm_reaches (Γ : CL) : ∀ ds μ R, sp_Arm_reaches Γ ds μ R → ds.length = 2 := by
  intro ds μ R h
  obtain ⟨_, _, rfl, _⟩ := h <;> rfl
theorem ok_Arm_reaches {fd : FuncData} (T : Fc K mg (Γ0 K)) (F : FunD K "reaches" "Arm.reaches" (defArgs (inClass (top 49) 3)) (defBody (inClass (top 49) 3)) (defScope (inClass (top 49) 3)) [] [] (He.ma K (He.ga K "Arm") "reaches") fd) (G_check_spot : FnG P w K mg base 4 "check_spot" (sp_check_spot (Γ0 K))) (G_is_between : FnG P w K mg base 2 "is_between" (sp_is_between (Γ0 K))) (G_size : FnG P w K mg base 3 "size" (sp_size (Γ0 K))) (G_less : FnG P w K mg base 4 "less" (sp_less (Γ0 K))) : FnOk P w K mg base CX0 5 (He.ma K (He.ga K "Arm") "reaches") fd ["self", "spot"] (spD K (sp_Arm_reaches (Γ0 K))) :=
  fnD F sc_Arm_reaches (ln_Arm_reaches (Γ0 K)) (fun cdv A outer s0 H E hr => dv_Arm_reaches (Γ0 K) T G_check_spot G_is_between G_size G_less cdv A outer s0 H E hr) (vc_Arm_reaches (Γ0 K))
theorem ok_law {fd : FuncData} (T : Fc K mg (Γ0 K)) (F : FunD K "law" "law" (defArgs (top 100)) (defBody (top 100)) (defScope (top 100)) [] [] (He.ga K "law") fd) (TB : LamX.TabB base mg (lawC K) (lawP K)) (G_law_random : FnG P w K mg base 1 "_law_random" (sp_law_random (Γ0 K))) (G_law_below : FnG P w K mg base 1 "_law_below" (sp_law_below (Γ0 K))) (G_law_arm_told : FnG P w K mg base 4 "_law_arm_told" (sp_law_arm_told (Γ0 K))) (G_law_chain : FnG P w K mg base 8 "_law_chain" (sp_law_chain (Γ0 K))) (G_reachable_spots : FnG P w K mg base 12 "reachable_spots" (sp_reachable_spots (Γ0 K))) (G_law_missed : FnG P w K mg base 7 "_law_missed" (sp_law_missed (Γ0 K))) (G_law_equal : FnG P w K mg base 5 "_law_equal" (sp_law_equal (Γ0 K) 5)) (G_can_draw : FnG P w K mg base 11 "can_draw" (sp_can_draw (Γ0 K))) (G_law_drawingQ : FnG P w K mg base 9 "_law_drawing" (sp_law_drawingQ (Γ0 K))) (G_Chain___getitem : MtG P w K mg base 1 (Γ0 K).Chain (He.ma K (Γ0 K).Chain "__getitem__") (sp_Chain___getitem (Γ0 K))) (G_Arm_reaches : MtG P w K mg base 5 (Γ0 K).Arm (He.ma K (Γ0 K).Arm "reaches") (sp_Arm_reaches (Γ0 K))) (G_Arm___init_k : MkD P w K mg base 5 "Arm" (Γ0 K).Arm (sp_Arm___init (Γ0 K)) [.bl false]) (G_Chain___init : MkS P w K mg base 1 "Chain" (Γ0 K).Chain (sp_Chain___init (Γ0 K))) (G_err : ErrD P w K mg base "_law_error_of" (resE (Γ0 K) errL)) (GX_reachable_spots : FnGX P w K mg base 12 "reachable_spots" (spx_reachable_spots (Γ0 K))) : FnOk P w K mg base CX0 15 (He.ga K "law") fd ["_law_script"] (spD K (lawT (lawP K) lamQ)) :=
  fnDL F rfl sc_law (fun ds μ R h => by obtain ⟨ns, rfl, _⟩ := h; rfl) (fun A outer s0 H E hr => dv_law (Γ0 K) T G_law_random G_law_below G_law_arm_told G_law_chain G_reachable_spots G_law_missed G_law_equal G_can_draw G_law_drawingQ G_Chain___getitem G_Arm_reaches G_Arm___init_k G_Chain___init G_err GX_reachable_spots TB A outer s0 H E hr) (vc_law (Γ0 K))
theorem lnx_reachable_spots (Γ : CL) : ∀ ds μ R re, spx_reachable_spots Γ ds μ R re → ds.length = 2 := by
  intro ds μ R re h
  first | (unfold spx_reachable_spots at h; split at h <;> first | rfl | exact h.elim) | (obtain ⟨rfl, _⟩ := h <;> rfl) | (obtain ⟨_, rfl, _⟩ := h <;> rfl) | (obtain ⟨_, _, rfl, _⟩ := h <;> rfl) | (obtain ⟨_, _, _, rfl, _⟩ := h <;> rfl) | (obtain ⟨_, _, _, _, rfl, _⟩ := h <;> rfl) | (obtain ⟨_, _, _, _, _, rfl, _⟩ := h <;> rfl) | (obtain ⟨_, _, _, _, _, _, rfl, _⟩ := h <;> rfl) | (obtain ⟨_, _, _, _, _, _, _, rfl, _⟩ := h <;> rfl) | (obtain ⟨_, _, _, _, _, _, _, _, rfl, _⟩ := h <;> rfl) | (obtain ⟨_, _, _, _, _, _, _, _, _, rfl, _⟩ := h <;> rfl) | (obtain ⟨_, _, _, _, _, _, _, _, _, _, rfl, _⟩ := h <;> rfl) | (obtain ⟨_, _, _, _, _, _, _, _, _, _, _, rfl, _⟩ := h <;> rfl) | (obtain ⟨_, _, _, _, _, _, _, _, _, _, _, _, rfl, _⟩ := h <;> rfl) | (rcases h with ⟨_, _, rfl, _⟩ | ⟨_, _, rfl, _⟩ | ⟨_, _, _, _, rfl, _⟩ <;> rfl) | (rcases h with ⟨_, _, rfl, _⟩ | ⟨_, rfl, _⟩ <;> rfl) | (rcases h with ⟨_, _, _, _, rfl, _⟩ | ⟨_, _, rfl, _⟩ <;> rfl)
theorem okx_reachable_spots {fd : FuncData} (T : Fc K mg (Γ0 K)) (F : FunD K "reachable_spots" "reachable_spots" (defArgs (top 63)) (defBody (top 63)) (defScope (top 63)) [] [] (He.ga K "reachable_spots") fd) (G_is_int_in : FnG P w K mg base 1 "is_int_in" (sp_is_int_in (Γ0 K))) (G_zones : FnG P w K mg base 11 "zones" (sp_zones (Γ0 K))) (G_is_in_ring : FnG P w K mg base 5 "is_in_ring" (sp_is_in_ring (Γ0 K))) : FnOk P w K mg base (L2.CX P w) 12 (He.ga K "reachable_spots") fd ["chain", "limit"] (spX K (spx_reachable_spots (Γ0 K))) :=
  fnDX F sc_reachable_spots (lnx_reachable_spots (Γ0 K)) (fun cdv A outer s0 H E hr tk => dvx_reachable_spots (Γ0 K) T G_is_int_in G_zones G_is_in_ring cdv A outer s0 H E hr tk) (vcx_reachable_spots (Γ0 K))
end
theorem fc {K : PySem.W.Frag} {h : Heap} {mg : Str → Option Value} (X : K.In h) (G : h.Ns mainGlobals mg) (c : obsX xb fa fn fx K = valX fn fx) : Fc K mg (Γ0 K) :=
  let d := says_d c
  { f_abs := He.free_ok X G (d.fact 0 (f := .free "abs") rfl),
    f_len := He.free_ok X G (d.fact 1 (f := .free "len") rfl),
    c_MAX_ARMS := (let ⟨t, e⟩ := He.int_ok X G (d.fact 2 (f := .int "MAX_ARMS" 6) rfl); ⟨.int _ t, .int _, e, ⟨t, rfl⟩, fun S => .int _⟩),
    cl_Chain := He.cls_ok (d.fact 3 (f := .cls "Chain") rfl),
    n_Chain_arms := He.noat_ok (d.fact 4 (f := .noat "Chain" "arms") rfl),
    f_bool := He.free_ok X G (d.fact 5 (f := .free "bool") rfl),
    f_int := He.free_ok X G (d.fact 6 (f := .free "int") rfl),
    f_isinstance := He.free_ok X G (d.fact 7 (f := .free "isinstance") rfl),
    f_all := He.free_ok X G (d.fact 8 (f := .free "all") rfl),
    f_tuple := He.free_ok X G (d.fact 9 (f := .free "tuple") rfl),
    c_ZERO := constTup (He.glo_ok X G (d.fact 10 (f := .glo "ZERO") rfl)) (says_b c 0 (b := fun K => He.tupB K "ZERO" [(.int 0), (.int 0), (.int 1)]) rfl) (fun S => (.cons (.int _) (.cons (.int _) (.cons (.int _) .nil)))),
    c_MAX_REACH := (let ⟨t, e⟩ := He.int_ok X G (d.fact 11 (f := .int "MAX_REACH" 1000) rfl); ⟨.int _ t, .int _, e, ⟨t, rfl⟩, fun S => .int _⟩),
    cl_Arm := He.cls_ok (d.fact 12 (f := .cls "Arm") rfl),
    n_Arm_far := He.noat_ok (d.fact 13 (f := .noat "Arm" "far") rfl),
    n_Arm_key := He.noat_ok (d.fact 14 (f := .noat "Arm" "key") rfl),
    n_Arm_mirrored := He.noat_ok (d.fact 15 (f := .noat "Arm" "mirrored") rfl),
    n_Arm_near := He.noat_ok (d.fact 16 (f := .noat "Arm" "near") rfl),
    n_Arm_pole := He.noat_ok (d.fact 17 (f := .noat "Arm" "pole") rfl),
    n_Arm_turn := He.noat_ok (d.fact 18 (f := .noat "Arm" "turn") rfl),
    sf_Chain := says_b c 1 (b := fun K => PySem.W.selfFirst K (He.ga K "Chain")) rfl,
    w_Chain___add := (He.meth_ok (d.fact 19 (f := .meth "Chain" "__add__") rfl)).at_,
    v_Chain___add := (He.meth_ok (d.fact 19 (f := .meth "Chain" "__add__") rfl)).fn,
    cl_Copy := He.cls_ok (d.fact 20 (f := .cls "Copy") rfl),
    n_Copy_key := He.noat_ok (d.fact 21 (f := .noat "Copy" "key") rfl),
    n_Copy_mirrored := He.noat_ok (d.fact 22 (f := .noat "Copy" "mirrored") rfl),
    n_Copy_shift := He.noat_ok (d.fact 23 (f := .noat "Copy" "shift") rfl),
    n_Copy_turn := He.noat_ok (d.fact 24 (f := .noat "Copy" "turn") rfl),
    c_ONE := constTup (He.glo_ok X G (d.fact 25 (f := .glo "ONE") rfl)) (says_b c 2 (b := fun K => He.tupB K "ONE" [(.int 1), (.int 0), (.int 1)]) rfl) (fun S => (.cons (.int _) (.cons (.int _) (.cons (.int _) .nil)))),
    sf_Copy := says_b c 3 (b := fun K => PySem.W.selfFirst K (He.ga K "Copy")) rfl,
    w_Copy___rshift := (He.meth_ok (d.fact 26 (f := .meth "Copy" "__rshift__") rfl)).at_,
    v_Copy___rshift := (He.meth_ok (d.fact 26 (f := .meth "Copy" "__rshift__") rfl)).fn,
    p_Arm_effect := propB_ok (says_b c 4 (b := fun K => propB K (He.ga K "Arm") "effect") rfl),
    f_zip := He.free_ok X G (d.fact 27 (f := .free "zip") rfl),
    w_Copy___invert := (He.meth_ok (d.fact 28 (f := .meth "Copy" "__invert__") rfl)).at_,
    v_Copy___invert := (He.meth_ok (d.fact 28 (f := .meth "Copy" "__invert__") rfl)).fn,
    p_Copy_growth := propB_ok (says_b c 5 (b := fun K => propB K (He.ga K "Copy") "growth") rfl),
    c_MAX_SIZE := (let ⟨t, e⟩ := He.int_ok X G (d.fact 29 (f := .int "MAX_SIZE" 20) rfl); ⟨.int _ t, .int _, e, ⟨t, rfl⟩, fun S => .int _⟩),
    f_list := He.free_ok X G (d.fact 30 (f := .free "list") rfl),
    f_range := He.free_ok X G (d.fact 31 (f := .free "range") rfl),
    f_str := He.free_ok X G (d.fact 32 (f := .free "str") rfl),
    cl_Drawing := He.cls_ok (d.fact 33 (f := .cls "Drawing") rfl),
    n_Drawing_strokes := He.noat_ok (d.fact 34 (f := .noat "Drawing" "strokes") rfl),
    c_MAX_SPOTS := (let ⟨t, e⟩ := He.int_ok X G (d.fact 35 (f := .int "MAX_SPOTS" 12) rfl); ⟨.int _ t, .int _, e, ⟨t, rfl⟩, fun S => .int _⟩),
    f_any := He.free_ok X G (d.fact 36 (f := .free "any") rfl),
    c_MAX_STROKES := (let ⟨t, e⟩ := He.int_ok X G (d.fact 37 (f := .int "MAX_STROKES" 12) rfl); ⟨.int _ t, .int _, e, ⟨t, rfl⟩, fun S => .int _⟩),
    f_enumerate := He.free_ok X G (d.fact 38 (f := .free "enumerate") rfl),
    m_Drawing_copied := (He.meth_ok (d.fact 39 (f := .meth "Drawing" "copied") rfl)),
    sf_Drawing := says_b c 6 (b := fun K => PySem.W.selfFirst K (He.ga K "Drawing")) rfl,
    w_Drawing___add := (He.meth_ok (d.fact 40 (f := .meth "Drawing" "__add__") rfl)).at_,
    v_Drawing___add := (He.meth_ok (d.fact 40 (f := .meth "Drawing" "__add__") rfl)).fn,
    ek_InvalidSize := errAB_ok (says_b c 7 (b := fun K => errAB K (He.ga K "InvalidSize") (He.ga K "CopyError") (fun s => He.ga K s) 9) rfl),
    u_Chain___getitem := says_b c 8 (b := fun K => PySem.W.fnIn K (He.ma K (He.ga K "Chain") "__getitem__")) rfl,
    m_Arm_reaches := (He.meth_ok (d.fact 41 (f := .meth "Arm" "reaches") rfl)),
    w_Chain___getitem := (He.meth_ok (d.fact 42 (f := .meth "Chain" "__getitem__") rfl)).at_,
    v_Chain___getitem := (He.meth_ok (d.fact 42 (f := .meth "Chain" "__getitem__") rfl)).fn,
    x_InvalidSize := ⟨⟨_, _, _, _, PySem.F.excBase_ValueError, (He.exc_ok (d.fact 44 (f := .exc "InvalidSize") rfl)).1⟩, He.glo_ok X G (d.fact 43 (f := .glo "InvalidSize") rfl), (He.exc_ok (d.fact 44 (f := .exc "InvalidSize") rfl)).2.1, (He.exc_ok (d.fact 44 (f := .exc "InvalidSize") rfl)).2.2.1, (He.exc_ok (d.fact 44 (f := .exc "InvalidSize") rfl)).2.2.2⟩,
    f_ValueError := He.free_ok X G (d.fact 45 (f := .free "ValueError") rfl),
    gx_BadRow := He.glo_ok X G (d.fact 46 (f := .glo "BadRow") rfl),
    gx_BadText := He.glo_ok X G (d.fact 47 (f := .glo "BadText") rfl),
    gx_Contradiction := He.glo_ok X G (d.fact 48 (f := .glo "Contradiction") rfl),
    gx_CopyError := He.glo_ok X G (d.fact 49 (f := .glo "CopyError") rfl),
    gx_InvalidBox := He.glo_ok X G (d.fact 50 (f := .glo "InvalidBox") rfl),
    gx_InvalidCode := He.glo_ok X G (d.fact 51 (f := .glo "InvalidCode") rfl),
    gx_InvalidName := He.glo_ok X G (d.fact 52 (f := .glo "InvalidName") rfl),
    gx_InvalidOperation := He.glo_ok X G (d.fact 53 (f := .glo "InvalidOperation") rfl),
    gx_InvalidReach := He.glo_ok X G (d.fact 54 (f := .glo "InvalidReach") rfl),
    gx_InvalidSize := He.glo_ok X G (d.fact 43 (f := .glo "InvalidSize") rfl),
    gx_InvalidSpot := He.glo_ok X G (d.fact 55 (f := .glo "InvalidSpot") rfl),
    gx_InvalidStroke := He.glo_ok X G (d.fact 56 (f := .glo "InvalidStroke") rfl),
    gx_InvalidTimes := He.glo_ok X G (d.fact 57 (f := .glo "InvalidTimes") rfl),
    gx_InvalidTurn := He.glo_ok X G (d.fact 58 (f := .glo "InvalidTurn") rfl),
    gx_NotFree := He.glo_ok X G (d.fact 59 (f := .glo "NotFree") rfl),
    gx_OpenStroke := He.glo_ok X G (d.fact 60 (f := .glo "OpenStroke") rfl),
    gx_OutOfReach := He.glo_ok X G (d.fact 61 (f := .glo "OutOfReach") rfl),
    gx_TooFew := He.glo_ok X G (d.fact 62 (f := .glo "TooFew") rfl),
    gx_TooMany := He.glo_ok X G (d.fact 63 (f := .glo "TooMany") rfl),
    gx_UnknownArm := He.glo_ok X G (d.fact 64 (f := .glo "UnknownArm") rfl),
    gx_UnknownName := He.glo_ok X G (d.fact 65 (f := .glo "UnknownName") rfl) }
theorem all {P : Program} {w : World} {K : PySem.W.Frag} {h : Heap} {mg : Str → Option Value} (X : K.In h) (G : h.Ns mainGlobals mg) (c0 : SaysU xb fa fn fx fy K) (hP : P.main.file = "/claim/cut.py") (hT : (P.main.scope.names.lookup ("super" : Str)).isSome = false) :
    ∃ fd : FuncData, mg "law" = some (.ref (He.ga K "law")) ∧ (∀ (s : Shared) (v : Value), BindsTo s fd ⟨[v], []⟩ [("_law_script", v)]) ∧ ∀ base : Heap, LamX.TabB base mg (lawC K) (lawP K) → FnOk P w K mg base CX0 15 (He.ga K "law") fd ["_law_script"] (spLawT K (lawP K)) := by
  have c := c0.1
  have T := fc X G c
  have d := says_d c
  obtain ⟨fd_law_random, F_law_random⟩ : ∃ fd, FunD K "_law_random" "_law_random" (defArgs (top 73)) (defBody (top 73)) (defScope (top 73)) [] [] (He.ga K "_law_random") fd := d.def_ 0 (d := d_law_random) rfl
  have g_law_random : mg "_law_random" = some (.ref (He.ga K "_law_random")) := He.glo_ok X G (d.fact 74 (f := .glo "_law_random") rfl)
  obtain ⟨fd_law_below, F_law_below⟩ : ∃ fd, FunD K "_law_below" "_law_below" (defArgs (top 74)) (defBody (top 74)) (defScope (top 74)) [] [] (He.ga K "_law_below") fd := d.def_ 1 (d := d_law_below) rfl
  have g_law_below : mg "_law_below" = some (.ref (He.ga K "_law_below")) := He.glo_ok X G (d.fact 75 (f := .glo "_law_below") rfl)
  obtain ⟨fd_law_step, F_law_step⟩ : ∃ fd, FunD K "_law_step" "_law_step" (defArgs (top 75)) (defBody (top 75)) (defScope (top 75)) [] [] (He.ga K "_law_step") fd := d.def_ 2 (d := d_law_step) rfl
  have g_law_step : mg "_law_step" = some (.ref (He.ga K "_law_step")) := He.glo_ok X G (d.fact 76 (f := .glo "_law_step") rfl)
  obtain ⟨fd_law_common, F_law_common⟩ : ∃ fd, FunD K "_law_common" "_law_common" (defArgs (top 76)) (defBody (top 76)) (defScope (top 76)) [] [] (He.ga K "_law_common") fd := d.def_ 3 (d := d_law_common) rfl
  have g_law_common : mg "_law_common" = some (.ref (He.ga K "_law_common")) := He.glo_ok X G (d.fact 77 (f := .glo "_law_common") rfl)
  obtain ⟨fd_law_lowest, F_law_lowest⟩ : ∃ fd, FunD K "_law_lowest" "_law_lowest" (defArgs (top 77)) (defBody (top 77)) (defScope (top 77)) [] [] (He.ga K "_law_lowest") fd := d.def_ 4 (d := d_law_lowest) rfl
  have g_law_lowest : mg "_law_lowest" = some (.ref (He.ga K "_law_lowest")) := He.glo_ok X G (d.fact 78 (f := .glo "_law_lowest") rfl)
  obtain ⟨fd_law_spot, F_law_spot⟩ : ∃ fd, FunD K "_law_spot" "_law_spot" (defArgs (top 78)) (defBody (top 78)) (defScope (top 78)) [] [] (He.ga K "_law_spot") fd := d.def_ 5 (d := d_law_spot) rfl
  have g_law_spot : mg "_law_spot" = some (.ref (He.ga K "_law_spot")) := He.glo_ok X G (d.fact 79 (f := .glo "_law_spot") rfl)
  obtain ⟨fd_law_turn, F_law_turn⟩ : ∃ fd, FunD K "_law_turn" "_law_turn" (defArgs (top 79)) (defBody (top 79)) (defScope (top 79)) [] [] (He.ga K "_law_turn") fd := d.def_ 6 (d := d_law_turn) rfl
  have g_law_turn : mg "_law_turn" = some (.ref (He.ga K "_law_turn")) := He.glo_ok X G (d.fact 80 (f := .glo "_law_turn") rfl)
  obtain ⟨fd_law_arm_told, F_law_arm_told⟩ : ∃ fd, FunD K "_law_arm_told" "_law_arm_told" (defArgs (top 80)) (defBody (top 80)) (defScope (top 80)) [] [] (He.ga K "_law_arm_told") fd := d.def_ 7 (d := d_law_arm_told) rfl
  have g_law_arm_told : mg "_law_arm_told" = some (.ref (He.ga K "_law_arm_told")) := He.glo_ok X G (d.fact 81 (f := .glo "_law_arm_told") rfl)
  obtain ⟨fd_Chain___init, F_Chain___init⟩ : ∃ fd, FunD K "__init__" "Chain.__init__" (defArgs (inClass (top 60) 0)) (defBody (inClass (top 60) 0)) (defScope (inClass (top 60) 0)) [] [] (He.ma K (He.ga K "Chain") "__init__") fd := d.def_ 8 (d := d_Chain___init) rfl
  obtain ⟨fd_is_int, F_is_int⟩ : ∃ fd, FunD K "is_int" "is_int" (defArgs (top 25)) (defBody (top 25)) (defScope (top 25)) [] [] (He.ga K "is_int") fd := d.def_ 9 (d := d_is_int) rfl
  have g_is_int : mg "is_int" = some (.ref (He.ga K "is_int")) := He.glo_ok X G (d.fact 82 (f := .glo "is_int") rfl)
  obtain ⟨fd_common_divisor, F_common_divisor⟩ : ∃ fd, FunD K "common_divisor" "common_divisor" (defArgs (top 26)) (defBody (top 26)) (defScope (top 26)) [] [] (He.ga K "common_divisor") fd := d.def_ 10 (d := d_common_divisor) rfl
  have g_common_divisor : mg "common_divisor" = some (.ref (He.ga K "common_divisor")) := He.glo_ok X G (d.fact 83 (f := .glo "common_divisor") rfl)
  obtain ⟨fd_lowest, F_lowest⟩ : ∃ fd, FunD K "lowest" "lowest" (defArgs (top 29)) (defBody (top 29)) (defScope (top 29)) [] [] (He.ga K "lowest") fd := d.def_ 11 (d := d_lowest) rfl
  have g_lowest : mg "lowest" = some (.ref (He.ga K "lowest")) := He.glo_ok X G (d.fact 84 (f := .glo "lowest") rfl)
  obtain ⟨fd_is_number, F_is_number⟩ : ∃ fd, FunD K "is_number" "is_number" (defArgs (top 32)) (defBody (top 32)) (defScope (top 32)) [] [] (He.ga K "is_number") fd := d.def_ 12 (d := d_is_number) rfl
  have g_is_number : mg "is_number" = some (.ref (He.ga K "is_number")) := He.glo_ok X G (d.fact 85 (f := .glo "is_number") rfl)
  obtain ⟨fd_check_spot, F_check_spot⟩ : ∃ fd, FunD K "check_spot" "check_spot" (defArgs (top 43)) (defBody (top 43)) (defScope (top 43)) [] [] (He.ga K "check_spot") fd := d.def_ 13 (d := d_check_spot) rfl
  have g_check_spot : mg "check_spot" = some (.ref (He.ga K "check_spot")) := He.glo_ok X G (d.fact 86 (f := .glo "check_spot") rfl)
  obtain ⟨fd_check_turn, F_check_turn⟩ : ∃ fd, FunD K "check_turn" "check_turn" (defArgs (top 44)) (defBody (top 44)) (defScope (top 44)) [] [] (He.ga K "check_turn") fd := d.def_ 14 (d := d_check_turn) rfl
  have g_check_turn : mg "check_turn" = some (.ref (He.ga K "check_turn")) := He.glo_ok X G (d.fact 87 (f := .glo "check_turn") rfl)
  obtain ⟨fd_is_int_in, F_is_int_in⟩ : ∃ fd, FunD K "is_int_in" "is_int_in" (defArgs (top 24)) (defBody (top 24)) (defScope (top 24)) [] [] (He.ga K "is_int_in") fd := d.def_ 15 (d := d_is_int_in) rfl
  have g_is_int_in : mg "is_int_in" = some (.ref (He.ga K "is_int_in")) := He.glo_ok X G (d.fact 88 (f := .glo "is_int_in") rfl)
  obtain ⟨fd_Arm___init, F_Arm___init⟩ : ∃ fd, FunD K "__init__" "Arm.__init__" (defArgs (inClass (top 49) 0)) (defBody (inClass (top 49) 0)) (defScope (inClass (top 49) 0)) [] [("mirrored", (.bl false))] (He.ma K (He.ga K "Arm") "__init__") fd := d.def_ 16 (d := d_Arm___init) rfl
  obtain ⟨fd_law_arm, F_law_arm⟩ : ∃ fd, FunD K "_law_arm" "_law_arm" (defArgs (top 81)) (defBody (top 81)) (defScope (top 81)) [] [] (He.ga K "_law_arm") fd := d.def_ 17 (d := d_law_arm) rfl
  have g_law_arm : mg "_law_arm" = some (.ref (He.ga K "_law_arm")) := He.glo_ok X G (d.fact 89 (f := .glo "_law_arm") rfl)
  obtain ⟨fd_Chain___add, F_Chain___add⟩ : ∃ fd, FunD K "__add__" "Chain.__add__" (defArgs (inClass (top 60) 5)) (defBody (inClass (top 60) 5)) (defScope (inClass (top 60) 5)) [] [] (He.ma K (He.ga K "Chain") "__add__") fd := d.def_ 18 (d := d_Chain___add) rfl
  obtain ⟨fd_law_chain, F_law_chain⟩ : ∃ fd, FunD K "_law_chain" "_law_chain" (defArgs (top 82)) (defBody (top 82)) (defScope (top 82)) [] [] (He.ga K "_law_chain") fd := d.def_ 19 (d := d_law_chain) rfl
  have g_law_chain : mg "_law_chain" = some (.ref (He.ga K "_law_chain")) := He.glo_ok X G (d.fact 90 (f := .glo "_law_chain") rfl)
  obtain ⟨fd_Copy___init, F_Copy___init⟩ : ∃ fd, FunD K "__init__" "Copy.__init__" (defArgs (inClass (top 46) 0)) (defBody (inClass (top 46) 0)) (defScope (inClass (top 46) 0)) [] [("mirrored", (.bl false))] (He.ma K (He.ga K "Copy") "__init__") fd := d.def_ 20 (d := d_Copy___init) rfl
  obtain ⟨fd_multiplied, F_multiplied⟩ : ∃ fd, FunD K "multiplied" "multiplied" (defArgs (top 36)) (defBody (top 36)) (defScope (top 36)) [] [] (He.ga K "multiplied") fd := d.def_ 21 (d := d_multiplied) rfl
  have g_multiplied : mg "multiplied" = some (.ref (He.ga K "multiplied")) := He.glo_ok X G (d.fact 91 (f := .glo "multiplied") rfl)
  obtain ⟨fd_turned_over, F_turned_over⟩ : ∃ fd, FunD K "turned_over" "turned_over" (defArgs (top 37)) (defBody (top 37)) (defScope (top 37)) [] [] (He.ga K "turned_over") fd := d.def_ 22 (d := d_turned_over) rfl
  have g_turned_over : mg "turned_over" = some (.ref (He.ga K "turned_over")) := He.glo_ok X G (d.fact 92 (f := .glo "turned_over") rfl)
  obtain ⟨fd_added, F_added⟩ : ∃ fd, FunD K "added" "added" (defArgs (top 33)) (defBody (top 33)) (defScope (top 33)) [] [] (He.ga K "added") fd := d.def_ 23 (d := d_added) rfl
  have g_added : mg "added" = some (.ref (He.ga K "added")) := He.glo_ok X G (d.fact 93 (f := .glo "added") rfl)
  obtain ⟨fd_opposite, F_opposite⟩ : ∃ fd, FunD K "opposite" "opposite" (defArgs (top 34)) (defBody (top 34)) (defScope (top 34)) [] [] (He.ga K "opposite") fd := d.def_ 24 (d := d_opposite) rfl
  have g_opposite : mg "opposite" = some (.ref (He.ga K "opposite")) := He.glo_ok X G (d.fact 94 (f := .glo "opposite") rfl)
  obtain ⟨fd_less, F_less⟩ : ∃ fd, FunD K "less" "less" (defArgs (top 35)) (defBody (top 35)) (defScope (top 35)) [] [] (He.ga K "less") fd := d.def_ 25 (d := d_less) rfl
  have g_less : mg "less" = some (.ref (He.ga K "less")) := He.glo_ok X G (d.fact 95 (f := .glo "less") rfl)
  obtain ⟨fd_copy_about, F_copy_about⟩ : ∃ fd, FunD K "copy_about" "copy_about" (defArgs (top 50)) (defBody (top 50)) (defScope (top 50)) [] [] (He.ga K "copy_about") fd := d.def_ 26 (d := d_copy_about) rfl
  have g_copy_about : mg "copy_about" = some (.ref (He.ga K "copy_about")) := He.glo_ok X G (d.fact 96 (f := .glo "copy_about") rfl)
  obtain ⟨fd_Arm_effect, F_Arm_effect⟩ : ∃ fd, FunD K "effect" "Arm.effect" (defArgs (inClass (top 49) 1)) (defBody (inClass (top 49) 1)) (defScope (inClass (top 49) 1)) [] [] (gtA K (He.ga K "Arm") "effect") fd := says_x c 0 (d := x_Arm_effect) rfl
  obtain ⟨fd_carried, F_carried⟩ : ∃ fd, FunD K "carried" "carried" (defArgs (top 45)) (defBody (top 45)) (defScope (top 45)) [] [] (He.ga K "carried") fd := d.def_ 27 (d := d_carried) rfl
  have g_carried : mg "carried" = some (.ref (He.ga K "carried")) := He.glo_ok X G (d.fact 97 (f := .glo "carried") rfl)
  obtain ⟨fd_Copy___rshift, F_Copy___rshift⟩ : ∃ fd, FunD K "__rshift__" "Copy.__rshift__" (defArgs (inClass (top 46) 3)) (defBody (inClass (top 46) 3)) (defScope (inClass (top 46) 3)) [] [] (He.ma K (He.ga K "Copy") "__rshift__") fd := d.def_ 28 (d := d_Copy___rshift) rfl
  obtain ⟨fd_copies_ahead, F_copies_ahead⟩ : ∃ fd, FunD K "copies_ahead" "copies_ahead" (defArgs (top 61)) (defBody (top 61)) (defScope (top 61)) [] [] (He.ga K "copies_ahead") fd := d.def_ 29 (d := d_copies_ahead) rfl
  have g_copies_ahead : mg "copies_ahead" = some (.ref (He.ga K "copies_ahead")) := He.glo_ok X G (d.fact 98 (f := .glo "copies_ahead") rfl)
  obtain ⟨fd_ratio, F_ratio⟩ : ∃ fd, FunD K "ratio" "ratio" (defArgs (top 28)) (defBody (top 28)) (defScope (top 28)) [] [] (He.ga K "ratio") fd := d.def_ 30 (d := d_ratio) rfl
  have g_ratio : mg "ratio" = some (.ref (He.ga K "ratio")) := He.glo_ok X G (d.fact 99 (f := .glo "ratio") rfl)
  obtain ⟨fd_size, F_size⟩ : ∃ fd, FunD K "size" "size" (defArgs (top 39)) (defBody (top 39)) (defScope (top 39)) [] [] (He.ga K "size") fd := d.def_ 31 (d := d_size) rfl
  have g_size : mg "size" = some (.ref (He.ga K "size")) := He.glo_ok X G (d.fact 100 (f := .glo "size") rfl)
  obtain ⟨fd_Copy_growth, F_Copy_growth⟩ : ∃ fd, FunD K "growth" "Copy.growth" (defArgs (inClass (top 46) 5)) (defBody (inClass (top 46) 5)) (defScope (inClass (top 46) 5)) [] [] (gtA K (He.ga K "Copy") "growth") fd := says_x c 1 (d := x_Copy_growth) rfl
  obtain ⟨fd_inverse, F_inverse⟩ : ∃ fd, FunD K "inverse" "inverse" (defArgs (top 38)) (defBody (top 38)) (defScope (top 38)) [] [] (He.ga K "inverse") fd := d.def_ 32 (d := d_inverse) rfl
  have g_inverse : mg "inverse" = some (.ref (He.ga K "inverse")) := He.glo_ok X G (d.fact 101 (f := .glo "inverse") rfl)
  obtain ⟨fd_Copy___invert, F_Copy___invert⟩ : ∃ fd, FunD K "__invert__" "Copy.__invert__" (defArgs (inClass (top 46) 4)) (defBody (inClass (top 46) 4)) (defScope (inClass (top 46) 4)) [] [] (He.ma K (He.ga K "Copy") "__invert__") fd := d.def_ 33 (d := d_Copy___invert) rfl
  obtain ⟨fd_zones, F_zones⟩ : ∃ fd, FunD K "zones" "zones" (defArgs (top 62)) (defBody (top 62)) (defScope (top 62)) [] [] (He.ga K "zones") fd := d.def_ 34 (d := d_zones) rfl
  have g_zones : mg "zones" = some (.ref (He.ga K "zones")) := He.glo_ok X G (d.fact 102 (f := .glo "zones") rfl)
  obtain ⟨fd_is_less, F_is_less⟩ : ∃ fd, FunD K "is_less" "is_less" (defArgs (top 40)) (defBody (top 40)) (defScope (top 40)) [] [] (He.ga K "is_less") fd := d.def_ 35 (d := d_is_less) rfl
  have g_is_less : mg "is_less" = some (.ref (He.ga K "is_less")) := He.glo_ok X G (d.fact 103 (f := .glo "is_less") rfl)
  obtain ⟨fd_is_in_ring, F_is_in_ring⟩ : ∃ fd, FunD K "is_in_ring" "is_in_ring" (defArgs (top 64)) (defBody (top 64)) (defScope (top 64)) [] [] (He.ga K "is_in_ring") fd := d.def_ 36 (d := d_is_in_ring) rfl
  have g_is_in_ring : mg "is_in_ring" = some (.ref (He.ga K "is_in_ring")) := He.glo_ok X G (d.fact 104 (f := .glo "is_in_ring") rfl)
  obtain ⟨fd_reachable_spots, F_reachable_spots⟩ : ∃ fd, FunD K "reachable_spots" "reachable_spots" (defArgs (top 63)) (defBody (top 63)) (defScope (top 63)) [] [] (He.ga K "reachable_spots") fd := d.def_ 37 (d := d_reachable_spots) rfl
  have g_reachable_spots : mg "reachable_spots" = some (.ref (He.ga K "reachable_spots")) := He.glo_ok X G (d.fact 105 (f := .glo "reachable_spots") rfl)
  obtain ⟨fd_law_ratio, F_law_ratio⟩ : ∃ fd, FunD K "_law_ratio" "_law_ratio" (defArgs (top 83)) (defBody (top 83)) (defScope (top 83)) [] [] (He.ga K "_law_ratio") fd := d.def_ 38 (d := d_law_ratio) rfl
  have g_law_ratio : mg "_law_ratio" = some (.ref (He.ga K "_law_ratio")) := He.glo_ok X G (d.fact 106 (f := .glo "_law_ratio") rfl)
  obtain ⟨fd_law_size, F_law_size⟩ : ∃ fd, FunD K "_law_size" "_law_size" (defArgs (top 84)) (defBody (top 84)) (defScope (top 84)) [] [] (He.ga K "_law_size") fd := d.def_ 39 (d := d_law_size) rfl
  have g_law_size : mg "_law_size" = some (.ref (He.ga K "_law_size")) := He.glo_ok X G (d.fact 107 (f := .glo "_law_size") rfl)
  obtain ⟨fd_law_plus, F_law_plus⟩ : ∃ fd, FunD K "_law_plus" "_law_plus" (defArgs (top 85)) (defBody (top 85)) (defScope (top 85)) [] [] (He.ga K "_law_plus") fd := d.def_ 40 (d := d_law_plus) rfl
  have g_law_plus : mg "_law_plus" = some (.ref (He.ga K "_law_plus")) := He.glo_ok X G (d.fact 108 (f := .glo "_law_plus") rfl)
  obtain ⟨fd_law_minus, F_law_minus⟩ : ∃ fd, FunD K "_law_minus" "_law_minus" (defArgs (top 86)) (defBody (top 86)) (defScope (top 86)) [] [] (He.ga K "_law_minus") fd := d.def_ 41 (d := d_law_minus) rfl
  have g_law_minus : mg "_law_minus" = some (.ref (He.ga K "_law_minus")) := He.glo_ok X G (d.fact 109 (f := .glo "_law_minus") rfl)
  obtain ⟨fd_law_less, F_law_less⟩ : ∃ fd, FunD K "_law_less" "_law_less" (defArgs (top 87)) (defBody (top 87)) (defScope (top 87)) [] [] (He.ga K "_law_less") fd := d.def_ 42 (d := d_law_less) rfl
  have g_law_less : mg "_law_less" = some (.ref (He.ga K "_law_less")) := He.glo_ok X G (d.fact 110 (f := .glo "_law_less") rfl)
  obtain ⟨fd_law_reached, F_law_reached⟩ : ∃ fd, FunD K "_law_reached" "_law_reached" (defArgs (top 88)) (defBody (top 88)) (defScope (top 88)) [] [] (He.ga K "_law_reached") fd := d.def_ 43 (d := d_law_reached) rfl
  have g_law_reached : mg "_law_reached" = some (.ref (He.ga K "_law_reached")) := He.glo_ok X G (d.fact 111 (f := .glo "_law_reached") rfl)
  obtain ⟨fd_law_times, F_law_times⟩ : ∃ fd, FunD K "_law_times" "_law_times" (defArgs (top 89)) (defBody (top 89)) (defScope (top 89)) [] [] (He.ga K "_law_times") fd := d.def_ 44 (d := d_law_times) rfl
  have g_law_times : mg "_law_times" = some (.ref (He.ga K "_law_times")) := He.glo_ok X G (d.fact 112 (f := .glo "_law_times") rfl)
  obtain ⟨fd_law_over, F_law_over⟩ : ∃ fd, FunD K "_law_over" "_law_over" (defArgs (top 90)) (defBody (top 90)) (defScope (top 90)) [] [] (He.ga K "_law_over") fd := d.def_ 45 (d := d_law_over) rfl
  have g_law_over : mg "_law_over" = some (.ref (He.ga K "_law_over")) := He.glo_ok X G (d.fact 113 (f := .glo "_law_over") rfl)
  obtain ⟨fd_law_near, F_law_near⟩ : ∃ fd, FunD K "_law_near" "_law_near" (defArgs (top 91)) (defBody (top 91)) (defScope (top 91)) [] [] (He.ga K "_law_near") fd := d.def_ 46 (d := d_law_near) rfl
  have g_law_near : mg "_law_near" = some (.ref (He.ga K "_law_near")) := He.glo_ok X G (d.fact 114 (f := .glo "_law_near") rfl)
  obtain ⟨fd_law_traced, F_law_traced⟩ : ∃ fd, FunD K "_law_traced" "_law_traced" (defArgs (top 92)) (defBody (top 92)) (defScope (top 92)) [] [] (He.ga K "_law_traced") fd := d.def_ 47 (d := d_law_traced) rfl
  have g_law_traced : mg "_law_traced" = some (.ref (He.ga K "_law_traced")) := He.glo_ok X G (d.fact 115 (f := .glo "_law_traced") rfl)
  obtain ⟨fd_law_about, F_law_about⟩ : ∃ fd, FunD K "_law_about" "_law_about" (defArgs (top 93)) (defBody (top 93)) (defScope (top 93)) [] [] (He.ga K "_law_about") fd := d.def_ 48 (d := d_law_about) rfl
  have g_law_about : mg "_law_about" = some (.ref (He.ga K "_law_about")) := He.glo_ok X G (d.fact 116 (f := .glo "_law_about") rfl)
  obtain ⟨fd_law_carried, F_law_carried⟩ : ∃ fd, FunD K "_law_carried" "_law_carried" (defArgs (top 94)) (defBody (top 94)) (defScope (top 94)) [] [] (He.ga K "_law_carried") fd := d.def_ 49 (d := d_law_carried) rfl
  have g_law_carried : mg "_law_carried" = some (.ref (He.ga K "_law_carried")) := He.glo_ok X G (d.fact 117 (f := .glo "_law_carried") rfl)
  obtain ⟨fd_law_moved, F_law_moved⟩ : ∃ fd, FunD K "_law_moved" "_law_moved" (defArgs (top 95)) (defBody (top 95)) (defScope (top 95)) [] [] (He.ga K "_law_moved") fd := d.def_ 50 (d := d_law_moved) rfl
  have g_law_moved : mg "_law_moved" = some (.ref (He.ga K "_law_moved")) := He.glo_ok X G (d.fact 118 (f := .glo "_law_moved") rfl)
  obtain ⟨fd_law_missed, F_law_missed⟩ : ∃ fd, FunD K "_law_missed" "_law_missed" (defArgs (top 96)) (defBody (top 96)) (defScope (top 96)) [] [] (He.ga K "_law_missed") fd := d.def_ 51 (d := d_law_missed) rfl
  have g_law_missed : mg "_law_missed" = some (.ref (He.ga K "_law_missed")) := He.glo_ok X G (d.fact 119 (f := .glo "_law_missed") rfl)
  obtain ⟨fd_law_equal, F_law_equal⟩ : ∃ fd, FunD K "_law_equal" "_law_equal" (defArgs (top 97)) (defBody (top 97)) (defScope (top 97)) [] [] (He.ga K "_law_equal") fd := d.def_ 52 (d := d_law_equal) rfl
  have g_law_equal : mg "_law_equal" = some (.ref (He.ga K "_law_equal")) := He.glo_ok X G (d.fact 120 (f := .glo "_law_equal") rfl)
  obtain ⟨fd_parts_of, F_parts_of⟩ : ∃ fd, FunD K "parts_of" "parts_of" (defArgs (top 54)) (defBody (top 54)) (defScope (top 54)) [] [] (He.ga K "parts_of") fd := d.def_ 53 (d := d_parts_of) rfl
  have g_parts_of : mg "parts_of" = some (.ref (He.ga K "parts_of")) := He.glo_ok X G (d.fact 121 (f := .glo "parts_of") rfl)
  obtain ⟨fd_farthest, F_farthest⟩ : ∃ fd, FunD K "farthest" "farthest" (defArgs (top 53)) (defBody (top 53)) (defScope (top 53)) [] [] (He.ga K "farthest") fd := d.def_ 54 (d := d_farthest) rfl
  have g_farthest : mg "farthest" = some (.ref (He.ga K "farthest")) := He.glo_ok X G (d.fact 122 (f := .glo "farthest") rfl)
  obtain ⟨fd_common_multiple, F_common_multiple⟩ : ∃ fd, FunD K "common_multiple" "common_multiple" (defArgs (top 27)) (defBody (top 27)) (defScope (top 27)) [] [] (He.ga K "common_multiple") fd := d.def_ 55 (d := d_common_multiple) rfl
  have g_common_multiple : mg "common_multiple" = some (.ref (He.ga K "common_multiple")) := He.glo_ok X G (d.fact 123 (f := .glo "common_multiple") rfl)
  obtain ⟨fd_least, F_least⟩ : ∃ fd, FunD K "least" "least" (defArgs (top 41)) (defBody (top 41)) (defScope (top 41)) [] [] (He.ga K "least") fd := d.def_ 56 (d := d_least) rfl
  have g_least : mg "least" = some (.ref (He.ga K "least")) := He.glo_ok X G (d.fact 124 (f := .glo "least") rfl)
  obtain ⟨fd_nearest, F_nearest⟩ : ∃ fd, FunD K "nearest" "nearest" (defArgs (top 52)) (defBody (top 52)) (defScope (top 52)) [] [] (He.ga K "nearest") fd := d.def_ 57 (d := d_nearest) rfl
  have g_nearest : mg "nearest" = some (.ref (He.ga K "nearest")) := He.glo_ok X G (d.fact 125 (f := .glo "nearest") rfl)
  obtain ⟨fd_span, F_span⟩ : ∃ fd, FunD K "span" "span" (defArgs (top 55)) (defBody (top 55)) (defScope (top 55)) [] [] (He.ga K "span") fd := d.def_ 58 (d := d_span) rfl
  have g_span : mg "span" = some (.ref (He.ga K "span")) := He.glo_ok X G (d.fact 126 (f := .glo "span") rfl)
  obtain ⟨fd_touched_span, F_touched_span⟩ : ∃ fd, FunD K "touched_span" "touched_span" (defArgs (top 56)) (defBody (top 56)) (defScope (top 56)) [] [] (He.ga K "touched_span") fd := d.def_ 59 (d := d_touched_span) rfl
  have g_touched_span : mg "touched_span" = some (.ref (He.ga K "touched_span")) := He.glo_ok X G (d.fact 127 (f := .glo "touched_span") rfl)
  obtain ⟨fd_check_stroke, F_check_stroke⟩ : ∃ fd, FunD K "check_stroke" "check_stroke" (defArgs (top 70)) (defBody (top 70)) (defScope (top 70)) [] [] (He.ga K "check_stroke") fd := d.def_ 60 (d := d_check_stroke) rfl
  have g_check_stroke : mg "check_stroke" = some (.ref (He.ga K "check_stroke")) := He.glo_ok X G (d.fact 128 (f := .glo "check_stroke") rfl)
  obtain ⟨fd_Drawing___init, F_Drawing___init⟩ : ∃ fd, FunD K "__init__" "Drawing.__init__" (defArgs (inClass (top 71) 0)) (defBody (inClass (top 71) 0)) (defScope (inClass (top 71) 0)) [] [] (He.ma K (He.ga K "Drawing") "__init__") fd := d.def_ 61 (d := d_Drawing___init) rfl
  obtain ⟨fd_Drawing_copied, F_Drawing_copied⟩ : ∃ fd, FunD K "copied" "Drawing.copied" (defArgs (inClass (top 71) 8)) (defBody (inClass (top 71) 8)) (defScope (inClass (top 71) 8)) [] [] (He.ma K (He.ga K "Drawing") "copied") fd := d.def_ 62 (d := d_Drawing_copied) rfl
  obtain ⟨fd_needed_reach, F_needed_reach⟩ : ∃ fd, FunD K "needed_reach" "needed_reach" (defArgs (top 65)) (defBody (top 65)) (defScope (top 65)) [] [] (He.ga K "needed_reach") fd := d.def_ 63 (d := d_needed_reach) rfl
  have g_needed_reach : mg "needed_reach" = some (.ref (He.ga K "needed_reach")) := He.glo_ok X G (d.fact 129 (f := .glo "needed_reach") rfl)
  obtain ⟨fd_is_between, F_is_between⟩ : ∃ fd, FunD K "is_between" "is_between" (defArgs (top 51)) (defBody (top 51)) (defScope (top 51)) [] [] (He.ga K "is_between") fd := d.def_ 64 (d := d_is_between) rfl
  have g_is_between : mg "is_between" = some (.ref (He.ga K "is_between")) := He.glo_ok X G (d.fact 130 (f := .glo "is_between") rfl)
  obtain ⟨fd_can_draw, F_can_draw⟩ : ∃ fd, FunD K "can_draw" "can_draw" (defArgs (top 66)) (defBody (top 66)) (defScope (top 66)) [] [] (He.ga K "can_draw") fd := d.def_ 65 (d := d_can_draw) rfl
  have g_can_draw : mg "can_draw" = some (.ref (He.ga K "can_draw")) := He.glo_ok X G (d.fact 131 (f := .glo "can_draw") rfl)
  obtain ⟨fd_Drawing___add, F_Drawing___add⟩ : ∃ fd, FunD K "__add__" "Drawing.__add__" (defArgs (inClass (top 71) 5)) (defBody (inClass (top 71) 5)) (defScope (inClass (top 71) 5)) [] [] (He.ma K (He.ga K "Drawing") "__add__") fd := d.def_ 66 (d := d_Drawing___add) rfl
  obtain ⟨fd_law_drawingQ, F_law_drawingQ⟩ : ∃ fd, FunD K "_law_drawing" "_law_drawing" (defArgs (top 98)) (defBody (top 98)) (defScope (top 98)) [] [] (He.ga K "_law_drawing") fd := d.def_ 67 (d := d_law_drawingQ) rfl
  have g_law_drawingQ : mg "_law_drawing" = some (.ref (He.ga K "_law_drawing")) := He.glo_ok X G (d.fact 132 (f := .glo "_law_drawing") rfl)
  obtain ⟨fd_Chain___getitem, F_Chain___getitem⟩ : ∃ fd, FunD K "__getitem__" "Chain.__getitem__" (defArgs (inClass (top 60) 2)) (defBody (inClass (top 60) 2)) (defScope (inClass (top 60) 2)) [] [] (He.ma K (He.ga K "Chain") "__getitem__") fd := d.def_ 68 (d := d_Chain___getitem) rfl
  obtain ⟨fd_Arm_reaches, F_Arm_reaches⟩ : ∃ fd, FunD K "reaches" "Arm.reaches" (defArgs (inClass (top 49) 3)) (defBody (inClass (top 49) 3)) (defScope (inClass (top 49) 3)) [] [] (He.ma K (He.ga K "Arm") "reaches") fd := d.def_ 69 (d := d_Arm_reaches) rfl
  obtain ⟨fd_law, F_law⟩ : ∃ fd, FunD K "law" "law" (defArgs (top 100)) (defBody (top 100)) (defScope (top 100)) [] [] (He.ga K "law") fd := d.def_ 70 (d := d_law) rfl
  have g_law : mg "law" = some (.ref (He.ga K "law")) := He.glo_ok X G (d.fact 133 (f := .glo "law") rfl)
  obtain ⟨fd_law_error_of, F_law_error_of⟩ : ∃ fd, FunD K "_law_error_of" "_law_error_of" (defArgs (top 99)) (defBody (top 99)) (defScope (top 99)) [] [] (He.ga K "_law_error_of") fd := d.def_ 71 (d := d_law_error_of) rfl
  have g_law_error_of : mg "_law_error_of" = some (.ref (He.ga K "_law_error_of")) := He.glo_ok X G (d.fact 134 (f := .glo "_law_error_of") rfl)
  have b_law := FunD.bindsA (ps := ["_law_script"]) F_law fun _ _ _ _ _ _ us hl => match us, hl with | [_], _ => rfl
  refine ⟨fd_law, g_law, fun s v => b_law s [v] rfl, fun base TB => ?_⟩
  have mk_Arm := He.mkr_ok (d.fact 67 (f := .mkr "Arm") rfl)
  have gc_Arm : mg "Arm" = some (.ref (He.ga K "Arm")) := He.glo_ok X G (d.fact 66 (f := .glo "Arm") rfl)
  have mk_Chain := He.mkr_ok (d.fact 69 (f := .mkr "Chain") rfl)
  have gc_Chain : mg "Chain" = some (.ref (He.ga K "Chain")) := He.glo_ok X G (d.fact 68 (f := .glo "Chain") rfl)
  have mk_Copy := He.mkr_ok (d.fact 71 (f := .mkr "Copy") rfl)
  have gc_Copy : mg "Copy" = some (.ref (He.ga K "Copy")) := He.glo_ok X G (d.fact 70 (f := .glo "Copy") rfl)
  have mk_Drawing := He.mkr_ok (d.fact 73 (f := .mkr "Drawing") rfl)
  have gc_Drawing : mg "Drawing" = some (.ref (He.ga K "Drawing")) := He.glo_ok X G (d.fact 72 (f := .glo "Drawing") rfl)
  have G_law_random : FnG P w K mg base 1 "_law_random" (sp_law_random (Γ0 K)) := ⟨_, _, _, ok_law_random T F_law_random , g_law_random, F_law_random.kp, F_law_random.bindsN fun _ _ _ _ _ _ us hl => match us, hl with | [_, _], _ => rfl⟩
  have G_law_below : FnG P w K mg base 1 "_law_below" (sp_law_below (Γ0 K)) := ⟨_, _, _, ok_law_below T F_law_below , g_law_below, F_law_below.kp, F_law_below.bindsN fun _ _ _ _ _ _ us hl => match us, hl with | [_, _], _ => rfl⟩
  have G_law_step : FnG P w K mg base 2 "_law_step" (sp_law_step (Γ0 K)) := ⟨_, _, _, ok_law_step T F_law_step G_law_below, g_law_step, F_law_step.kp, F_law_step.bindsN fun _ _ _ _ _ _ us hl => match us, hl with | [_, _], _ => rfl⟩
  have G_law_common : FnG P w K mg base 1 "_law_common" (sp_law_common (Γ0 K)) := ⟨_, _, _, ok_law_common T F_law_common , g_law_common, F_law_common.kp, F_law_common.bindsN fun _ _ _ _ _ _ us hl => match us, hl with | [_, _], _ => rfl⟩
  have G_law_lowest : FnG P w K mg base 2 "_law_lowest" (sp_law_lowest (Γ0 K)) := ⟨_, _, _, ok_law_lowest T F_law_lowest G_law_common, g_law_lowest, F_law_lowest.kp, F_law_lowest.bindsN fun _ _ _ _ _ _ us hl => match us, hl with | [_, _, _], _ => rfl⟩
  have G_law_spot : FnG P w K mg base 3 "_law_spot" (sp_law_spot (Γ0 K)) := ⟨_, _, _, ok_law_spot T F_law_spot G_law_below G_law_lowest, g_law_spot, F_law_spot.kp, F_law_spot.bindsN fun _ _ _ _ _ _ us hl => match us, hl with | [_], _ => rfl⟩
  have G_law_turn : FnG P w K mg base 2 "_law_turn" (sp_law_turn (Γ0 K)) := ⟨_, _, _, ok_law_turn T F_law_turn G_law_below, g_law_turn, F_law_turn.kp, F_law_turn.bindsN fun _ _ _ _ _ _ us hl => match us, hl with | [_], _ => rfl⟩
  have G_law_arm_told : FnG P w K mg base 4 "_law_arm_told" (sp_law_arm_told (Γ0 K)) := ⟨_, _, _, ok_law_arm_told T F_law_arm_told G_law_below G_law_step G_law_spot G_law_turn, g_law_arm_told, F_law_arm_told.kp, F_law_arm_told.bindsN fun _ _ _ _ _ _ us hl => match us, hl with | [_], _ => rfl⟩
  have O_Chain___init := ok_Chain___init (P := P) (w := w) (base := base) T F_Chain___init 
  have G_Chain___init : MkS P w K mg base 1 "Chain" (Γ0 K).Chain (sp_Chain___init (Γ0 K)) := ⟨_, O_Chain___init, gc_Chain, mk_Chain⟩
  have G_is_int : FnG P w K mg base 1 "is_int" (sp_is_int (Γ0 K)) := ⟨_, _, _, ok_is_int T F_is_int , g_is_int, F_is_int.kp, F_is_int.bindsN fun _ _ _ _ _ _ us hl => match us, hl with | [_], _ => rfl⟩
  have G_common_divisor : FnG P w K mg base 1 "common_divisor" (sp_common_divisor (Γ0 K)) := ⟨_, _, _, ok_common_divisor T F_common_divisor , g_common_divisor, F_common_divisor.kp, F_common_divisor.bindsN fun _ _ _ _ _ _ us hl => match us, hl with | [_, _], _ => rfl⟩
  have G_lowest : FnG P w K mg base 2 "lowest" (sp_lowest (Γ0 K)) := ⟨_, _, _, ok_lowest T F_lowest G_common_divisor, g_lowest, F_lowest.kp, F_lowest.bindsN fun _ _ _ _ _ _ us hl => match us, hl with | [_, _, _], _ => rfl⟩
  have G_is_number : FnG P w K mg base 3 "is_number" (sp_is_number (Γ0 K)) := ⟨_, _, _, ok_is_number T F_is_number G_is_int G_lowest, g_is_number, F_is_number.kp, F_is_number.bindsN fun _ _ _ _ _ _ us hl => match us, hl with | [_], _ => rfl⟩
  have G_check_spot : FnG P w K mg base 4 "check_spot" (sp_check_spot (Γ0 K)) := ⟨_, _, _, ok_check_spot T F_check_spot G_is_number, g_check_spot, F_check_spot.kp, F_check_spot.bindsN fun _ _ _ _ _ _ us hl => match us, hl with | [_], _ => rfl⟩
  have G_check_turn : FnG P w K mg base 4 "check_turn" (sp_check_turn (Γ0 K)) := ⟨_, _, _, ok_check_turn T F_check_turn G_is_number, g_check_turn, F_check_turn.kp, F_check_turn.bindsN fun _ _ _ _ _ _ us hl => match us, hl with | [_], _ => rfl⟩
  have G_is_int_in : FnG P w K mg base 1 "is_int_in" (sp_is_int_in (Γ0 K)) := ⟨_, _, _, ok_is_int_in T F_is_int_in , g_is_int_in, F_is_int_in.kp, F_is_int_in.bindsN fun _ _ _ _ _ _ us hl => match us, hl with | [_, _, _], _ => rfl⟩
  have O_Arm___init := ok_Arm___init (P := P) (w := w) (base := base) T F_Arm___init G_check_spot G_check_turn G_is_int_in
  have G_Arm___init_k_mirrored : MkK P w K mg base 5 "Arm" (Γ0 K).Arm (sp_Arm___init (Γ0 K)) 4 ["mirrored"] gD_Arm_mirrored := by
    obtain ⟨mv, q⟩ := F_Arm___init.kbinds0 (ps := ["self", "pole", "turn", "near", "far", "mirrored"]) 5 ["mirrored"] [] (fun us _ ws => us ++ ws) (by simp) (by simp) (fun a _ b => Vals.append a b) fun _ _ _ _ _ _ us mv ws l1 l2 l3 => match us, mv, ws, l1, l2, l3 with | [_, _, _, _, _], [], [_], _, _, _ => rfl
    exact ⟨_, _, _, _, _, O_Arm___init, gc_Arm, mk_Arm, q, fun y b vs zs ds es S r1 r2 r3 => .cons r1 (r2.append r3)⟩
  have G_Arm___init_k : MkD P w K mg base 5 "Arm" (Γ0 K).Arm (sp_Arm___init (Γ0 K)) [.bl false] := by
    obtain ⟨ds, v, q⟩ := F_Arm___init.binds0 (ps := ["self", "pole", "turn", "near", "far", "mirrored"]) 5 (by simp) rfl fun _ _ _ _ _ _ us ks l1 l2 => match us, ks, l1, l2 with | [_, _, _, _, _], [_], _, _ => ⟨_, _, _, _, _, _, rfl, rfl, rfl⟩
    exact ⟨_, _, _, ds, _, O_Arm___init, gc_Arm, mk_Arm, q, v, fun S => (.cons (.bl _) .nil)⟩
  have G_law_arm : FnG P w K mg base 7 "_law_arm" (sp_law_arm (Γ0 K)) := ⟨_, _, _, ok_law_arm T F_law_arm G_Arm___init_k_mirrored, g_law_arm, F_law_arm.kp, F_law_arm.bindsN fun _ _ _ _ _ _ us hl => match us, hl with | [_], _ => rfl⟩
  have G_Chain___add : MtG P w K mg base 3 (Γ0 K).Chain (He.ma K (Γ0 K).Chain "__add__") (sp_Chain___add (Γ0 K)) := ⟨_, _, ok_Chain___add T F_Chain___add G_Chain___init, F_Chain___add.bindsN fun _ _ _ _ _ _ us hl => match us, hl with | [_, _], _ => rfl⟩
  have G_law_chain : FnG P w K mg base 8 "_law_chain" (sp_law_chain (Γ0 K)) := ⟨_, _, _, ok_law_chain T F_law_chain G_law_arm G_Chain___add G_Chain___init, g_law_chain, F_law_chain.kp, F_law_chain.bindsN fun _ _ _ _ _ _ us hl => match us, hl with | [_], _ => rfl⟩
  have O_Copy___init := ok_Copy___init (P := P) (w := w) (base := base) T F_Copy___init G_check_turn G_check_spot
  have G_Copy___init_k_mirrored : MkK P w K mg base 5 "Copy" (Γ0 K).Copy (sp_Copy___init (Γ0 K)) 2 ["mirrored"] gD_Copy_mirrored := by
    obtain ⟨mv, q⟩ := F_Copy___init.kbinds0 (ps := ["self", "turn", "shift", "mirrored"]) 3 ["mirrored"] [] (fun us _ ws => us ++ ws) (by simp) (by simp) (fun a _ b => Vals.append a b) fun _ _ _ _ _ _ us mv ws l1 l2 l3 => match us, mv, ws, l1, l2, l3 with | [_, _, _], [], [_], _, _, _ => rfl
    exact ⟨_, _, _, _, _, O_Copy___init, gc_Copy, mk_Copy, q, fun y b vs zs ds es S r1 r2 r3 => .cons r1 (r2.append r3)⟩
  have G_Copy___init_k : MkD P w K mg base 5 "Copy" (Γ0 K).Copy (sp_Copy___init (Γ0 K)) [.bl false] := by
    obtain ⟨ds, v, q⟩ := F_Copy___init.binds0 (ps := ["self", "turn", "shift", "mirrored"]) 3 (by simp) rfl fun _ _ _ _ _ _ us ks l1 l2 => match us, ks, l1, l2 with | [_, _, _], [_], _, _ => ⟨_, _, _, _, _, _, rfl, rfl, rfl⟩
    exact ⟨_, _, _, ds, _, O_Copy___init, gc_Copy, mk_Copy, q, v, fun S => (.cons (.bl _) .nil)⟩
  have G_multiplied : FnG P w K mg base 3 "multiplied" (sp_multiplied (Γ0 K)) := ⟨_, _, _, ok_multiplied T F_multiplied G_lowest, g_multiplied, F_multiplied.kp, F_multiplied.bindsN fun _ _ _ _ _ _ us hl => match us, hl with | [_, _], _ => rfl⟩
  have G_turned_over : FnG P w K mg base 1 "turned_over" (sp_turned_over (Γ0 K)) := ⟨_, _, _, ok_turned_over T F_turned_over , g_turned_over, F_turned_over.kp, F_turned_over.bindsN fun _ _ _ _ _ _ us hl => match us, hl with | [_], _ => rfl⟩
  have G_added : FnG P w K mg base 3 "added" (sp_added (Γ0 K)) := ⟨_, _, _, ok_added T F_added G_lowest, g_added, F_added.kp, F_added.bindsN fun _ _ _ _ _ _ us hl => match us, hl with | [_, _], _ => rfl⟩
  have G_opposite : FnG P w K mg base 1 "opposite" (sp_opposite (Γ0 K)) := ⟨_, _, _, ok_opposite T F_opposite , g_opposite, F_opposite.kp, F_opposite.bindsN fun _ _ _ _ _ _ us hl => match us, hl with | [_], _ => rfl⟩
  have G_less : FnG P w K mg base 4 "less" (sp_less (Γ0 K)) := ⟨_, _, _, ok_less T F_less G_added G_opposite, g_less, F_less.kp, F_less.bindsN fun _ _ _ _ _ _ us hl => match us, hl with | [_, _], _ => rfl⟩
  have G_copy_about : FnG P w K mg base 7 "copy_about" (sp_copy_about (Γ0 K)) := ⟨_, _, _, ok_copy_about T F_copy_about G_multiplied G_turned_over G_less G_Copy___init_k_mirrored, g_copy_about, F_copy_about.kp, F_copy_about.bindsN fun _ _ _ _ _ _ us hl => match us, hl with | [_, _, _], _ => rfl⟩
  have G_Arm_effect : MtG P w K mg base 8 (Γ0 K).Arm (gtA K (Γ0 K).Arm "effect") (sp_Arm_effect (Γ0 K)) := ⟨_, _, ok_Arm_effect T F_Arm_effect G_copy_about, F_Arm_effect.bindsN fun _ _ _ _ _ _ us hl => match us, hl with | [_], _ => rfl⟩
  have G_carried : FnG P w K mg base 4 "carried" (sp_carried (Γ0 K)) := ⟨_, _, _, ok_carried T F_carried G_added G_multiplied G_turned_over, g_carried, F_carried.kp, F_carried.bindsN fun _ _ _ _ _ _ us hl => match us, hl with | [_, _], _ => rfl⟩
  have G_Copy___rshift : MtG P w K mg base 7 (Γ0 K).Copy (He.ma K (Γ0 K).Copy "__rshift__") (sp_Copy___rshift (Γ0 K)) := ⟨_, _, ok_Copy___rshift T F_Copy___rshift G_turned_over G_carried G_multiplied G_Copy___init_k_mirrored, F_Copy___rshift.bindsN fun _ _ _ _ _ _ us hl => match us, hl with | [_, _], _ => rfl⟩
  have G_copies_ahead : FnG P w K mg base 10 "copies_ahead" (sp_copies_ahead (Γ0 K)) := ⟨_, _, _, ok_copies_ahead T F_copies_ahead G_Arm_effect G_Copy___rshift G_Copy___init_k, g_copies_ahead, F_copies_ahead.kp, F_copies_ahead.bindsN fun _ _ _ _ _ _ us hl => match us, hl with | [_], _ => rfl⟩
  have G_ratio : FnG P w K mg base 2 "ratio" (sp_ratio (Γ0 K)) := ⟨_, _, _, ok_ratio T F_ratio G_common_divisor, g_ratio, F_ratio.kp, F_ratio.bindsN fun _ _ _ _ _ _ us hl => match us, hl with | [_, _], _ => rfl⟩
  have G_size : FnG P w K mg base 3 "size" (sp_size (Γ0 K)) := ⟨_, _, _, ok_size T F_size G_ratio, g_size, F_size.kp, F_size.bindsN fun _ _ _ _ _ _ us hl => match us, hl with | [_], _ => rfl⟩
  have G_Copy_growth : MtG P w K mg base 4 (Γ0 K).Copy (gtA K (Γ0 K).Copy "growth") (sp_Copy_growth (Γ0 K)) := ⟨_, _, ok_Copy_growth T F_Copy_growth G_size, F_Copy_growth.bindsN fun _ _ _ _ _ _ us hl => match us, hl with | [_], _ => rfl⟩
  have G_inverse : FnG P w K mg base 3 "inverse" (sp_inverse (Γ0 K)) := ⟨_, _, _, ok_inverse T F_inverse G_lowest, g_inverse, F_inverse.kp, F_inverse.bindsN fun _ _ _ _ _ _ us hl => match us, hl with | [_], _ => rfl⟩
  have G_Copy___invert : MtG P w K mg base 7 (Γ0 K).Copy (He.ma K (Γ0 K).Copy "__invert__") (sp_Copy___invert (Γ0 K)) := ⟨_, _, ok_Copy___invert T F_Copy___invert G_inverse G_turned_over G_opposite G_multiplied G_Copy___init_k_mirrored, F_Copy___invert.bindsN fun _ _ _ _ _ _ us hl => match us, hl with | [_], _ => rfl⟩
  have G_zones : FnG P w K mg base 11 "zones" (sp_zones (Γ0 K)) := ⟨_, _, _, ok_zones T F_zones G_copies_ahead G_Copy_growth G_ratio G_carried G_Copy___invert, g_zones, F_zones.kp, F_zones.bindsN fun _ _ _ _ _ _ us hl => match us, hl with | [_], _ => rfl⟩
  have G_is_less : FnG P w K mg base 1 "is_less" (sp_is_less (Γ0 K)) := ⟨_, _, _, ok_is_less T F_is_less , g_is_less, F_is_less.kp, F_is_less.bindsN fun _ _ _ _ _ _ us hl => match us, hl with | [_, _], _ => rfl⟩
  have G_is_in_ring : FnG P w K mg base 5 "is_in_ring" (sp_is_in_ring (Γ0 K)) := ⟨_, _, _, ok_is_in_ring T F_is_in_ring G_size G_less G_is_less, g_is_in_ring, F_is_in_ring.kp, F_is_in_ring.bindsN fun _ _ _ _ _ _ us hl => match us, hl with | [_, _], _ => rfl⟩
  have G_reachable_spots : FnG P w K mg base 12 "reachable_spots" (sp_reachable_spots (Γ0 K)) := ⟨_, _, _, ok_reachable_spots T F_reachable_spots G_is_int_in G_zones G_is_in_ring, g_reachable_spots, F_reachable_spots.kp, F_reachable_spots.bindsN fun _ _ _ _ _ _ us hl => match us, hl with | [_, _], _ => rfl⟩
  have G_law_ratio : FnG P w K mg base 3 "_law_ratio" (sp_law_ratio (Γ0 K)) := ⟨_, _, _, ok_law_ratio T F_law_ratio G_law_lowest, g_law_ratio, F_law_ratio.kp, F_law_ratio.bindsN fun _ _ _ _ _ _ us hl => match us, hl with | [_, _], _ => rfl⟩
  have G_law_size : FnG P w K mg base 4 "_law_size" (sp_law_size (Γ0 K)) := ⟨_, _, _, ok_law_size T F_law_size G_law_ratio, g_law_size, F_law_size.kp, F_law_size.bindsN fun _ _ _ _ _ _ us hl => match us, hl with | [_], _ => rfl⟩
  have G_law_plus : FnG P w K mg base 3 "_law_plus" (sp_law_plus (Γ0 K)) := ⟨_, _, _, ok_law_plus T F_law_plus G_law_lowest, g_law_plus, F_law_plus.kp, F_law_plus.bindsN fun _ _ _ _ _ _ us hl => match us, hl with | [_, _], _ => rfl⟩
  have G_law_minus : FnG P w K mg base 4 "_law_minus" (sp_law_minus (Γ0 K)) := ⟨_, _, _, ok_law_minus T F_law_minus G_law_plus, g_law_minus, F_law_minus.kp, F_law_minus.bindsN fun _ _ _ _ _ _ us hl => match us, hl with | [_, _], _ => rfl⟩
  have G_law_less : FnG P w K mg base 1 "_law_less" (sp_law_less (Γ0 K)) := ⟨_, _, _, ok_law_less T F_law_less , g_law_less, F_law_less.kp, F_law_less.bindsN fun _ _ _ _ _ _ us hl => match us, hl with | [_, _], _ => rfl⟩
  have G_law_reached : FnG P w K mg base 5 "_law_reached" (sp_law_reached (Γ0 K)) := ⟨_, _, _, ok_law_reached T F_law_reached G_law_size G_law_minus G_law_less, g_law_reached, F_law_reached.kp, F_law_reached.bindsN fun _ _ _ _ _ _ us hl => match us, hl with | [_, _], _ => rfl⟩
  have G_law_times : FnG P w K mg base 3 "_law_times" (sp_law_times (Γ0 K)) := ⟨_, _, _, ok_law_times T F_law_times G_law_lowest, g_law_times, F_law_times.kp, F_law_times.bindsN fun _ _ _ _ _ _ us hl => match us, hl with | [_, _], _ => rfl⟩
  have G_law_over : FnG P w K mg base 1 "_law_over" (sp_law_over (Γ0 K)) := ⟨_, _, _, ok_law_over T F_law_over , g_law_over, F_law_over.kp, F_law_over.bindsN fun _ _ _ _ _ _ us hl => match us, hl with | [_], _ => rfl⟩
  have G_law_near : FnG P w K mg base 5 "_law_near" (sp_law_near (Γ0 K)) := ⟨_, _, _, ok_law_near T F_law_near G_law_minus G_law_times G_law_over G_law_size G_law_less G_law_ratio, g_law_near, F_law_near.kp, F_law_near.bindsN fun _ _ _ _ _ _ us hl => match us, hl with | [_, _, _], _ => rfl⟩
  have G_law_traced : FnG P w K mg base 6 "_law_traced" (sp_law_traced (Γ0 K)) := ⟨_, _, _, ok_law_traced T F_law_traced G_law_reached G_law_near G_law_less, g_law_traced, F_law_traced.kp, F_law_traced.bindsN fun _ _ _ _ _ _ us hl => match us, hl with | [_, _], _ => rfl⟩
  have G_law_about : FnG P w K mg base 5 "_law_about" (sp_law_about (Γ0 K)) := ⟨_, _, _, ok_law_about T F_law_about G_law_times G_law_over G_law_minus, g_law_about, F_law_about.kp, F_law_about.bindsN fun _ _ _ _ _ _ us hl => match us, hl with | [_], _ => rfl⟩
  have G_law_carried : FnG P w K mg base 4 "_law_carried" (sp_law_carried (Γ0 K)) := ⟨_, _, _, ok_law_carried T F_law_carried G_law_plus G_law_times G_law_over, g_law_carried, F_law_carried.kp, F_law_carried.bindsN fun _ _ _ _ _ _ us hl => match us, hl with | [_, _], _ => rfl⟩
  have G_law_moved : FnG P w K mg base 5 "_law_moved" (sp_law_moved (Γ0 K)) := ⟨_, _, _, ok_law_moved T F_law_moved G_law_carried, g_law_moved, F_law_moved.kp, F_law_moved.bindsN fun _ _ _ _ _ _ us hl => match us, hl with | [_, _], _ => rfl⟩
  have G_law_missed : FnG P w K mg base 7 "_law_missed" (sp_law_missed (Γ0 K)) := ⟨_, _, _, ok_law_missed T F_law_missed G_law_traced G_law_about G_law_moved, g_law_missed, F_law_missed.kp, F_law_missed.bindsN fun _ _ _ _ _ _ us hl => match us, hl with | [_, _], _ => rfl⟩
  have H0_law_equal : FnG P w K mg base 0 "_law_equal" (sp_law_equal (Γ0 K) 0) := ⟨_, _, ["_law_actual", "_law_expected"], FnOk.none, g_law_equal, F_law_equal.kp, F_law_equal.bindsN fun _ _ _ _ _ _ us hl => match us, hl with | [_, _], _ => rfl⟩
  have H1_law_equal : FnG P w K mg base 1 "_law_equal" (sp_law_equal (Γ0 K) 1) := ⟨_, _, _, ok_law_equal T F_law_equal H0_law_equal, g_law_equal, F_law_equal.kp, F_law_equal.bindsN fun _ _ _ _ _ _ us hl => match us, hl with | [_, _], _ => rfl⟩
  have H2_law_equal : FnG P w K mg base 2 "_law_equal" (sp_law_equal (Γ0 K) 2) := ⟨_, _, _, ok_law_equal T F_law_equal H1_law_equal, g_law_equal, F_law_equal.kp, F_law_equal.bindsN fun _ _ _ _ _ _ us hl => match us, hl with | [_, _], _ => rfl⟩
  have H3_law_equal : FnG P w K mg base 3 "_law_equal" (sp_law_equal (Γ0 K) 3) := ⟨_, _, _, ok_law_equal T F_law_equal H2_law_equal, g_law_equal, F_law_equal.kp, F_law_equal.bindsN fun _ _ _ _ _ _ us hl => match us, hl with | [_, _], _ => rfl⟩
  have H4_law_equal : FnG P w K mg base 4 "_law_equal" (sp_law_equal (Γ0 K) 4) := ⟨_, _, _, ok_law_equal T F_law_equal H3_law_equal, g_law_equal, F_law_equal.kp, F_law_equal.bindsN fun _ _ _ _ _ _ us hl => match us, hl with | [_, _], _ => rfl⟩
  have H5_law_equal : FnG P w K mg base 5 "_law_equal" (sp_law_equal (Γ0 K) 5) := ⟨_, _, _, ok_law_equal T F_law_equal H4_law_equal, g_law_equal, F_law_equal.kp, F_law_equal.bindsN fun _ _ _ _ _ _ us hl => match us, hl with | [_, _], _ => rfl⟩
  have G_law_equal := H5_law_equal
  have G_parts_of : FnG P w K mg base 1 "parts_of" (sp_parts_of (Γ0 K)) := ⟨_, _, _, ok_parts_of T F_parts_of , g_parts_of, F_parts_of.kp, F_parts_of.bindsN fun _ _ _ _ _ _ us hl => match us, hl with | [_], _ => rfl⟩
  have G_farthest : FnG P w K mg base 5 "farthest" (sp_farthest (Γ0 K)) := ⟨_, _, _, ok_farthest T F_farthest G_size G_less G_is_less, g_farthest, F_farthest.kp, F_farthest.bindsN fun _ _ _ _ _ _ us hl => match us, hl with | [_, _, _], _ => rfl⟩
  have G_common_multiple : FnG P w K mg base 2 "common_multiple" (sp_common_multiple (Γ0 K)) := ⟨_, _, _, ok_common_multiple T F_common_multiple G_common_divisor, g_common_multiple, F_common_multiple.kp, F_common_multiple.bindsN fun _ _ _ _ _ _ us hl => match us, hl with | [_], _ => rfl⟩
  have G_least : FnG P w K mg base 2 "least" (sp_least (Γ0 K)) := ⟨_, _, _, ok_least T F_least G_is_less, g_least, F_least.kp, F_least.bindsN fun _ _ _ _ _ _ us hl => match us, hl with | [_, _], _ => rfl⟩
  have G_nearest : FnG P w K mg base 5 "nearest" (sp_nearest (Γ0 K)) := ⟨_, _, _, ok_nearest T F_nearest G_common_multiple G_ratio G_least G_size G_less, g_nearest, F_nearest.kp, F_nearest.bindsN fun _ _ _ _ _ _ us hl => match us, hl with | [_, _, _], _ => rfl⟩
  have G_span : FnG P w K mg base 6 "span" (sp_span (Γ0 K)) := ⟨_, _, _, ok_span T F_span G_farthest G_nearest, g_span, F_span.kp, F_span.bindsN fun _ _ _ _ _ _ us hl => match us, hl with | [_, _], _ => rfl⟩
  have G_touched_span : FnG P w K mg base 7 "touched_span" (sp_touched_span (Γ0 K)) := ⟨_, _, _, ok_touched_span T F_touched_span G_parts_of G_span G_least G_is_less, g_touched_span, F_touched_span.kp, F_touched_span.bindsN fun _ _ _ _ _ _ us hl => match us, hl with | [_, _], _ => rfl⟩
  have G_check_stroke : FnG P w K mg base 5 "check_stroke" (sp_check_stroke (Γ0 K)) := ⟨_, _, _, ok_check_stroke T F_check_stroke G_check_spot, g_check_stroke, F_check_stroke.kp, F_check_stroke.bindsN fun _ _ _ _ _ _ us hl => match us, hl with | [_, _], _ => rfl⟩
  have O_Drawing___init := ok_Drawing___init (P := P) (w := w) (base := base) T F_Drawing___init G_check_stroke
  have G_Drawing___init : MkS P w K mg base 6 "Drawing" (Γ0 K).Drawing (sp_Drawing___init (Γ0 K)) := ⟨_, O_Drawing___init, gc_Drawing, mk_Drawing⟩
  have G_Drawing_copied : MtG P w K mg base 8 (Γ0 K).Drawing (He.ma K (Γ0 K).Drawing "copied") (sp_Drawing_copied (Γ0 K)) := ⟨_, _, ok_Drawing_copied T F_Drawing_copied G_carried G_Drawing___init, F_Drawing_copied.bindsN fun _ _ _ _ _ _ us hl => match us, hl with | [_, _], _ => rfl⟩
  have G_needed_reach : FnG P w K mg base 10 "needed_reach" (sp_needed_reach (Γ0 K)) := ⟨_, _, _, ok_needed_reach T F_needed_reach G_touched_span G_Arm_effect G_Drawing_copied, g_needed_reach, F_needed_reach.kp, F_needed_reach.bindsN fun _ _ _ _ _ _ us hl => match us, hl with | [_, _], _ => rfl⟩
  have G_is_between : FnG P w K mg base 2 "is_between" (sp_is_between (Γ0 K)) := ⟨_, _, _, ok_is_between T F_is_between G_is_less, g_is_between, F_is_between.kp, F_is_between.bindsN fun _ _ _ _ _ _ us hl => match us, hl with | [_, _, _], _ => rfl⟩
  have G_can_draw : FnG P w K mg base 11 "can_draw" (sp_can_draw (Γ0 K)) := ⟨_, _, _, ok_can_draw T F_can_draw G_needed_reach G_is_between, g_can_draw, F_can_draw.kp, F_can_draw.bindsN fun _ _ _ _ _ _ us hl => match us, hl with | [_, _], _ => rfl⟩
  have G_Drawing___add : MtG P w K mg base 8 (Γ0 K).Drawing (He.ma K (Γ0 K).Drawing "__add__") (sp_Drawing___add (Γ0 K)) := ⟨_, _, ok_Drawing___add T F_Drawing___add G_Drawing___init, F_Drawing___add.bindsN fun _ _ _ _ _ _ us hl => match us, hl with | [_, _], _ => rfl⟩
  have G_law_drawingQ : FnG P w K mg base 9 "_law_drawing" (sp_law_drawingQ (Γ0 K)) := ⟨_, _, _, ok_law_drawingQ T F_law_drawingQ G_Drawing___add G_Drawing___init, g_law_drawingQ, F_law_drawingQ.kp, F_law_drawingQ.bindsN fun _ _ _ _ _ _ us hl => match us, hl with | [_], _ => rfl⟩
  have G_Chain___getitem : MtG P w K mg base 1 (Γ0 K).Chain (He.ma K (Γ0 K).Chain "__getitem__") (sp_Chain___getitem (Γ0 K)) := ⟨_, _, ok_Chain___getitem T F_Chain___getitem , F_Chain___getitem.bindsN fun _ _ _ _ _ _ us hl => match us, hl with | [_, _], _ => rfl⟩
  have G_Arm_reaches : MtG P w K mg base 5 (Γ0 K).Arm (He.ma K (Γ0 K).Arm "reaches") (sp_Arm_reaches (Γ0 K)) := ⟨_, _, ok_Arm_reaches T F_Arm_reaches G_check_spot G_is_between G_size G_less, F_Arm_reaches.bindsN fun _ _ _ _ _ _ us hl => match us, hl with | [_, _], _ => rfl⟩
  have GX_reachable_spots : FnGX P w K mg base 12 "reachable_spots" (spx_reachable_spots (Γ0 K)) := ⟨_, _, _, okx_reachable_spots T F_reachable_spots G_is_int_in G_zones G_is_in_ring, g_reachable_spots, F_reachable_spots.kp, F_reachable_spots.bindsN fun _ _ _ _ _ _ us hl => match us, hl with | [_, _], _ => rfl⟩
  have b_err : L2.Binds K fd_law_error_of ["_law_call"] [] := F_law_error_of.bindsN fun _ _ _ _ _ _ us hl => match us, hl with | [_], _ => rfl
  have G_errB : ∀ base : Heap, ErrD P w K mg base "_law_error_of" (resE (Γ0 K) errL) := fun base => by
    obtain ⟨oc, od, dV, kV, doc, pm, an, cdv, ct, osl, e, lk, hcd, _, _⟩ := F_law_error_of.ex
    subst e
    exact ⟨_, _, _, _, dV, kV, doc, pm, cdv, ct, oc, an, od, osl, _, "_law_call", g_law_error_of, F_law_error_of.kp, lk, hcd, b_err, sc_law_error_of, rfl, .inl rfl, by decide, by decide, fun Z q e1 e2 e3 e4 e5 hu => by
      subst e1 e2 e3 e4 e5
      exact gv_err (Γ0 Z.K) T hu q⟩
  have G_err := G_errB base
  exact (ok_law (P := P) (w := w) (base := base) T F_law TB G_law_random G_law_below G_law_arm_told G_law_chain G_reachable_spots G_law_missed G_law_equal G_can_draw G_law_drawingQ G_Chain___getitem G_Arm_reaches G_Arm___init_k G_Chain___init G_err GX_reachable_spots).imp law_impT
end L3.K20
open PySem PySem.W PySem.Calls PyProof.Rows
theorem PySem.Challenge.cw_copyarms_k20_spots_in_reach_holds : PySem.Challenge.rw_copyarms_k20_spots_in_reach.Holds := by
  w_on; o_law
  refine HandSHeadRun.head_any (r := OpenLaw.row PySem.Challenge.rw_copyarms_k20_spots_in_reach) (q := L3.K20.qv) (H := L3.K20.hk) (ob := L3.K20.ob) (M := 12000) (loose := L3.K20.names) (d := HandSHeadRun.topDef (OpenLaw.row PySem.Challenge.rw_copyarms_k20_spots_in_reach).prog 100) (kwd := []) L3.K20.ob_eq
    (by kernel_rfl) (fun s => by kernel_rfl) L3.K20.run (by kernel_rfl) (by kernel_rfl) (by kernel_rfl) (by rfl) (by first | assumption | decide +kernel) (by decide +kernel) ⟨rfl, rfl, rfl, rfl, rfl, by decide +kernel⟩ ?hw ?hc
  case hw => w_witness2
  case hc =>
    refine L3.walk_ofTE (l := PySem.Challenge.rw_copyarms_k20_spots_in_reach) (n := 63) (k := 15) (x := "_law_script") (CX := L2.CX0) rfl (by decide) (by kernel_rfl) ⟨rfl, by decide, by decide⟩ ?F (fun _ _ _ _ z => z)
    intro w mg fa h Y G hmg0
    obtain ⟨K, KX, c, h1, h2, h3⟩ := Y
    obtain ⟨fd, hg, hb, hF⟩ := L3.K20.all (P := (PySem.Challenge.rw_copyarms_k20_spots_in_reach).prog) (w := w) KX G c (by kernel_rfl) (by kernel_rfl)
    have hmg : mg ("law" : PySem.Str) = some (.ref fa) := by
      have e : (HandSHeadRun.topDef (OpenLaw.row PySem.Challenge.rw_copyarms_k20_spots_in_reach).prog 100).name = ("law" : PySem.Str) := by kernel_rfl
      rw [← e]
      exact hmg0
    have e := hmg.symm.trans hg
    cases e
    exact ⟨K, fd, L3.lawC K, L3.lawP K, L3.spLawT K (L3.lawP K), KX, h3, h2, codeHd_of_K KX h1, hb, fun H a ns hl ht hS => ⟨a, ns, rfl, hS, hl, ht, fun _ => rfl⟩, fun base _ _ TB => hF base TB⟩
