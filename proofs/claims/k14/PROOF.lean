import PyProof.Rows.All
import Wide.All
import OpenK.AllK
import Wide.FinOn
import HandS.ForMost
import HandS.Star
import HandS.Defaults
import HandS.MakeKwOnly
import HandS.Property
import HandS.IsInst
import HandS.Wide
import HandS.Zip
import HandS.OwnEq
import HandS.TupAny
import HandS.Lambda
import KE.KeyNested
import KE.KDictKeyed
import HandS.TryOnly
import HandS.Style
import HandS.Head0
import HandS.Head1
import HandS.Head2
import HandS.HeadEnd
import HandS.HeadHook1
import HandS.HeadHook2
import KE.GoesEnum
import KE.KRevSl
import HandS.ExcIs
import HandS.ExcOwn
import HandS.Deep
import HandS.EndTab
import HandS.HeadHook4
import KE.KDictZip
import KE.KDictItemsList
import HandS.ExcInit
import HandS.ExcField
import KE.KExcSuper
import HandS.Conv
import HandS.Spec
import KE.SortKeyHeap
import KE.KDictWalk
import HandS.DictComp
import KE.SortData
import KE.DataMinMax
import KE.KDictSum
import PyProof.Transfer
import HandS.TupSets
import HandS.Text
import HandS.Iter
import PyProof.StrOps2
import KE.KDflt
import HandS.TupMul
import HandS.SortInts
import HandS.DictEq
import HandS.ExcCtx
import HandS.RaiseFrom
import HandS.SuiteRaise
import PyProof.RulesAs
import HandS.ExcInitHot
import HandS.HotCalls
import PySem.Challenge.RW_copyarms_k14_areas
/-! ## L3a -/
set_option Elab.async false
set_option linter.all false
set_option maxRecDepth 100000
set_option maxHeartbeats 4000000
/-! A layer of values over the layer of addresses: D, what a value holds; MH, the objects that may change; every reading is a function of these alone. -/
namespace L3
open PySem PySem.Spec PyProof.Rows L2

/-! ### data -/
inductive D where
  | non | bl (b : Bool) | int (i : Int) | str (x : Str)
  | tup (ds : List D) | lst (ds : List D) | scr (ds : List D)
  | ins (C : Addr) (fs : List (Str × D)) | ref (a : Addr) | ty (n : String)

/-- a changeable object: a list, an instance -/
inductive MO where
  | lst (ds : List D)
  | ins (C : Addr) (fs : List (Str × D))
  /-- a table of code objects of one name -/
  | tab (q : Str)
  /-- a dict whose keys are ints and texts -/
  | dk (kvs : List (Key × D))
  /-- a dict whose keys are tuples: its object, its entries -/
  | dct (o : Obj) (kvs : List (D × D))

abbrev MH := Addr → Option MO
def updM (μ : MH) (a : Addr) (m : MO) : MH := fun b => if b = a then some m else μ b
def delM (μ : MH) (a : Addr) : MH := fun b => if b = a then none else μ b
theorem updM_same {μ : MH} {a : Addr} {m : MO} : updM μ a m a = some m := by unfold updM; rw [if_pos rfl]
theorem updM_ne {μ : MH} {a b : Addr} {m : MO} (h : b ≠ a) : updM μ a m b = μ b := by unfold updM; rw [if_neg h]
theorem updM_updM {μ : MH} {a : Addr} {m n : MO} : updM (updM μ a m) a n = updM μ a n := by
  funext b; unfold updM; split <;> rfl
theorem delM_same {μ : MH} {a : Addr} : delM μ a a = none := by unfold delM; rw [if_pos rfl]
theorem delM_ne {μ : MH} {a b : Addr} (h : b ≠ a) : delM μ a b = μ b := by unfold delM; rw [if_neg h]
theorem delM_updM {μ : MH} {a : Addr} {m : MO} (h : μ a = none) : delM (updM μ a m) a = μ := by
  funext b; unfold delM updM
  by_cases e : b = a
  · rw [if_pos e, e, h]
  · rw [if_neg e, if_neg e]

mutual
/-- the value v holds the data d, by the objects of S that never change -/
inductive Rep (K : PySem.W.Frag) (S : Hp) : V → D → Prop
  | non : Rep K S .non .non
  | bl (b : Bool) : Rep K S (.bl b) (.bl b)
  | int (i : Int) : Rep K S (.int i) (.int i)
  | str (x : Str) : Rep K S (.str x) (.str x)
  | tup {a : Addr} {vs : List V} {ds : List D} : SqT K S a vs → Reps K S vs ds → Rep K S (.ref a) (.tup ds)
  | lst {a : Addr} {vs : List V} {ds : List D} : S a = some (.lst vs) → Reps K S vs ds → Rep K S (.ref a) (.lst ds)
  | scr {a : Addr} {vs : List V} {ds : List D} : SqL K S a vs → Reps K S vs ds → Rep K S (.ref a) (.scr ds)
  | ins {a C dx : Addr} {vfs : List (Str × V)} {fs : List (Str × D)} : S a = some (.ins C dx vfs) → RepF K S vfs fs → Rep K S (.ref a) (.ins C fs)
  | ref (a : Addr) : Rep K S (.ref a) (.ref a)
  | ty (n : String) : Rep K S (.ty n) (.ty n)
inductive Reps (K : PySem.W.Frag) (S : Hp) : List V → List D → Prop
  | nil : Reps K S [] []
  | cons {v : V} {vs : List V} {d : D} {ds : List D} : Rep K S v d → Reps K S vs ds → Reps K S (v :: vs) (d :: ds)
inductive RepF (K : PySem.W.Frag) (S : Hp) : List (Str × V) → List (Str × D) → Prop
  | nil : RepF K S [] []
  | cons {f : Str} {v : V} {vs : List (Str × V)} {d : D} {ds : List (Str × D)} : Rep K S v d → RepF K S vs ds → RepF K S ((f, v) :: vs) ((f, d) :: ds)
end

section
variable {K : PySem.W.Frag} {S S' H H' : Hp}
theorem sqT_same {a : Addr} {xs : List V} (e : Same S S') (h : SqT K S a xs) : SqT K S' a xs := by
  rcases h with (h | ⟨o, h⟩) | h
  · exact .inl (.inl (e _ _ h))
  · exact .inl (.inr ⟨o, e _ _ h⟩)
  · exact .inr h
theorem sqL_same {a : Addr} {xs : List V} (e : Same S S') (h : SqL K S a xs) : SqL K S' a xs := e.seq h
mutual
theorem Rep.mono (e : Same S S') : ∀ {v : V} {d : D}, Rep K S v d → Rep K S' v d
  | _, _, .non => .non
  | _, _, .bl b => .bl b
  | _, _, .int i => .int i
  | _, _, .str x => .str x
  | _, _, .tup h r => .tup (sqT_same e h) (Reps.mono e r)
  | _, _, .lst h r => .lst (e _ _ h) (Reps.mono e r)
  | _, _, .scr h r => .scr (sqL_same e h) (Reps.mono e r)
  | _, _, .ins h r => .ins (e _ _ h) (RepF.mono e r)
  | _, _, .ref a => .ref a
  | _, _, .ty n => .ty n
theorem Reps.mono (e : Same S S') : ∀ {vs : List V} {ds : List D}, Reps K S vs ds → Reps K S' vs ds
  | _, _, .nil => .nil
  | _, _, .cons h r => .cons (Rep.mono e h) (Reps.mono e r)
theorem RepF.mono (e : Same S S') : ∀ {vs : List (Str × V)} {ds : List (Str × D)}, RepF K S vs ds → RepF K S' vs ds
  | _, _, .nil => .nil
  | _, _, .cons h r => .cons (Rep.mono e h) (RepF.mono e r)
end
theorem Reps.length : ∀ {vs : List V} {ds : List D}, Reps K S vs ds → vs.length = ds.length
  | _, _, .nil => rfl
  | _, _, .cons _ r => congrArg Nat.succ (Reps.length r)
theorem Reps.append : ∀ {vs ws : List V} {ds es : List D}, Reps K S vs ds → Reps K S ws es → Reps K S (vs ++ ws) (ds ++ es)
  | _, _, _, _, .nil, h => h
  | _, _, _, _, .cons h r, h2 => .cons h (Reps.append r h2)
theorem Reps.get : ∀ {vs : List V} {ds : List D} {i : Nat} {d : D}, Reps K S vs ds → ds[i]? = some d → ∃ v, vs[i]? = some v ∧ Rep K S v d
  | _, _, _, _, .nil, e => by simp at e
  | _, _, 0, _, .cons h r, e => by
    simp at e; subst e; exact ⟨_, rfl, h⟩
  | _, _, i + 1, d, .cons h r, e => by
    obtain ⟨v, h1, h2⟩ := Reps.get (i := i) (d := d) r (by simpa using e)
    exact ⟨v, by simpa using h1, h2⟩
theorem Reps.set {v : V} {d : D} (h : Rep K S v d) : ∀ {vs : List V} {ds : List D} (i : Nat), Reps K S vs ds → Reps K S (vs.set i v) (ds.set i d)
  | _, _, _, .nil => .nil
  | _, _, 0, .cons _ r => .cons h r
  | _, _, i + 1, .cons q r => .cons q (Reps.set h i r)
theorem Reps.take : ∀ {vs : List V} {ds : List D} (n : Nat), Reps K S vs ds → Reps K S (vs.take n) (ds.take n)
  | _, _, 0, _ => .nil
  | _, _, _ + 1, .nil => .nil
  | _, _, n + 1, .cons r t => .cons r (Reps.take n t)
theorem Reps.drop : ∀ {vs : List V} {ds : List D} (n : Nat), Reps K S vs ds → Reps K S (vs.drop n) (ds.drop n)
  | _, _, 0, r => r
  | _, _, _ + 1, .nil => .nil
  | _, _, n + 1, .cons _ t => Reps.drop n t
theorem Reps.eraseIdx : ∀ {vs : List V} {ds : List D} (n : Nat), Reps K S vs ds → Reps K S (vs.eraseIdx n) (ds.eraseIdx n)
  | _, _, _, .nil => .nil
  | _, _, 0, .cons _ t => t
  | _, _, n + 1, .cons r t => .cons r (Reps.eraseIdx n t)
theorem Reps.split : ∀ {vs ws : List V} {ds : List D}, Reps K S (vs ++ ws) ds → ∃ d1 d2, ds = d1 ++ d2 ∧ Reps K S vs d1 ∧ Reps K S ws d2
  | [], _, ds, h => ⟨[], ds, rfl, .nil, h⟩
  | v :: vs, ws, _, .cons h r => by
    obtain ⟨d1, d2, e, h1, h2⟩ := Reps.split r
    exact ⟨_ :: d1, d2, by rw [e]; rfl, .cons h h1, h2⟩
theorem RepF.lookup : ∀ {vs : List (Str × V)} {ds : List (Str × D)} {f : Str} {d : D}, RepF K S vs ds → ds.lookup f = some d → ∃ v, vs.lookup f = some v ∧ Rep K S v d
  | _, _, _, _, .nil, e => by cases e
  | _, _, f, d, @RepF.cons _ _ g v vs d' ds h r, e => by
    rw [List.lookup_cons] at e ⊢
    cases q : f == g with
    | true => rw [q] at e; cases e; exact ⟨v, rfl, h⟩
    | false => rw [q] at e; exact RepF.lookup r e
theorem RepF.length : ∀ {vs : List (Str × V)} {ds : List (Str × D)}, RepF K S vs ds → vs.length = ds.length
  | _, _, .nil => rfl
  | _, _, .cons _ r => congrArg Nat.succ (RepF.length r)
def putD (f : Str) (d : D) : List (Str × D) → List (Str × D)
  | [] => [(f, d)]
  | (g, e) :: r => if g = f then (g, d) :: r else (g, e) :: putD f d r
theorem RepF.put {v : V} {d : D} (h : Rep K S v d) (f : Str) : ∀ {vs : List (Str × V)} {ds : List (Str × D)}, RepF K S vs ds → RepF K S (putF f v vs) (putD f d ds)
  | _, _, .nil => .cons h .nil
  | _, _, @RepF.cons _ _ g v' vs d' ds h' r => by
    unfold putF putD
    by_cases e : g = f
    · rw [if_pos e, if_pos e]; exact .cons h r
    · rw [if_neg e, if_neg e]; exact .cons h' (RepF.put h f r)
end

/-! ### dicts whose keys are tuples -/
mutual
/-- the key that a value is -/
def nkD : D → Option NestedKey
  | .non => some .none
  | .bl b => some (.num (if b = true then 1 else 0))
  | .int i => some (.num i)
  | .tup ds => (nkDs ds).map .tup
  | .str _ => none | .lst _ => none | .scr _ => none | .ins _ _ => none | .ref _ => none | .ty _ => none
def nkDs : List D → Option (List NestedKey)
  | [] => some []
  | d :: ds => match nkD d, nkDs ds with
    | some k, some ks => some (k :: ks)
    | _, _ => none
end
mutual
/-- the hash of a key without texts -/
def kh : NestedKey → Int
  | .none => reduceHash 0xFCA86420
  | .num i => hashInt i
  | .text _ => 0
  | .tup ks => reduceHash (Builtin.Tuple.tupleHashOf (khs ks))
def khs : List NestedKey → List Int
  | [] => []
  | k :: ks => kh k :: khs ks
end
def ent0 (x : NestedKey × Addr × Value) : DictEntry := ⟨kh x.1, .ref x.2.1, x.2.2⟩
/-- the object o at a is a dict with the entries vs -/
def DctOk (a : Addr) (o : Obj) (vs : List (NestedKey × Addr × V)) (h : Heap) : Prop :=
  h.get? a = some o ∧ o.ExactDict ∧ (a == sysModules) = false ∧ vs.length ≤ sizeLine ∧ (vs.map (·.1)).Nodup ∧
  ∃ es ep, ∃ xs : List (NestedKey × Addr × Value), o.data = .dict es ep ∧ es.toList = xs.map ent0 ∧
    Paired (fun (p : NestedKey × Addr × V) (q : NestedKey × Addr × Value) => p.1 = q.1 ∧ p.2.1 = q.2.1 ∧ RelV p.2.2 q.2.2) vs xs
def DctO (a : Addr) (o : Obj) (vs : List (NestedKey × Addr × V)) : HO := .ext (DctOk a o vs)
theorem dctO_ne_code {a : Addr} {o : Obj} {vs : List (NestedKey × Addr × V)} {q : Str} : DctO a o vs ≠ LamX.CodeO a q := fun z => by
  unfold DctO LamX.CodeO at z
  have z1 := HO.ext.inj z
  let oc : Obj := { cls := .none, data := .fields #[.none, .str q 0] }
  let h : Heap := { objs := (List.replicate (a + 1) oc).toArray }
  have e : h.get? a = some oc := by
    unfold Heap.get?
    have : h.objs[a]? = some oc := by simp [h]
    rw [this]
  have c := congrFun z1 h
  have c2 : DctOk a o vs h := by rw [c]; exact ⟨oc, _, _, e, rfl, rfl⟩
  obtain ⟨c3, _, _, _, _, es, ep, xs, c4, _⟩ := c2
  rw [e] at c3
  have c5 := Option.some.inj c3
  rw [← c5] at c4
  cases c4
def RepK (K : PySem.W.Frag) (S : Hp) (vs : List (Key × V)) (ds : List (Key × D)) : Prop := Paired (fun (p : Key × V) (q : Key × D) => p.1 = q.1 ∧ Rep K S p.2 q.2) vs ds
def RepT (K : PySem.W.Frag) (S : Hp) (vs : List (NestedKey × Addr × V)) (ds : List (D × D)) : Prop :=
  Paired (fun (p : NestedKey × Addr × V) (q : D × D) => nkD q.1 = some p.1 ∧ p.1.depth ≤ 8 ∧ Rep K S (.ref p.2.1) q.1 ∧ Rep K S p.2.2 q.2) vs ds
theorem RepK.mono {K : PySem.W.Frag} {S S' : Hp} {vs : List (Key × V)} {ds : List (Key × D)} (e : Same S S') (r : RepK K S vs ds) : RepK K S' vs ds :=
  Paired.mapP r fun _ _ z => ⟨z.1, z.2.mono e⟩
theorem RepT.mono {K : PySem.W.Frag} {S S' : Hp} {vs : List (NestedKey × Addr × V)} {ds : List (D × D)} (e : Same S S') (r : RepT K S vs ds) : RepT K S' vs ds :=
  Paired.mapP r fun _ _ z => ⟨z.1, z.2.1, z.2.2.1.mono e, z.2.2.2.mono e⟩

/-! ### states -/
def MRep (K : PySem.W.Frag) (S H : Hp) (a : Addr) : MO → Prop
  | .lst ds => ∃ vs, H a = some (.lst vs) ∧ Reps K S vs ds
  | .ins C fs => ∃ dx vfs, H a = some (.ins C dx vfs) ∧ RepF K S vfs fs
  | .tab q => ∃ ps : Array Value, H a = some (.tbl ps) ∧ TriplesOk ps.toList ∧ ∀ (pos : Pos) (cv : Value), codeAmong pos ps.toList = some cv → ∃ c, cv = .ref c ∧ S c = some (LamX.CodeO c q)
  | .dk kvs => ∃ vs, H a = some (.dK vs) ∧ RepK K S vs kvs
  | .dct o kvs => ∃ vs, H a = some (DctO a o vs) ∧ RepT K S vs kvs
/-- nothing is there, or a table -/
def Free (H : Hp) (b : Addr) : Prop := ∀ o, H b = some o → ∃ ps, o = .tbl ps
structure OK (K : PySem.W.Frag) (S : Hp) (μ : MH) (H : Hp) : Prop where
  sub : Same S H
  mts : ∀ a m, μ a = some m → S a = none ∧ MRep K S H a m
  nst : ∀ b ps, S b ≠ some (.tbl ps)
  one : ∀ a b q r, μ a = some (.tab q) → μ b = some (.tab r) → a = b
/-- from (S, μ, H) to (S', μ', H'): what is not tracked by S or μ is kept, but for tables -/
structure Stp (S : Hp) (μ : MH) (H : Hp) (S' : Hp) (μ' : MH) (H' : Hp) : Prop where
  same : Same S S'
  news : ∀ b o, S' b = some o → S b = some o ∨ (Free H b ∨ ∃ m, μ b = some m) ∨ ∃ q, o = LamX.CodeO b q
  keep : ∀ b o, H b = some o → μ b = none → (∀ ps, o ≠ .tbl ps) → H' b = some o
  mus : ∀ b m, μ' b = some m → Free H b ∨ ∃ m, μ b = some m
theorem free_none {H : Hp} {b : Addr} (h : H b = none) : Free H b := fun o e => by rw [h] at e; cases e
theorem free_no {H : Hp} {b : Addr} {o : HO} (f : Free H b) (e : H b = some o) (n : ∀ ps, o ≠ .tbl ps) : False := by
  obtain ⟨ps, z⟩ := f o e
  exact n ps z

section
variable {K : PySem.W.Frag} {S S' S1 S2 H H' H1 H2 : Hp} {μ μ' μ1 μ2 : MH}
theorem Stp.refl : Stp S μ H S μ H := ⟨fun _ _ h => h, fun _ _ h => .inl h, fun _ _ h _ _ => h, fun _ m h => .inr ⟨m, h⟩⟩
theorem Stp.trans (a : Stp S μ H S1 μ1 H1) (b : Stp S1 μ1 H1 S2 μ2 H2) : Stp S μ H S2 μ2 H2 := by
  have nn : ∀ c o, H c = some o → (∀ ps, o ≠ .tbl ps) → μ c = none → μ1 c = none := fun c o h1 n h2 => by
    cases q : μ1 c with
    | none => rfl
    | some m =>
      rcases a.mus c m q with z | ⟨m', z⟩
      · exact (free_no z h1 n).elim
      · rw [h2] at z; cases z
  have dec : ∀ c, Free H1 c → Free H c ∨ ∃ m, μ c = some m := fun c f => by
    cases q : H c with
    | none => exact .inl (free_none q)
    | some o =>
      cases q2 : μ c with
      | none =>
        by_cases n : ∃ ps, o = .tbl ps
        · exact .inl fun o' e' => by rw [q] at e'; cases e'; exact n
        · exact (free_no f (a.keep c o q q2 fun ps z => n ⟨ps, z⟩) fun ps z => n ⟨ps, z⟩).elim
      | some m => exact .inr ⟨m, rfl⟩
  refine ⟨a.same.trans b.same, fun c o h => ?_, fun c o h1 h2 n => b.keep c o (a.keep c o h1 h2 n) (nn c o h1 n h2) n, fun c m h => ?_⟩
  · rcases b.news c o h with z | (z | ⟨m, z⟩) | z
    · exact a.news c o z
    · exact .inr (.inl (dec c z))
    · exact .inr (.inl (a.mus c m z))
    · exact .inr (.inr z)
  · rcases b.mus c m h with z | ⟨m', z⟩
    · exact dec c z
    · exact a.mus c m' z
theorem OK.free {p : Addr} (k : OK K S μ H) (h : H p = none) : S p = none ∧ μ p = none := by
  refine ⟨k.sub.free h, ?_⟩
  cases q : μ p with
  | none => rfl
  | some m =>
    have z := (k.mts p m q).2
    cases m with
    | lst ds => obtain ⟨vs, e, _⟩ := z; rw [h] at e; cases e
    | ins C fs => obtain ⟨dx, vfs, e, _⟩ := z; rw [h] at e; cases e
    | tab q => obtain ⟨ps, e, _⟩ := z; rw [h] at e; cases e
    | dk kvs => obtain ⟨vs, e, _⟩ := z; rw [h] at e; cases e
    | dct o kvs => obtain ⟨vs, e, _⟩ := z; rw [h] at e; cases e
theorem MRep.mono {a : Addr} {m : MO} (e : Same S S') (h : H a = H' a) (r : MRep K S H a m) : MRep K S' H' a m := by
  cases m with
  | lst ds => obtain ⟨vs, e1, r⟩ := r; exact ⟨vs, h ▸ e1, r.mono e⟩
  | ins C fs => obtain ⟨dx, vfs, e1, r⟩ := r; exact ⟨dx, vfs, h ▸ e1, r.mono e⟩
  | tab q =>
    obtain ⟨ps, e1, e2, e3⟩ := r
    refine ⟨ps, h ▸ e1, e2, fun pos cv hc => ?_⟩
    obtain ⟨c, ec, sc⟩ := e3 pos cv hc
    exact ⟨c, ec, e _ _ sc⟩
  | dk kvs => obtain ⟨vs, e1, r⟩ := r; exact ⟨vs, h ▸ e1, r.mono e⟩
  | dct o kvs => obtain ⟨vs, e1, r⟩ := r; exact ⟨vs, h ▸ e1, r.mono e⟩
theorem nst_upd {p : Addr} {o : HO} (k : OK K S μ H) (ho : ∀ ps, o ≠ .tbl ps) : ∀ b ps, upd S p o b ≠ some (.tbl ps) := fun b ps e => by
  by_cases q : b = p
  · subst q
    rw [upd_same] at e
    exact ho ps (Option.some.inj e)
  · rw [upd_ne q] at e
    exact k.nst b ps e
theorem one_upd {p : Addr} {m : MO} (k : OK K S μ H) (hm : ∀ q, m ≠ .tab q) : ∀ a b q r, updM μ p m a = some (.tab q) → updM μ p m b = some (.tab r) → a = b := by
  have ne : ∀ c q, updM μ p m c = some (.tab q) → μ c = some (.tab q) := fun c q e => by
    by_cases z : c = p
    · rw [z, updM_same] at e
      exact absurd (Option.some.inj e) (hm q)
    · rw [updM_ne z] at e
      exact e
  exact fun a b q r ea eb => k.one a b q r (ne a q ea) (ne b r eb)
theorem same_updn {p : Addr} {o : HO} (h : S p = none) : Same S (upd S p o) := fun b x e => by
  rw [upd_ne (ne_of_none e h)]; exact e
/-- a new object that never changes -/
theorem OK.alloc {p : Addr} {o : HO} (k : OK K S μ H) (h : H p = none) (ho : ∀ ps, o ≠ .tbl ps := by intro _ z; cases z) : OK K (upd S p o) μ (upd H p o) ∧ Stp S μ H (upd S p o) μ (upd H p o) := by
  obtain ⟨hS, hM⟩ := k.free h
  refine ⟨⟨fun b x e => ?_, fun a m e => ?_, nst_upd k ho, k.one⟩, ⟨same_updn hS, fun b x e => ?_, fun b x e _ _ => ?_, fun b m e => .inr ⟨m, e⟩⟩⟩
  · by_cases q : b = p
    · subst q; rw [upd_same] at e ⊢; exact e
    · rw [upd_ne q] at e ⊢; exact k.sub b x e
  · have q : a ≠ p := fun z => by rw [z, hM] at e; cases e
    obtain ⟨z1, z2⟩ := k.mts a m e
    exact ⟨by rw [upd_ne q]; exact z1, z2.mono (same_updn hS) (upd_ne q).symm⟩
  · by_cases q : b = p
    · exact .inr (.inl (.inl (q ▸ free_none h)))
    · rw [upd_ne q] at e; exact .inl e
  · rw [upd_ne (ne_of_none e h)]; exact e
/-- a new object that is not looked at -/
theorem OK.hide {p : Addr} {o : HO} (k : OK K S μ H) (h : H p = none) : OK K S μ (upd H p o) := by
  obtain ⟨hS, hM⟩ := k.free h
  refine ⟨fun b x e => ?_, fun a m e => ?_, k.nst, k.one⟩
  · rw [upd_ne (ne_of_none e hS)]; exact k.sub b x e
  · have q : a ≠ p := fun z => by rw [z, hM] at e; cases e
    obtain ⟨z1, z2⟩ := k.mts a m e
    exact ⟨z1, z2.mono (fun _ _ z => z) (upd_ne q).symm⟩
/-- what is neither in S nor in μ may be anything -/
theorem OK.aside {p : Addr} {o : HO} (k : OK K S μ H) (hS : S p = none) (hM : μ p = none) : OK K S μ (upd H p o) := by
  refine ⟨fun b x e => ?_, fun a m e => ?_, k.nst, k.one⟩
  · rw [upd_ne (ne_of_none e hS)]; exact k.sub b x e
  · have q : a ≠ p := fun z => by rw [z, hM] at e; cases e
    obtain ⟨z1, z2⟩ := k.mts a m e
    exact ⟨z1, z2.mono (fun _ _ z => z) (upd_ne q).symm⟩
/-- a changeable object enters, or is changed -/
theorem OK.put {p : Addr} {m : MO} {o : HO} (k : OK K S μ H) (hS : S p = none) (r : MRep K S (upd H p o) p m) (hm : ∀ q, m ≠ .tab q := by intro _ z; cases z) : OK K S (updM μ p m) (upd H p o) := by
  refine ⟨fun b x e => ?_, fun a m' e => ?_, k.nst, one_upd k hm⟩
  · rw [upd_ne (ne_of_none e hS)]; exact k.sub b x e
  · by_cases q : a = p
    · subst q; rw [updM_same] at e; cases e; exact ⟨hS, r⟩
    · rw [updM_ne q] at e
      obtain ⟨z1, z2⟩ := k.mts a m' e
      exact ⟨z1, z2.mono (fun _ _ z => z) (upd_ne q).symm⟩
/-- what is neither in S nor in μ becomes data -/
theorem OK.take {p : Addr} {o : HO} (k : OK K S μ H) (h : H p = some o) (hS : S p = none) (hM : μ p = none) (ho : ∀ ps, o ≠ .tbl ps := by intro _ z; cases z) : OK K (upd S p o) μ H := by
  refine ⟨fun b x e => ?_, fun a m e => ?_, nst_upd k ho, k.one⟩
  · by_cases q : b = p
    · subst q; rw [upd_same] at e; cases e; exact h
    · rw [upd_ne q] at e; exact k.sub b x e
  · have q : a ≠ p := fun z => by rw [z, hM] at e; cases e
    obtain ⟨z1, z2⟩ := k.mts a m e
    exact ⟨by rw [upd_ne q]; exact z1, z2.mono (same_updn hS) rfl⟩
/-- a changeable object becomes data -/
theorem OK.freeze {p : Addr} {m : MO} {o : HO} (k : OK K S μ H) (e : μ p = some m) (h : H p = some o) (hm : ∀ q, m ≠ .tab q := by intro _ z; cases z) : OK K (upd S p o) (delM μ p) H ∧ Stp S μ H (upd S p o) (delM μ p) H := by
  obtain ⟨hS, r⟩ := k.mts p m e
  have ho : ∀ ps, o ≠ .tbl ps := fun ps z => by
    subst z
    cases m with
    | lst ds => obtain ⟨vs, e, _⟩ := r; rw [h] at e; cases e
    | ins C fs => obtain ⟨dx, vfs, e, _⟩ := r; rw [h] at e; cases e
    | tab q => exact hm q rfl
    | dk kvs => obtain ⟨vs, e, _⟩ := r; rw [h] at e; cases e
    | dct o kvs => obtain ⟨vs, e, _⟩ := r; rw [h] at e; unfold DctO at e; cases e
  have ne : ∀ c q, delM μ p c = some (.tab q) → μ c = some (.tab q) := fun c q e => by
    by_cases z : c = p
    · rw [z, delM_same] at e; cases e
    · rw [delM_ne z] at e
      exact e
  have k2 : OK K S (delM μ p) H := ⟨k.sub, fun a m' e' => by
    by_cases q : a = p
    · subst q; rw [delM_same] at e'; cases e'
    · rw [delM_ne q] at e'; exact k.mts a m' e', k.nst, fun a b q r ea eb => k.one a b q r (ne a q ea) (ne b r eb)⟩
  refine ⟨k2.take h hS delM_same ho, same_updn hS, fun b x e' => ?_, fun b x e' _ _ => e', fun b m' e' => ?_⟩
  · by_cases q : b = p
    · exact .inr (.inl (.inr ⟨m, q ▸ e⟩))
    · rw [upd_ne q] at e'; exact .inl e'
  · by_cases q : b = p
    · subst q; rw [delM_same] at e'; cases e'
    · rw [delM_ne q] at e'; exact .inr ⟨m', e'⟩
end

/-! ### environments -/
abbrev EV := List (Option D)
def gt : EV → Nat → Option D
  | [], _ => none
  | x :: _, 0 => x
  | _ :: r, n + 1 => gt r n
def st : EV → Nat → D → EV
  | [], _, _ => []
  | _ :: r, 0, d => some d :: r
  | x :: r, n + 1, d => x :: st r n d
def rm : EV → Nat → EV
  | [], _ => []
  | _ :: r, 0 => none :: r
  | x :: r, n + 1 => x :: rm r n
inductive RepE (K : PySem.W.Frag) (S : Hp) : L2.St → EV → Prop
  | nil : RepE K S [] []
  | no {o : Option V} {σ : L2.St} {ρ : EV} : RepE K S σ ρ → RepE K S (o :: σ) (none :: ρ)
  | so {v : V} {d : D} {σ : L2.St} {ρ : EV} : Rep K S v d → RepE K S σ ρ → RepE K S (some v :: σ) (some d :: ρ)
section
variable {K : PySem.W.Frag} {S S' : Hp}
theorem RepE.mono (e : Same S S') : ∀ {σ : L2.St} {ρ : EV}, RepE K S σ ρ → RepE K S' σ ρ
  | _, _, .nil => .nil
  | _, _, .no r => .no (RepE.mono e r)
  | _, _, .so h r => .so (h.mono e) (RepE.mono e r)
theorem RepE.get : ∀ {σ : L2.St} {ρ : EV} {i : Nat} {d : D}, RepE K S σ ρ → gt ρ i = some d → ∃ v, σ[i]? = some (some v) ∧ Rep K S v d
  | _, _, _, _, .nil, e => by cases e
  | _, _, 0, _, .no r, e => by cases e
  | _, _, i + 1, _, .no r, e => by
    obtain ⟨v, h1, h2⟩ := RepE.get r e
    exact ⟨v, by simpa using h1, h2⟩
  | _, _, 0, _, .so h r, e => by cases e; exact ⟨_, rfl, h⟩
  | _, _, i + 1, _, .so h r, e => by
    obtain ⟨v, h1, h2⟩ := RepE.get r e
    exact ⟨v, by simpa using h1, h2⟩
theorem RepE.set {v : V} {d : D} (h : Rep K S v d) : ∀ {σ : L2.St} {ρ : EV} (i : Nat), RepE K S σ ρ → RepE K S (σ.set i (some v)) (st ρ i d)
  | _, _, _, .nil => .nil
  | _, _, 0, .no r => .so h r
  | _, _, i + 1, .no r => .no (RepE.set h i r)
  | _, _, 0, .so _ r => .so h r
  | _, _, i + 1, .so q r => .so q (RepE.set h i r)
theorem RepE.rm : ∀ {σ : L2.St} {ρ : EV} (i : Nat), RepE K S σ ρ → RepE K S (σ.set i none) (rm ρ i)
  | _, _, _, .nil => .nil
  | _, _, 0, .no r => .no r
  | _, _, i + 1, .no r => .no (RepE.rm i r)
  | _, _, 0, .so _ r => .no r
  | _, _, i + 1, .so q r => .so q (RepE.rm i r)
def rms (ρ : EV) : List Nat → EV
  | [] => ρ
  | v :: vs => L3.rm (rms ρ vs) v
theorem RepE.wipe {σ : L2.St} {ρ : EV} (h : RepE K S σ ρ) : ∀ (vs : List Nat), RepE K S (wipe σ vs) (rms ρ vs)
  | [] => h
  | v :: vs => RepE.rm v (RepE.wipe h vs)
def startD (n : Nat) (ds : List D) : EV := ds.map some ++ List.replicate (n - ds.length) none
theorem repE_blank : ∀ n : Nat, RepE K S (List.replicate n none) (List.replicate n none)
  | 0 => .nil
  | n + 1 => .no (repE_blank n)
theorem repE_vals : ∀ {vs : List V} {ds : List D} {σ : L2.St} {ρ : EV}, Reps K S vs ds → RepE K S σ ρ → RepE K S (vs.map some ++ σ) (ds.map some ++ ρ)
  | _, _, _, _, .nil, h => h
  | _, _, _, _, .cons h r, h2 => .so h (repE_vals r h2)
theorem repE_start {N : List Str} {vs : List V} {ds : List D} (h : Reps K S vs ds) : RepE K S (L2.start N vs) (startD N.length ds) := by
  unfold L2.start startD
  rw [h.length]
  exact repE_vals h (repE_blank _)
end

/-! ### readings -/
abbrev RX := EV → MH → (D → MH → Prop) → Prop
abbrev RT := EV → MH → (Bool → MH → Prop) → Prop
abbrev RA := EV → MH → (List D → MH → Prop) → Prop
structure Ed where
  nx : EV → MH → Prop
  rt : D → MH → Prop
  bk : EV → MH → Prop := fun _ _ => False
  ct : EV → MH → Prop := fun _ _ => False
  /-- an error leaves: its class, its attributes -/
  ex : Addr → List (Str × D) → MH → Prop := fun _ _ _ => False
abbrev RS := Ed → EV → MH → Prop
def up (K : PySem.W.Frag) (f : RX) : TE := fun σ H Q => ∃ S μ ρ R, OK K S μ H ∧ RepE K S σ ρ ∧ f ρ μ R ∧
  ∀ S' μ' H' v d, OK K S' μ' H' → Stp S μ H S' μ' H' → Rep K S' v d → R d μ' → Q v H'
def upT (K : PySem.W.Frag) (f : RT) : TT := fun σ H Q => ∃ S μ ρ R, OK K S μ H ∧ RepE K S σ ρ ∧ f ρ μ R ∧
  ∀ S' μ' H' b, OK K S' μ' H' → Stp S μ H S' μ' H' → R b μ' → Q b H'
def upA (K : PySem.W.Frag) (f : RA) : TA := fun σ H Q => ∃ S μ ρ R, OK K S μ H ∧ RepE K S σ ρ ∧ f ρ μ R ∧
  ∀ S' μ' H' vs ds, OK K S' μ' H' → Stp S μ H S' μ' H' → Reps K S' vs ds → R ds μ' → Q vs H'
structure Lk (K : PySem.W.Frag) (S : Hp) (μ : MH) (H : Hp) (D : Ends) (DD : Ed) : Prop where
  nx : ∀ S' μ' H' σ' ρ', OK K S' μ' H' → Stp S μ H S' μ' H' → RepE K S' σ' ρ' → DD.nx ρ' μ' → D.nx σ' H'
  rt : ∀ S' μ' H' v d, OK K S' μ' H' → Stp S μ H S' μ' H' → Rep K S' v d → DD.rt d μ' → D.rt v H'
  bk : ∀ S' μ' H' σ' ρ', OK K S' μ' H' → Stp S μ H S' μ' H' → RepE K S' σ' ρ' → DD.bk ρ' μ' → D.bk σ' H'
  ct : ∀ S' μ' H' σ' ρ', OK K S' μ' H' → Stp S μ H S' μ' H' → RepE K S' σ' ρ' → DD.ct ρ' μ' → D.ct σ' H'
theorem Lk.stp {K : PySem.W.Frag} {S S' H H' : Hp} {μ μ' : MH} {D : Ends} {DD : Ed} (l : Lk K S μ H D DD) (s : Stp S μ H S' μ' H') : Lk K S' μ' H' D DD :=
  ⟨fun _ _ _ _ _ k s2 => l.nx _ _ _ _ _ k (s.trans s2), fun _ _ _ _ _ k s2 => l.rt _ _ _ _ _ k (s.trans s2), fun _ _ _ _ _ k s2 => l.bk _ _ _ _ _ k (s.trans s2), fun _ _ _ _ _ k s2 => l.ct _ _ _ _ _ k (s.trans s2)⟩
def upS (K : PySem.W.Frag) (f : RS) : TS := fun D σ H => ∃ S μ ρ DD, OK K S μ H ∧ RepE K S σ ρ ∧ f DD ρ μ ∧ Lk K S μ H D DD
abbrev DE (X : Cx) (e : Expr) (f : RX) : Prop := PE X e (up X.K f)
abbrev DT (X : Cx) (e : Expr) (f : RT) : Prop := PT X e (upT X.K f)
abbrev DW (X : Cx) (e : Expr) (f : RT) : Prop := PW X e (upT X.K f)
abbrev DA (X : Cx) (es : List Expr) (f : RA) : Prop := PA X es (upA X.K f)
abbrev DS (X : Cx) (s : Stmt) (f : RS) : Prop := PS X s (upS X.K f)
abbrev DSs (X : Cx) (s : List Stmt) (f : RS) : Prop := PSs X s (upS X.K f)
section
variable {X : Cx}
theorem pe_imp {e : Expr} {t u : TE} (h : PE X e t) (i : ∀ σ H Q, u σ H Q → t σ H Q) : PE X e u := ⟨fun pins s σ H Q I q => h.run pins s σ H Q I (i σ H Q q)⟩
theorem pt_imp {e : Expr} {t u : TT} (h : PT X e t) (i : ∀ σ H Q, u σ H Q → t σ H Q) : PT X e u := ⟨fun pins s σ H Q I q => h.run pins s σ H Q I (i σ H Q q)⟩
theorem pw_imp {e : Expr} {t u : TT} (h : PW X e t) (i : ∀ σ H Q, u σ H Q → t σ H Q) : PW X e u := ⟨fun w pins s σ H Q I q => h.run w pins s σ H Q I (i σ H Q q)⟩
theorem pa_imp {es : List Expr} {t u : TA} (h : PA X es t) (i : ∀ σ H Q, u σ H Q → t σ H Q) : PA X es u := ⟨fun pos pins s σ H Q I q => h.run pos pins s σ H Q I (i σ H Q q)⟩
theorem ps_imp {st : Stmt} {t u : TS} (h : PS X st t) (i : ∀ D σ H, u D σ H → t D σ H) : PS X st u := ⟨fun pins s σ H D I q => h.run pins s σ H D I (i D σ H q)⟩
theorem pss_imp {st : List Stmt} {t u : TS} (h : PSs X st t) (i : ∀ D σ H, u D σ H → t D σ H) : PSs X st u := ⟨fun pins s σ H D I q => h.run pins s σ H D I (i D σ H q)⟩
end
end L3

/-! ## L3b -/
set_option Elab.async false
set_option linter.all false
set_option maxRecDepth 100000
set_option maxHeartbeats 4000000
namespace L3
open PySem PySem.Spec PyProof.Rows L2

/-! ### sizes -/
/-- below 2 ^ n in size -/
def Bt (n : Nat) (i : Int) : Prop := i.natAbs < 2 ^ n
abbrev big : Nat := 8000
theorem Bt.log2 {n : Nat} {i : Int} (h : Bt n i) (h0 : 0 < n) : i.natAbs.log2 < n := PySem.Flt.log2_lt_of h0 h
def CBig (i j : Int) : Prop := Bt big i ∧ Bt big j
def CDivX (_ j : Int) : Prop := j ≠ 0 ∧ Bt big j
theorem op_mulX {X : Cx} : OpR X (binaryOp .Mult) (rI CBig fun i j => .int (i * j)) := opI fun i j _ _ _ _ _ hc q => mul_int q (CMulW.ok (by
  have h1 := hc.1.log2 (by decide)
  have h2 := hc.2.log2 (by decide)
  have h3 : big = 8000 := rfl
  unfold CMulW
  omega))
theorem op_fdivX {X : Cx} : OpR X (binaryOp .FloorDiv) (rI CDivX fun i j => .int (i.fdiv j)) := opI fun i j _ _ _ _ _ hc q => floordiv_int hc.1 q (.inl (PyProof.noPylong_of_log2 (Nat.lt_trans (hc.2.log2 (by decide)) (by decide))))

/-! ### what is seen through a changeable list -/
def res (μ : MH) : D → D
  | .ref p => match μ p with
    | some (.lst ds) => .lst ds
    | _ => .ref p
  | d => d
section
variable {K : PySem.W.Frag} {S H : Hp} {μ : MH}
/-- the data d as the value v has it now, in H -/
theorem res_lst {v : V} {d : D} {ds : List D} (k : OK K S μ H) (r : Rep K S v d) (e : res μ d = .lst ds) : ∃ p vs, v = .ref p ∧ H p = some (.lst vs) ∧ Reps K S vs ds := by
  cases r with
  | ref p =>
    unfold res at e
    dsimp only at e
    cases q : μ p with
    | none => rw [q] at e; cases e
    | some m =>
      rw [q] at e
      cases m with
      | lst es =>
        cases e
        obtain ⟨_, vs, h, r⟩ := k.mts p _ q
        exact ⟨p, vs, rfl, h, r⟩
      | ins C fs => cases e
      | tab _ => cases e
      | dk _ => cases e
      | dct _ _ => cases e
  | lst h r => cases e; exact ⟨_, _, rfl, k.sub _ _ h, r⟩
  | _ => cases e
theorem res_tup {v : V} {d : D} {ds : List D} (r : Rep K S v d) (e : res μ d = .tup ds) : d = .tup ds := by
  cases r with
  | ref p =>
    unfold res at e
    dsimp only at e
    cases q : μ p with
    | none => rw [q] at e; cases e
    | some m =>
      rw [q] at e
      cases m <;> cases e
  | _ => exact e
theorem Rep.toTup {v : V} {ds : List D} (r : Rep K S v (.tup ds)) : ∃ p vs, v = .ref p ∧ SqT K S p vs ∧ Reps K S vs ds := by
  cases r with
  | tup h r => exact ⟨_, _, rfl, h, r⟩
theorem Rep.toInt {v : V} {i : Int} (r : Rep K S v (.int i)) : v = .int i := by cases r; rfl
theorem Rep.toBl {v : V} {i : Bool} (r : Rep K S v (.bl i)) : v = .bl i := by cases r; rfl
theorem Rep.toStr {v : V} {i : Str} (r : Rep K S v (.str i)) : v = .str i := by cases r; rfl
theorem Rep.toNon {v : V} (r : Rep K S v .non) : v = .non := by cases r; rfl
theorem Rep.toRef {v : V} {a : Addr} (r : Rep K S v (.ref a)) : v = .ref a := by cases r; rfl
/-- a list or tuple that may be read: its items -/
def seqD : D → Option (List D)
  | .lst ds => some ds
  | .tup ds => some ds
  | _ => none
theorem seq_rep {v : V} {d : D} {ds : List D} (k : OK K S μ H) (r : Rep K S v d) (e : seqD (res μ d) = some ds) : ∃ p vs, v = .ref p ∧ (SqL K H p vs ∨ SqT K H p vs) ∧ Reps K S vs ds := by
  cases q : res μ d with
  | lst es =>
    rw [q] at e; cases e
    obtain ⟨p, vs, h1, h2, h3⟩ := res_lst k r q
    exact ⟨p, vs, h1, .inl (.of h2), h3⟩
  | tup es =>
    rw [q] at e; cases e
    have z := res_tup r q
    subst z
    obtain ⟨p, vs, h1, h2, h3⟩ := r.toTup
    exact ⟨p, vs, h1, .inr (sqT_same k.sub h2), h3⟩
  | _ => rw [q] at e; cases e
end

/-! ### pure data: == -/
mutual
def toPy : D → PyData
  | .bl b => .bool b
  | .int i => .int i
  | .str x => .str x
  | .tup ds => .tuple (toPys ds)
  | .lst ds => .list (toPys ds)
  | _ => .none
def toPys : List D → List PyData
  | [] => []
  | d :: r => toPy d :: toPys r
end
def pureN : Nat → D → Bool
  | _, .non => true
  | _, .bl _ => true
  | _, .int _ => true
  | _, .str x => PyData.strOk x
  | n + 1, .tup ds => ds.all (pureN n)
  | n + 1, .lst ds => ds.all (pureN n)
  | _, _ => false
/-- == of pure data -/
def deq (a b : D) : Bool := PyData.eqv (toPy a) (toPy b)
theorem deq_int (i j : Int) : deq (.int i) (.int j) = (i == j) := rfl
theorem deq_bl (i j : Bool) : deq (.bl i) (.bl j) = (i == j) := rfl
theorem deq_str (i j : Str) : deq (.str i) (.str j) = (i == j) := rfl
theorem deq_non : deq .non .non = true := rfl
theorem deq_tt (a b : D) (as bs : List D) : deq (.tup (a :: as)) (.tup (b :: bs)) = (deq a b && deq (.tup as) (.tup bs)) := rfl
theorem deq_t0 : deq (.tup []) (.tup []) = true := rfl
theorem deq_ll (a b : D) (as bs : List D) : deq (.lst (a :: as)) (.lst (b :: bs)) = (deq a b && deq (.lst as) (.lst bs)) := rfl
section
variable {K : PySem.W.Frag} {S H : Hp}
theorem pure_laid : ∀ (n : Nat) (d : D), pureN n d = true → (toPy d).canLay0 = true ∧ (toPy d).depth ≤ n := by
  intro n
  induction n with
  | zero =>
    intro d h
    cases d <;> first | exact ⟨rfl, Nat.le_refl _⟩ | exact ⟨h, Nat.le_refl _⟩ | cases h
  | succ n ih =>
    have all : ∀ ds : List D, ds.all (pureN n) = true → PyData.canLayAll0 (toPys ds) = true ∧ PyData.depthAll (toPys ds) ≤ n := by
      intro ds
      induction ds with
      | nil => intro _; exact ⟨rfl, Nat.zero_le _⟩
      | cons d r ihr =>
        intro h
        rw [List.all_cons, Bool.and_eq_true] at h
        obtain ⟨a1, a2⟩ := ih d h.1
        obtain ⟨b1, b2⟩ := ihr h.2
        refine ⟨?_, ?_⟩
        · show (PyData.canLay0 (toPy d) && PyData.canLayAll0 (toPys r)) = true
          rw [a1, b1]; rfl
        · show max (PyData.depth (toPy d)) (PyData.depthAll (toPys r)) ≤ n
          omega
    intro d h
    cases d with
    | tup ds =>
      obtain ⟨h1, h2⟩ := all ds h
      exact ⟨h1, Nat.succ_le_succ h2⟩
    | lst ds =>
      obtain ⟨h1, h2⟩ := all ds h
      exact ⟨h1, Nat.succ_le_succ h2⟩
    | non => exact ⟨rfl, Nat.zero_le _⟩
    | bl b => exact ⟨rfl, Nat.zero_le _⟩
    | int i => exact ⟨rfl, Nat.zero_le _⟩
    | str x => exact ⟨h, Nat.zero_le _⟩
    | _ => cases h
theorem pure_shaped {n : Nat} {d : D} (h : pureN n d = true) (hn : n ≤ 64) : SeqAt.shaped (toPy d) = true := by
  obtain ⟨h1, h2⟩ := pure_laid n d h
  exact Bool.and_eq_true_iff.mpr ⟨h1, decide_eq_true (Nat.le_trans h2 hn)⟩
mutual
theorem Rep.dp : ∀ {n : Nat} {v : V} {d : D}, Rep K S v d → pureN n d = true → Dp K S v (toPy d)
  | _, _, _, .non, _ => .non
  | _, _, _, .bl b, _ => .bl b
  | _, _, _, .int i, _ => .int i
  | _, _, _, .str x, _ => .str x
  | n + 1, _, _, .tup h r, p => .tup h (Reps.dp (n := n) r p)
  | n + 1, _, _, .lst h r, p => .lst (.of h) (Reps.dp (n := n) r p)
  | 0, _, _, .tup h r, p => by cases p
  | 0, _, _, .lst h r, p => by cases p
  | 0, _, _, .ins h r, p => by cases p
  | n + 1, _, _, .ins h r, p => by cases p
  | 0, _, _, .scr h r, p => by cases p
  | n + 1, _, _, .scr h r, p => by cases p
  | 0, _, _, .ref a, p => by cases p
  | n + 1, _, _, .ref a, p => by cases p
  | 0, _, _, .ty a, p => by cases p
  | n + 1, _, _, .ty a, p => by cases p
theorem Reps.dp : ∀ {n : Nat} {vs : List V} {ds : List D}, Reps K S vs ds → ds.all (pureN n) = true → DpAll K S vs (toPys ds)
  | _, _, _, .nil, _ => .nil
  | n, _, _, .cons h r, p => by
    rw [List.all_cons, Bool.and_eq_true] at p
    exact .cons (Rep.dp h p.1) (Reps.dp r p.2)
end
mutual
theorem Dp.same {S' : Hp} (e : Same S S') : ∀ {v : V} {d : PyData}, Dp K S v d → Dp K S' v d
  | _, _, .non => .non
  | _, _, .bl b => .bl b
  | _, _, .int b => .int b
  | _, _, .str b => .str b
  | _, _, .lst h r => .lst (sqL_same e h) (DpAll.same e r)
  | _, _, .tup h r => .tup (sqT_same e h) (DpAll.same e r)
theorem DpAll.same {S' : Hp} (e : Same S S') : ∀ {v : List V} {d : List PyData}, DpAll K S v d → DpAll K S' v d
  | _, _, .nil => .nil
  | _, _, .cons h r => .cons (Dp.same e h) (DpAll.same e r)
end
theorem res_dp {μ : MH} {n : Nat} {v : V} {d : D} (k : OK K S μ H) (r : Rep K S v d) (p : pureN n (res μ d) = true) : Dp K H v (toPy (res μ d)) := by
  cases q : res μ d with
  | lst ds =>
    obtain ⟨a, vs, rfl, h, r2⟩ := res_lst k r q
    rw [q] at p
    cases n with
    | zero => cases p
    | succ n => exact .lst (.of h) (DpAll.same k.sub (Reps.dp (n := n) r2 p))
  | _ =>
    rw [← q]
    have e : res μ d = d := by
      cases d with
      | ref a =>
        unfold res at q ⊢
        dsimp only at q ⊢
        cases w : μ a with
        | none => rfl
        | some m => rw [w] at q; cases m <;> first | rfl | cases q
      | _ => rfl
    rw [e] at p ⊢
    exact Dp.same k.sub (r.dp p)
end

/-! ### values by values -/
abbrev G2 := D → D → MH → (D → MH → Prop) → Prop
abbrev G1 := D → MH → (D → MH → Prop) → Prop
abbrev GN := List D → MH → (D → MH → Prop) → Prop
abbrev Pst (K : PySem.W.Frag) (S : Hp) (μ : MH) (H : Hp) (R : D → MH → Prop) (Q : VK) : Prop := ∀ S' μ' H' v d, OK K S' μ' H' → Stp S μ H S' μ' H' → Rep K S' v d → R d μ' → Q v H'
def Snd2 (K : PySem.W.Frag) (r : R2) (g : G2) : Prop := ∀ S μ H x y dx dy R Q, OK K S μ H → Rep K S x dx → Rep K S y dy → g dx dy μ R → Pst K S μ H R Q → r x y H Q
def Snd1 (K : PySem.W.Frag) (r : V → Hp → VK → Prop) (g : G1) : Prop := ∀ S μ H x dx R Q, OK K S μ H → Rep K S x dx → g dx μ R → Pst K S μ H R Q → r x H Q
def SndN (K : PySem.W.Frag) (r : List V → Hp → VK → Prop) (g : GN) : Prop := ∀ S μ H xs dxs R Q, OK K S μ H → Reps K S xs dxs → g dxs μ R → Pst K S μ H R Q → r xs H Q
def rOp (g : G2) (fa fb : RX) : RX := fun ρ μ R => fa ρ μ fun x μ1 => fb ρ μ1 fun y μ2 => g x y μ2 R
def rUn (g : G1) (fa : RX) : RX := fun ρ μ R => fa ρ μ fun x μ1 => g x μ1 R
def rCl (g : GN) (fa : RA) : RX := fun ρ μ R => fa ρ μ fun xs μ1 => g xs μ1 R
section
variable {K : PySem.W.Frag}
theorem up_op {r : R2} {g : G2} (s : Snd2 K r g) {fa fb : RX} : ∀ σ H Q, up K (rOp g fa fb) σ H Q → tOp r (up K fa) (up K fb) σ H Q := by
  rintro σ H Q ⟨S, μ, ρ, R, k, e, h, post⟩
  refine ⟨S, μ, ρ, _, k, e, h, fun S1 μ1 H1 v1 d1 k1 s1 r1 h1 => ?_⟩
  refine ⟨S1, μ1, ρ, _, k1, e.mono s1.same, h1, fun S2 μ2 H2 v2 d2 k2 s2 r2 h2 => ?_⟩
  exact s S2 μ2 H2 v1 v2 d1 d2 R Q k2 (r1.mono s2.same) r2 h2 fun S3 μ3 H3 v d k3 s3 r3 h3 => post S3 μ3 H3 v d k3 ((s1.trans s2).trans s3) r3 h3
theorem up_un {r : V → Hp → VK → Prop} {g : G1} (s : Snd1 K r g) {fa : RX} : ∀ σ H Q, up K (rUn g fa) σ H Q → tUn r (up K fa) σ H Q := by
  rintro σ H Q ⟨S, μ, ρ, R, k, e, h, post⟩
  refine ⟨S, μ, ρ, _, k, e, h, fun S1 μ1 H1 v1 d1 k1 s1 r1 h1 => ?_⟩
  exact s S1 μ1 H1 v1 d1 R Q k1 r1 h1 fun S3 μ3 H3 v d k3 s3 r3 h3 => post S3 μ3 H3 v d k3 (s1.trans s3) r3 h3
theorem up_cl {r : List V → Hp → VK → Prop} {g : GN} (s : SndN K r g) {fa : RA} : ∀ σ H Q, up K (rCl g fa) σ H Q → tCB r (upA K fa) σ H Q := by
  rintro σ H Q ⟨S, μ, ρ, R, k, e, h, post⟩
  refine ⟨S, μ, ρ, _, k, e, h, fun S1 μ1 H1 v1 d1 k1 s1 r1 h1 => ?_⟩
  exact s S1 μ1 H1 v1 d1 R Q k1 r1 h1 fun S3 μ3 H3 v d k3 s3 r3 h3 => post S3 μ3 H3 v d k3 (s1.trans s3) r3 h3
end

/-! ### names, constants -/
def rVar (i : Nat) : RX := fun ρ μ R => match gt ρ i with
  | some d => R d μ
  | none => False
def rC (d : D) : RX := fun _ μ R => R d μ
/-- the list in slot i becomes data -/
def frz (d : D) (μ : MH) (R : D → MH → Prop) : Prop := match d with
  | .ref p => (match μ p with
    | some (.lst ds) => R (.lst ds) (delM μ p)
    | _ => R d μ)
  | _ => R d μ
def rFrz (f : RX) : RX := fun ρ μ R => f ρ μ fun d μ1 => frz d μ1 R
section
variable {X : Cx}
theorem de_var (i : Nat) {x : Str} {pos : Pos} (hN : X.N[i]? = some x := by rfl) (hv : Vis X.env.scope x := by first | exact Or.inl rfl | exact Or.inr (Or.inl rfl) | exact Or.inr (Or.inr rfl)) (hd : (x == ("__debug__" : Str)) = false := by decide)
    (hcd : (x == ("__classdict__" : Str)) = false := by decide) : DE X (.Name x pos) (rVar i) := pe_imp (pe_var hN hv hd hcd) fun σ H Q ⟨S, μ, ρ, R, k, e, h, post⟩ => by
  unfold rVar at h
  cases q : gt ρ i with
  | none => rw [q] at h; exact h.elim
  | some d =>
    rw [q] at h
    obtain ⟨v, h1, h2⟩ := e.get q
    exact ⟨v, h1, post S μ H v d k .refl h2 h⟩
theorem up_c {K : PySem.W.Frag} {v : V} {d : D} (r : ∀ S, Rep K S v d) : ∀ σ H Q, up K (rC d) σ H Q → tC v σ H Q := fun σ H Q ⟨S, μ, ρ, R, k, e, h, post⟩ => post S μ H v d k .refl (r S) h
theorem de_int {i j pos} : DE X (.Constant (.int i) j pos) (rC (.int i)) := pe_imp pe_int (up_c fun _ => .int i)
theorem de_bl {b j pos} : DE X (.Constant (.bool b) j pos) (rC (.bl b)) := pe_imp pe_bl (up_c fun _ => .bl b)
theorem de_non {j pos} : DE X (.Constant .none j pos) (rC .non) := pe_imp pe_non (up_c fun _ => .non)
theorem de_str {x j pos} : DE X (.Constant (.str x) j pos) (rC (.str x)) := pe_imp pe_str (up_c fun _ => .str x)
theorem de_glob {x : Str} {v : V} {d : D} {u : Value} {pos : Pos} (hg : Gl X x) (hm : X.mg x = some u) (r : RelV v u) (q : ∀ S, Rep X.K S v d) (hd : (x == ("__debug__" : Str)) = false := by decide) : DE X (.Name x pos) (rC d) :=
  pe_imp (pe_glob hg hm r hd) (up_c q)
theorem de_ty {x : Str} {n : String} {pos : Pos} (hg : Gl X x) (hm : X.mg x = none) (hv : bootBuiltins x = some (.type n)) (hn : x ≠ "__name__" := by decide) (hd : (x == ("__debug__" : Str)) = false := by decide) : DE X (.Name x pos) (rC (.ty n)) :=
  pe_imp (pe_bltn (v := .ty n) hg hm hv rfl hn hd) (up_c fun _ => .ty n)
theorem de_frz {e : Expr} {f : RX} (h : DE X e f) : DE X e (rFrz f) := pe_imp h fun σ H Q ⟨S, μ, ρ, R, k, e, h, post⟩ => by
  refine ⟨S, μ, ρ, _, k, e, h, fun S1 μ1 H1 v1 d1 k1 s1 r1 h1 => ?_⟩
  cases d1 with
  | ref p =>
    cases q : μ1 p with
    | none =>
      have h1 : R (.ref p) μ1 := by
        unfold frz at h1; dsimp only at h1; rw [q] at h1; exact h1
      exact post S1 μ1 H1 v1 _ k1 s1 r1 h1
    | some m =>
      cases m with
      | lst ds =>
        have h1 : R (.lst ds) (delM μ1 p) := by
          unfold frz at h1; dsimp only at h1; rw [q] at h1; exact h1
        obtain ⟨_, vs, e1, r2⟩ := k1.mts p _ q
        obtain ⟨k2, s2⟩ := k1.freeze q e1
        cases r1.toRef
        exact post _ _ H1 _ _ k2 (s1.trans s2) (.lst upd_same (r2.mono s2.same)) h1
      | ins C fs =>
        have h1 : R (.ref p) μ1 := by
          unfold frz at h1; dsimp only at h1; rw [q] at h1; exact h1
        exact post S1 μ1 H1 v1 _ k1 s1 r1 h1
      | tab _ =>
        have h1 : R (.ref p) μ1 := by
          unfold frz at h1; dsimp only at h1; rw [q] at h1; exact h1
        exact post S1 μ1 H1 v1 _ k1 s1 r1 h1
      | dk _ =>
        have h1 : R (.ref p) μ1 := by
          unfold frz at h1; dsimp only at h1; rw [q] at h1; exact h1
        exact post S1 μ1 H1 v1 _ k1 s1 r1 h1
      | dct _ _ =>
        have h1 : R (.ref p) μ1 := by
          unfold frz at h1; dsimp only at h1; rw [q] at h1; exact h1
        exact post S1 μ1 H1 v1 _ k1 s1 r1 h1
  | _ => exact post S1 μ1 H1 v1 _ k1 s1 r1 h1
end

/-! ### operators -/
def gI (c : Int → Int → Prop) (f : Int → Int → D) : G2 := fun x y μ R => match x, y with
  | .int i, .int j => c i j ∧ R (f i j) μ
  | _, _ => False
def gI0 (f : Int → Int → D) : G2 := fun x y μ R => match x, y with
  | .int i, .int j => R (f i j) μ
  | _, _ => False
def gU (f : Int → D) : G1 := fun x μ R => match x with
  | .int i => R (f i) μ
  | _ => False
theorem snd_I {K : PySem.W.Frag} {c : Int → Int → Prop} {f : Int → Int → D} {g : Int → Int → V} (h : ∀ i j S, Rep K S (g i j) (f i j)) : Snd2 K (rI c g) (gI c f) := by
  intro S μ H x y dx dy R Q k rx ry q post
  cases dx <;> cases dy <;> first | exact False.elim q | skip
  cases rx.toInt
  cases ry.toInt
  exact ⟨_, _, rfl, rfl, q.1, post S μ H _ _ k .refl (h _ _ S) q.2⟩
theorem snd_I0 {K : PySem.W.Frag} {f : Int → Int → D} {g : Int → Int → V} (h : ∀ i j S, Rep K S (g i j) (f i j)) : Snd2 K (rI0 g) (gI0 f) := by
  intro S μ H x y dx dy R Q k rx ry q post
  cases dx <;> cases dy <;> first | exact False.elim q | skip
  cases rx.toInt
  cases ry.toInt
  exact ⟨_, _, rfl, rfl, post S μ H _ _ k .refl (h _ _ S) q⟩
def gAdd : G2 := fun x y μ R => match x, y with
  | .int i, .int j => R (.int (i + j)) μ
  | .str i, .str j => i.length + j.length ≤ sizeLine ∧ R (.str (i ++ j)) μ
  | .tup a, .tup b => a.length + b.length ≤ sizeLine ∧ R (.tup (a ++ b)) μ
  | _, _ => match res μ x, res μ y with
    | .lst a, .lst b => a.length + b.length ≤ sizeLine ∧ R (.lst (a ++ b)) μ
    | _, _ => False
/-- the new list may be changed later -/
def gAddM : G2 := fun x y μ R => match res μ x, res μ y with
    | .lst a, .lst b => a.length + b.length ≤ sizeLine ∧ ∀ p, μ p = none → R (.ref p) (updM μ p (.lst (a ++ b)))
    | _, _ => False
section
variable {K : PySem.W.Frag} {X : Cx} {a b : Expr} {fa fb : RX} {pos : Pos}
theorem snd_cat : Snd2 K (rCatA K) (fun x y μ R => match x, y with
  | .tup a, .tup b => a.length + b.length ≤ sizeLine ∧ R (.tup (a ++ b)) μ
  | _, _ => False) := by
  intro S μ H x y dx dy R Q k rx ry q post
  cases dx <;> cases dy <;> first | exact False.elim q | skip
  obtain ⟨a, vs, rfl, h1, r1⟩ := rx.toTup
  obtain ⟨b, ws, rfl, h2, r2⟩ := ry.toTup
  obtain ⟨q1, q⟩ := q
  refine ⟨a, b, vs, ws, rfl, rfl, sqT_same k.sub h1, sqT_same k.sub h2, by rw [r1.length, r2.length]; exact q1, fun e => ?_, fun _ e => ?_, fun _ _ p hp => ?_⟩
  · subst e
    cases r1
    exact post S μ H _ _ k .refl ry q
  · subst e
    cases r2
    rw [List.append_nil] at q
    exact post S μ H _ _ k .refl rx q
  · obtain ⟨k2, s2⟩ := k.alloc (o := .tup (vs ++ ws)) hp
    exact post _ μ _ _ _ k2 s2 (.tup (.of upd_same) ((r1.append r2).mono s2.same)) q
theorem snd_catL : Snd2 K rCat (fun x y μ R => match res μ x, res μ y with
    | .lst a, .lst b => a.length + b.length ≤ sizeLine ∧ R (.lst (a ++ b)) μ
    | _, _ => False) := by
  intro S μ H x y dx dy R Q k rx ry q post
  cases e1 : res μ dx <;> rw [e1] at q <;> first | exact False.elim q | skip
  cases e2 : res μ dy <;> rw [e2] at q <;> first | exact False.elim q | skip
  obtain ⟨a, vs, rfl, h1, r1⟩ := res_lst k rx e1
  obtain ⟨b, ws, rfl, h2, r2⟩ := res_lst k ry e2
  obtain ⟨q1, q⟩ := q
  refine ⟨a, b, vs, ws, rfl, rfl, h1, h2, by rw [r1.length, r2.length]; exact q1, fun p hp => ?_⟩
  obtain ⟨k2, s2⟩ := k.alloc (o := .lst (vs ++ ws)) hp
  exact post _ μ _ _ _ k2 s2 (.lst upd_same ((r1.append r2).mono s2.same)) q
/-- a new changeable list -/
theorem OK.newM {S H : Hp} {μ : MH} {p : Addr} {vs : List V} {ds : List D} (k : OK K S μ H) (hp : H p = none) (r : Reps K S vs ds) : OK K S (updM μ p (.lst ds)) (upd H p (.lst vs)) ∧ Stp S μ H S (updM μ p (.lst ds)) (upd H p (.lst vs)) := by
  obtain ⟨hS, hM⟩ := k.free hp
  refine ⟨k.put hS ⟨vs, upd_same, r⟩, fun _ _ h => h, fun _ _ h => .inl h, fun b o e _ _ => ?_, fun b m e => ?_⟩
  · rw [upd_ne (ne_of_none e hp)]; exact e
  · by_cases q : b = p
    · exact .inl (q ▸ free_none hp)
    · rw [updM_ne q] at e; exact .inr ⟨m, e⟩
theorem snd_catLM : Snd2 K rCat gAddM := by
  intro S μ H x y dx dy R Q k rx ry q post
  unfold gAddM at q
  cases e1 : res μ dx <;> rw [e1] at q <;> first | exact False.elim q | skip
  cases e2 : res μ dy <;> rw [e2] at q <;> first | exact False.elim q | skip
  obtain ⟨a, vs, rfl, h1, r1⟩ := res_lst k rx e1
  obtain ⟨b, ws, rfl, h2, r2⟩ := res_lst k ry e2
  obtain ⟨q1, q⟩ := q
  refine ⟨a, b, vs, ws, rfl, rfl, h1, h2, by rw [r1.length, r2.length]; exact q1, fun p hp => ?_⟩
  obtain ⟨k2, s2⟩ := k.newM hp (r1.append r2)
  exact post _ _ _ _ _ k2 s2 (.ref p) (q p (k.free hp).2)
theorem snd_addstr : Snd2 K (fun x y H Q => ∃ i j, x = .str i ∧ y = .str j ∧ i.length + j.length ≤ sizeLine ∧ Q (.str (i ++ j)) H) (fun x y μ R => match x, y with
  | .str i, .str j => i.length + j.length ≤ sizeLine ∧ R (.str (i ++ j)) μ
  | _, _ => False) := by
  intro S μ H x y dx dy R Q k rx ry q post
  cases dx <;> cases dy <;> first | exact False.elim q | skip
  cases rx.toStr
  cases ry.toStr
  exact ⟨_, _, rfl, rfl, q.1, post S μ H _ _ k .refl (.str _) q.2⟩
theorem de_op {op : Operator} {r : R2} {g : G2} (ho : OpR X (binaryOp op) r) (s : Snd2 X.K r g) (ha : DE X a fa) (hb : DE X b fb) : DE X (.BinOp a op b pos) (rOp g fa fb) := pe_imp (pe_op ho ha hb) (up_op s)
theorem snd_add : Snd2 K (fun x y H Q => rI0 (fun i j => .int (i + j)) x y H Q ∨ (∃ i j, x = .str i ∧ y = .str j ∧ i.length + j.length ≤ sizeLine ∧ Q (.str (i ++ j)) H) ∨ rCatA K x y H Q ∨ rCat x y H Q) gAdd := by
  intro S μ H x y dx dy R Q k rx ry q post
  cases dx with
  | int i =>
    cases dy with
    | int j => exact .inl (snd_I0 (fun i j S => .int (i + j)) S μ H x y _ _ R Q k rx ry q post)
    | _ => exact .inr (.inr (.inr (snd_catL S μ H x y _ _ R Q k rx ry q post)))
  | str i =>
    cases dy with
    | str j => exact .inr (.inl (snd_addstr S μ H x y _ _ R Q k rx ry q post))
    | _ => exact .inr (.inr (.inr (snd_catL S μ H x y _ _ R Q k rx ry q post)))
  | tup i =>
    cases dy with
    | tup j => exact .inr (.inr (.inl (snd_cat S μ H x y _ _ R Q k rx ry q post)))
    | _ => exact .inr (.inr (.inr (snd_catL S μ H x y _ _ R Q k rx ry q post)))
  | _ => exact .inr (.inr (.inr (snd_catL S μ H x y _ _ R Q k rx ry q post)))
theorem de_add (ha : DE X a fa) (hb : DE X b fb) : DE X (.BinOp a .Add b pos) (rOp gAdd fa fb) := de_op (op_add.or (op_add_str.or (op_catA.or op_cat))) snd_add ha hb
theorem de_addM (ha : DE X a fa) (hb : DE X b fb) : DE X (.BinOp a .Add b pos) (rOp gAddM fa fb) := de_op op_cat snd_catLM ha hb
abbrev gSub : G2 := gI0 fun i j => .int (i - j)
abbrev gMul : G2 := gI CBig fun i j => .int (i * j)
abbrev gDiv : G2 := gI CDivX fun i j => .int (i.fdiv j)
abbrev gMod : G2 := gI (fun _ j => j ≠ 0) fun i j => .int (i.fmod j)
abbrev gPow : G2 := gI CPow fun i j => .int (i ^ j.toNat)
theorem de_sub (ha : DE X a fa) (hb : DE X b fb) : DE X (.BinOp a .Sub b pos) (rOp gSub fa fb) := de_op op_sub (snd_I0 fun i j S => .int _) ha hb
theorem de_mul (ha : DE X a fa) (hb : DE X b fb) : DE X (.BinOp a .Mult b pos) (rOp gMul fa fb) := de_op op_mulX (snd_I fun i j S => .int _) ha hb
theorem de_div (ha : DE X a fa) (hb : DE X b fb) : DE X (.BinOp a .FloorDiv b pos) (rOp gDiv fa fb) := de_op op_fdivX (snd_I fun i j S => .int _) ha hb
theorem de_mod (ha : DE X a fa) (hb : DE X b fb) : DE X (.BinOp a .Mod b pos) (rOp gMod fa fb) := de_op op_modN (snd_I fun i j S => .int _) ha hb
theorem de_pow (ha : DE X a fa) (hb : DE X b fb) : DE X (.BinOp a .Pow b pos) (rOp gPow fa fb) := de_op op_pow (snd_I fun i j S => .int _) ha hb
theorem snd_U {f : Int → D} {g : Int → V} (h : ∀ i S, Rep K S (g i) (f i)) : Snd1 K (rU g) (gU f) := by
  intro S μ H x dx R Q k rx q post
  cases dx <;> first | exact False.elim q | skip
  cases rx.toInt
  exact ⟨_, rfl, post S μ H _ _ k .refl (h _ S) q⟩
theorem de_neg (ha : DE X a fa) : DE X (.UnaryOp .USub a pos) (rUn (gU fun i => .int (-i)) fa) := pe_imp (pe_un un_neg ha) (up_un (snd_U fun i S => .int _))
end

/-! ### comparisons -/
abbrev gLt : G2 := gI0 fun i j => .bl (decide (i < j))
abbrev gLe : G2 := gI0 fun i j => .bl (decide (i ≤ j))
abbrev gGt : G2 := gI0 fun i j => .bl (decide (j < i))
abbrev gGe : G2 := gI0 fun i j => .bl (decide (j ≤ i))
def gEq : G2 := fun x y μ R => pureN 20 (res μ x) = true ∧ pureN 20 (res μ y) = true ∧ R (.bl (deq (res μ x) (res μ y))) μ
def gNe : G2 := fun x y μ R => pureN 20 (res μ x) = true ∧ pureN 20 (res μ y) = true ∧ R (.bl (!deq (res μ x) (res μ y))) μ
/-- two ints, two texts, two bools: no stack is asked -/
def isNonD : D → Bool
  | .non => true
  | _ => false
def gIsN : G2 := fun x y μ R => match y with
  | .non => R (.bl (isNonD x)) μ
  | _ => False
def gNotN : G2 := fun x y μ R => match y with
  | .non => R (.bl (!isNonD x)) μ
  | _ => False
section
variable {K : PySem.W.Frag} {X : Cx} {a b c : Expr} {fa fb fc : RX} {pos : Pos}
theorem snd_eq : Snd2 K (rEqD K) gEq := by
  intro S μ H x y dx dy R Q k rx ry q post
  obtain ⟨p1, p2, q⟩ := q
  exact ⟨_, _, res_dp k rx p1, res_dp k ry p2, pure_shaped p1 (by decide), pure_shaped p2 (by decide), post S μ H _ _ k .refl (.bl _) q⟩
theorem snd_ne : Snd2 K (rNeD K) gNe := by
  intro S μ H x y dx dy R Q k rx ry q post
  obtain ⟨p1, p2, q⟩ := q
  exact ⟨_, _, res_dp k rx p1, res_dp k ry p2, pure_shaped p1 (by decide), pure_shaped p2 (by decide), post S μ H _ _ k .refl (.bl _) q⟩
theorem isNon_iff {S : Hp} {x : V} {d : D} (r : Rep K S x d) : decide (x = .non) = isNonD d := by
  cases r <;> first | rfl | exact decide_eq_false (fun h => nomatch h)
theorem snd_isN : Snd2 K (fun x y H Q => y = .non ∧ Q (.bl (decide (x = .non))) H) gIsN := by
  intro S μ H x y dx dy R Q k rx ry q post
  unfold gIsN at q
  cases dy <;> first | exact False.elim q | skip
  cases ry.toNon
  exact ⟨rfl, by rw [isNon_iff rx]; exact post S μ H _ _ k .refl (.bl _) q⟩
theorem de_cmp {op : CmpOp} {r : R2} {g : G2} (ho : OpR X (compareOp op) r) (s : Snd2 X.K r g) (ha : DE X a fa) (hb : DE X b fb) (hm : behindInMarks op b = false) : DE X (.Compare a [op] [b] pos) (rOp g fa fb) := pe_imp (pe_cmpR ho ha hb hm) (up_op s)
theorem de_gt (ha : DE X a fa) (hb : DE X b fb) : DE X (.Compare a [.Gt] [b] pos) (rOp gGt fa fb) := de_cmp op_gt (snd_I0 fun i j S => .bl _) ha hb (nomark _)
theorem de_eq (hu : X.A.units + 64 < cLine) (ha : DE X a fa) (hb : DE X b fb) : DE X (.Compare a [.Eq] [b] pos) (rOp gEq fa fb) := de_cmp (op_eqD hu) snd_eq ha hb (nomark _)
theorem de_isN (ha : DE X a fa) (hb : DE X b fb) : DE X (.Compare a [.Is] [b] pos) (rOp gIsN fa fb) := de_cmp op_isN snd_isN ha hb (nomark _)
end

/-! ### tests -/
def rB (f : RX) : RT := fun ρ μ R => f ρ μ fun d μ1 => match d with
  | .bl b => R b μ1
  | _ => False
def rAnd (f g : RT) : RT := fun ρ μ R => f ρ μ fun b μ1 => if b = true then g ρ μ1 R else R false μ1
def rOr (f g : RT) : RT := fun ρ μ R => f ρ μ fun b μ1 => if b = true then R true μ1 else g ρ μ1 R
def rNot (f : RT) : RT := fun ρ μ R => f ρ μ fun b μ1 => R (!b) μ1
def rIfE (t : RT) (f g : RX) : RX := fun ρ μ R => t ρ μ fun b μ1 => if b = true then f ρ μ1 R else g ρ μ1 R
def rAndV (f g : RX) : RX := fun ρ μ R => f ρ μ fun d μ1 => match d with
  | .bl b => if b = true then g ρ μ1 R else R (.bl false) μ1
  | _ => False
def rOrV (f g : RX) : RX := fun ρ μ R => f ρ μ fun d μ1 => match d with
  | .bl b => if b = true then R (.bl true) μ1 else g ρ μ1 R
  | _ => False
def rNotV (f : RX) : RX := fun ρ μ R => f ρ μ fun d μ1 => match d with
  | .bl b => R (.bl (!b)) μ1
  | _ => False
section
variable {X : Cx} {a b c : Expr} {rest : List Expr} {fa fb : RX} {ta tb tc : RT} {pos : Pos}
theorem dt_cmp {op : CmpOp} {r : R2} {g : G2} (ho : OpR X (compareOp op) r) (s : Snd2 X.K r g) (ha : DE X a fa) (hb : DE X b fb) (hm : behindInMarks op b = false) : DT X (.Compare a [op] [b] pos) (rB (rOp g fa fb)) := pt_imp (pt_cmpR ho ha hb hm) fun σ H Q ⟨S, μ, ρ, R, k, e, h, post⟩ => by
  refine up_op s σ H (fun x H' => ∃ k, x = .bl k ∧ Q k H') ⟨S, μ, ρ, _, k, e, h, fun S1 μ1 H1 v1 d1 k1 s1 r1 h1 => ?_⟩
  cases d1 <;> first | exact False.elim h1 | skip
  cases r1.toBl
  exact ⟨_, rfl, post S1 μ1 H1 _ k1 s1 h1⟩
theorem dt_gt (ha : DE X a fa) (hb : DE X b fb) : DT X (.Compare a [.Gt] [b] pos) (rB (rOp gGt fa fb)) := dt_cmp op_gt (snd_I0 fun i j S => .bl _) ha hb (nomark _)
theorem dt_ge (ha : DE X a fa) (hb : DE X b fb) : DT X (.Compare a [.GtE] [b] pos) (rB (rOp gGe fa fb)) := dt_cmp op_ge (snd_I0 fun i j S => .bl _) ha hb (nomark _)
theorem dt_eq (hu : X.A.units + 64 < cLine) (ha : DE X a fa) (hb : DE X b fb) : DT X (.Compare a [.Eq] [b] pos) (rB (rOp gEq fa fb)) := dt_cmp (op_eqD hu) snd_eq ha hb (nomark _)
theorem dt_ne (hu : X.A.units + 64 < cLine) (ha : DE X a fa) (hb : DE X b fb) : DT X (.Compare a [.NotEq] [b] pos) (rB (rOp gNe fa fb)) := dt_cmp (op_neD hu) snd_ne ha hb (nomark _)
theorem dt_isN (ha : DE X a fa) (hb : DE X b fb) : DT X (.Compare a [.Is] [b] pos) (rB (rOp gIsN fa fb)) := dt_cmp op_isN snd_isN ha hb (nomark _)
theorem dt_val (h : DE X a fa) (he : ∀ whole, isTrue a X.env whole = (do let v ← whole; standAt a.pos; holding [v] (truthy v)) := by intro _; rfl) : DT X a (rB fa) := pt_imp (pt_val h he) fun σ H Q ⟨S, μ, ρ, R, k, e, h, post⟩ => by
  refine ⟨S, μ, ρ, _, k, e, h, fun S1 μ1 H1 v1 d1 k1 s1 r1 h1 => ?_⟩
  cases d1 <;> first | exact False.elim h1 | skip
  exact ⟨_, r1.toBl, post S1 μ1 H1 _ k1 s1 h1⟩
theorem dw_and1 (ha : DT X a ta) : DW X (.BoolOp .And [a] pos) ta := pw_and1 ha
theorem dw_or1 (ha : DT X a ta) : DW X (.BoolOp .Or [a] pos) ta := pw_or1 ha
theorem dw_and (ha : DT X a ta) (hb : DW X (.BoolOp .And (b :: rest) pos) tb) : DW X (.BoolOp .And (a :: b :: rest) pos) (rAnd ta tb) := pw_imp (pw_and ha hb) fun σ H Q ⟨S, μ, ρ, R, k, e, h, post⟩ => by
  refine ⟨S, μ, ρ, _, k, e, h, fun S1 μ1 H1 b1 k1 s1 h1 => ?_⟩
  cases b1 with
  | true => rw [if_pos rfl] at h1 ⊢; exact ⟨S1, μ1, ρ, _, k1, e.mono s1.same, h1, fun S2 μ2 H2 b2 k2 s2 h2 => post S2 μ2 H2 b2 k2 (s1.trans s2) h2⟩
  | false => rw [if_neg Bool.false_ne_true] at h1 ⊢; exact post S1 μ1 H1 _ k1 s1 h1
theorem dw_or (ha : DT X a ta) (hb : DW X (.BoolOp .Or (b :: rest) pos) tb) : DW X (.BoolOp .Or (a :: b :: rest) pos) (rOr ta tb) := pw_imp (pw_or ha hb) fun σ H Q ⟨S, μ, ρ, R, k, e, h, post⟩ => by
  refine ⟨S, μ, ρ, _, k, e, h, fun S1 μ1 H1 b1 k1 s1 h1 => ?_⟩
  cases b1 with
  | true => rw [if_pos rfl] at h1 ⊢; exact post S1 μ1 H1 _ k1 s1 h1
  | false => rw [if_neg Bool.false_ne_true] at h1 ⊢; exact ⟨S1, μ1, ρ, _, k1, e.mono s1.same, h1, fun S2 μ2 H2 b2 k2 s2 h2 => post S2 μ2 H2 b2 k2 (s1.trans s2) h2⟩
theorem dt_w (h : DW X a ta) : DT X a ta := PW.pt h
theorem dt_not (ha : DT X a ta) : DT X (.UnaryOp .Not a pos) (rNot ta) := pt_imp (pt_not ha) fun σ H Q ⟨S, μ, ρ, R, k, e, h, post⟩ =>
  ⟨S, μ, ρ, _, k, e, h, fun S1 μ1 H1 b1 k1 s1 h1 => post S1 μ1 H1 _ k1 s1 h1⟩
theorem de_if (hc : DT X c tc) (ha : DE X a fa) (hb : DE X b fb) : DE X (.IfExp c a b pos) (rIfE tc fa fb) := pe_imp (pe_ifExp hc ha hb) fun σ H Q ⟨S, μ, ρ, R, k, e, h, post⟩ => by
  refine ⟨S, μ, ρ, _, k, e, h, fun S1 μ1 H1 b1 k1 s1 h1 => ?_⟩
  cases b1 with
  | true => rw [if_pos rfl] at h1 ⊢; exact ⟨S1, μ1, ρ, _, k1, e.mono s1.same, h1, fun S2 μ2 H2 v d k2 s2 r2 h2 => post S2 μ2 H2 v d k2 (s1.trans s2) r2 h2⟩
  | false => rw [if_neg Bool.false_ne_true] at h1 ⊢; exact ⟨S1, μ1, ρ, _, k1, e.mono s1.same, h1, fun S2 μ2 H2 v d k2 s2 r2 h2 => post S2 μ2 H2 v d k2 (s1.trans s2) r2 h2⟩
theorem de_one {op} {f : RX} (h : DE X a f) : DE X (.BoolOp op [a] pos) f := pe_one h
theorem de_and (ha : DE X a fa) (hb : DE X (.BoolOp .And (b :: rest) pos) fb) : DE X (.BoolOp .And (a :: b :: rest) pos) (rAndV fa fb) := pe_imp (pe_and ha hb) fun σ H Q ⟨S, μ, ρ, R, k, e, h, post⟩ => by
  refine ⟨S, μ, ρ, _, k, e, h, fun S1 μ1 H1 v1 d1 k1 s1 r1 h1 => ?_⟩
  cases d1 with
  | bl b1 =>
    refine ⟨b1, r1.toBl, ?_⟩
    have h1 : (if b1 = true then fb ρ μ1 R else R (.bl false) μ1) := h1
    cases b1 with
    | true => rw [if_pos rfl] at h1 ⊢; exact ⟨S1, μ1, ρ, _, k1, e.mono s1.same, h1, fun S2 μ2 H2 v d k2 s2 r2 h2 => post S2 μ2 H2 v d k2 (s1.trans s2) r2 h2⟩
    | false => rw [if_neg Bool.false_ne_true] at h1 ⊢; exact post S1 μ1 H1 _ _ k1 s1 (.bl _) h1
  | _ => exact False.elim h1
theorem de_not (ha : DE X a fa) : DE X (.UnaryOp .Not a pos) (rNotV fa) := pe_imp (pe_not ha) fun σ H Q ⟨S, μ, ρ, R, k, e, h, post⟩ => by
  refine ⟨S, μ, ρ, _, k, e, h, fun S1 μ1 H1 v1 d1 k1 s1 r1 h1 => ?_⟩
  cases d1 <;> first | exact False.elim h1 | skip
  exact ⟨_, r1.toBl, post S1 μ1 H1 _ _ k1 s1 (.bl _) h1⟩
end
end L3

/-! ## L3c -/
set_option Elab.async false
set_option linter.all false
set_option maxRecDepth 100000
set_option maxHeartbeats 4000000
namespace L3
open PySem PySem.Spec PyProof.Rows L2

/-! ### arguments, displays -/
def rNil : RA := fun _ μ R => R [] μ
def rCons (fa : RX) (fr : RA) : RA := fun ρ μ R => fa ρ μ fun d μ1 => fr ρ μ1 fun ds μ2 => R (d :: ds) μ2
def rStar (fa : RX) (fr : RA) : RA := fun ρ μ R => fa ρ μ fun d μ1 => match seqD (res μ1 d) with
  | some xs => fr ρ μ1 fun ds μ2 => R (xs ++ ds) μ2
  | none => False
def rTup (fa : RA) : RX := fun ρ μ R => fa ρ μ fun ds μ1 => ds.length ≤ sizeLine ∧ R (.tup ds) μ1
def rLst (fa : RA) : RX := fun ρ μ R => fa ρ μ fun ds μ1 => ds.length ≤ sizeLine ∧ R (.lst ds) μ1
def rLstM (fa : RA) : RX := fun ρ μ R => fa ρ μ fun ds μ1 => ds.length ≤ sizeLine ∧ ∀ p, μ1 p = none → R (.ref p) (updM μ1 p (.lst ds))
section
variable {X : Cx} {e : Expr} {es : List Expr} {fe : RX} {fa : RA} {pos p : Pos}
theorem da_nil : DA X [] rNil := pa_imp pa_nil fun σ H Q ⟨S, μ, ρ, R, k, e, h, post⟩ => post S μ H [] [] k .refl .nil h
theorem da_cons (ha : DE X e fe) (hr : DA X es fa) (hs : starEach (e :: es) X.env = (false, eval e X.env) :: starEach es X.env := by rfl) : DA X (e :: es) (rCons fe fa) := pa_imp (pa_cons ha hr hs) fun σ H Q ⟨S, μ, ρ, R, k, e, h, post⟩ => by
  refine ⟨S, μ, ρ, _, k, e, h, fun S1 μ1 H1 v1 d1 k1 s1 r1 h1 => ?_⟩
  exact ⟨S1, μ1, ρ, _, k1, e.mono s1.same, h1, fun S2 μ2 H2 vs ds k2 s2 r2 h2 => post S2 μ2 H2 _ _ k2 (s1.trans s2) (.cons (r1.mono s2.same) r2) h2⟩
theorem de_tup {x1} (h : DA X es fa) : DE X (.Tuple es x1 pos) (rTup fa) := pe_imp (pe_tup h) fun σ H Q ⟨S, μ, ρ, R, k, e, h, post⟩ => by
  refine ⟨S, μ, ρ, _, k, e, h, fun S1 μ1 H1 vs ds k1 s1 r1 h1 => ⟨by rw [r1.length]; exact h1.1, fun p hp => ?_⟩⟩
  obtain ⟨k2, s2⟩ := k1.alloc (o := .tup vs) hp
  exact post _ _ _ _ _ k2 (s1.trans s2) (.tup (.of upd_same) (r1.mono s2.same)) h1.2
theorem de_lst (h : DA X es fa) : DE X (.List es pos) (rLst fa) := pe_imp (pe_lst h) fun σ H Q ⟨S, μ, ρ, R, k, e, h, post⟩ => by
  refine ⟨S, μ, ρ, _, k, e, h, fun S1 μ1 H1 vs ds k1 s1 r1 h1 => ⟨by rw [r1.length]; exact h1.1, fun p hp => ?_⟩⟩
  obtain ⟨k2, s2⟩ := k1.alloc (o := .lst vs) hp
  exact post _ _ _ _ _ k2 (s1.trans s2) (.lst upd_same (r1.mono s2.same)) h1.2
theorem de_lstM (h : DA X es fa) : DE X (.List es pos) (rLstM fa) := pe_imp (pe_lst h) fun σ H Q ⟨S, μ, ρ, R, k, e, h, post⟩ => by
  refine ⟨S, μ, ρ, _, k, e, h, fun S1 μ1 H1 vs ds k1 s1 r1 h1 => ⟨by rw [r1.length]; exact h1.1, fun p hp => ?_⟩⟩
  obtain ⟨k2, s2⟩ := k1.newM hp r1
  exact post _ _ _ _ _ k2 (s1.trans s2) (.ref p) (h1.2 p (k1.free hp).2)
end

/-! ### items, slices -/
theorem atI_rep {K : PySem.W.Frag} {S : Hp} {vs : List V} {ds : List D} {i : Int} {d : D} (r : Reps K S vs ds) (e : atI ds i = some d) : ∃ v, atI vs i = some v ∧ Rep K S v d := by
  unfold atI at e ⊢
  rw [r.length]
  cases q : ixN ds.length i with
  | none => rw [q] at e; cases e
  | some j =>
    rw [q] at e
    exact r.get (show ds[j]? = some d from e)
def gIx : G2 := fun x y μ R => match y with
  | .int i => (match seqD (res μ x) with
    | some ds => (match atI ds i with
      | some d => R d μ
      | none => False)
    | none => False)
  | _ => False
theorem atI_lit {α : Type} (l : List α) (n : Nat) : atI l (n : Int) = l[n]? := by
  cases q : l[n]? with
  | some v => exact atI_nat q
  | none =>
    unfold atI ixN
    have h := List.getElem?_eq_none_iff.mp q
    rw [if_pos (by omega), if_neg (by omega)]
    rfl
theorem atI_0 {α : Type} (l : List α) : atI l 0 = l[0]? := atI_lit l 0
theorem atI_1 {α : Type} (l : List α) : atI l 1 = l[1]? := atI_lit l 1
theorem atI_2 {α : Type} (l : List α) : atI l 2 = l[2]? := atI_lit l 2
theorem atI_3 {α : Type} (l : List α) : atI l 3 = l[3]? := atI_lit l 3
theorem atI_4 {α : Type} (l : List α) : atI l 4 = l[4]? := atI_lit l 4
section
variable {K : PySem.W.Frag} {X : Cx} {a b : Expr} {fa fb : RX} {pos : Pos}
theorem snd_ix : Snd2 K (rIx K) gIx := by
  intro S μ H x y dx dy R Q k rx ry q post
  unfold gIx at q
  cases dy <;> first | exact False.elim q | skip
  rename_i i
  dsimp only at q
  cases q1 : seqD (res μ dx) with
  | none => rw [q1] at q; exact q.elim
  | some ds =>
    rw [q1] at q
    dsimp only at q
    cases q2 : atI ds i with
    | none => rw [q2] at q; exact q.elim
    | some d =>
      rw [q2] at q
      obtain ⟨p, vs, rfl, h1, r1⟩ := seq_rep k rx q1
      obtain ⟨v, h2, r2⟩ := atI_rep r1 q2
      cases ry.toInt
      rcases h1 with h1 | h1
      · exact .inl ⟨p, vs, i, v, rfl, rfl, h1, h2, post S μ H _ _ k .refl r2 q⟩
      · exact .inr (.inl ⟨p, vs, i, v, rfl, rfl, h1, h2, post S μ H _ _ k .refl r2 q⟩)
theorem de_ix (ha : DE X a fa) (hb : DE X b fb) (hs : PlainIx b := by exact fun _ _ => rfl) : DE X (.Subscript a b pos) (rOp gIx fa fb) := pe_imp (pe_ix ix_seq ha hb hs) (up_op snd_ix)
end
def cutD (xs : List D) (lo hi : Option Int) : List D := (xs.drop (HT.sIx xs.length 0 lo)).take (HT.sIx xs.length xs.length hi - HT.sIx xs.length 0 lo)
theorem cut_rep {K : PySem.W.Frag} {S : Hp} {vs : List V} {ds : List D} (r : Reps K S vs ds) (lo hi : Option Int) : Reps K S (cutV vs lo hi) (cutD ds lo hi) := by
  unfold cutV cutD
  rw [r.length]
  exact (r.drop _).take _
abbrev RO := EV → MH → (Option Int → MH → Prop) → Prop
def upO (K : PySem.W.Frag) (f : RO) : TO := fun σ H Q => ∃ S μ ρ R, OK K S μ H ∧ RepE K S σ ρ ∧ f ρ μ R ∧ ∀ S' μ' H' o, OK K S' μ' H' → Stp S μ H S' μ' H' → R o μ' → Q o H'
def rNoPart : RO := fun _ μ R => R none μ
def rPart (f : RX) : RO := fun ρ μ R => f ρ μ fun d μ1 => match d with
  | .int i => R (some i) μ1
  | _ => False
def gSl (x : D) (lo hi : Option Int) (μ : MH) (R : D → MH → Prop) : Prop := match res μ x with
  | .tup ds => R (.tup (cutD ds lo hi)) μ
  | .lst ds => R (.lst (cutD ds lo hi)) μ
  | _ => False
def rSl (fe : RX) (fl fh : RO) : RX := fun ρ μ R => fe ρ μ fun x μ1 => fl ρ μ1 fun lo μ2 => fh ρ μ2 fun hi μ3 => gSl x lo hi μ3 R
section
variable {X : Cx} {e : Expr} {fe : RX} {lo hi : Option Expr} {fl fh : RO} {pos p2 : Pos}
theorem po_imp {t u : TO} {e : Option Expr} (h : PO X e t) (i : ∀ σ H Q, u σ H Q → t σ H Q) : PO X e u := ⟨fun pins s σ H Q I q => h.run pins s σ H Q I (i σ H Q q)⟩
theorem do_none : PO X none (upO X.K rNoPart) := po_imp po_none fun σ H Q ⟨S, μ, ρ, R, k, e, h, post⟩ => post S μ H _ k .refl h
theorem do_some (h : DE X e fe) : PO X (some e) (upO X.K (rPart fe)) := po_imp (po_some h) fun σ H Q ⟨S, μ, ρ, R, k, e, h, post⟩ => by
  refine ⟨S, μ, ρ, _, k, e, h, fun S1 μ1 H1 v1 d1 k1 s1 r1 h1 => ?_⟩
  cases d1 <;> first | exact False.elim h1 | skip
  exact ⟨_, r1.toInt, post S1 μ1 H1 _ k1 s1 h1⟩
theorem de_slice (he : DE X e fe) (hl : PO X lo (upO X.K fl)) (hu : PO X hi (upO X.K fh)) : DE X (.Subscript e (.Slice lo hi none p2) pos) (rSl fe fl fh) := pe_imp (pe_slice (sl_tupA.or sl_list) he hl hu) fun σ H Q ⟨S, μ, ρ, R, k, e, h, post⟩ => by
  refine ⟨S, μ, ρ, _, k, e, h, fun S1 μ1 H1 v1 d1 k1 s1 r1 h1 => ?_⟩
  refine ⟨S1, μ1, ρ, _, k1, e.mono s1.same, h1, fun S2 μ2 H2 o2 k2 s2 h2 => ?_⟩
  refine ⟨S2, μ2, ρ, _, k2, (e.mono s1.same).mono s2.same, h2, fun S3 μ3 H3 o3 k3 s3 h3 => ?_⟩
  have r3 := r1.mono (s2.trans s3).same
  have s13 := (s1.trans s2).trans s3
  unfold gSl at h3
  cases q : res μ3 d1 with
  | tup ds =>
    rw [q] at h3
    have z := res_tup r3 q
    subst z
    obtain ⟨p, vs, rfl, a1, a2⟩ := r3.toTup
    refine .inl ⟨p, vs, rfl, sqT_same k3.sub a1, fun w => ?_, fun w p' hp => ?_⟩
    · have ec : cutD ds o2 o3 = ds := by
        unfold cutD
        rw [a2.length] at w
        rw [w.1, w.2]
        simp
      have h3 : R (.tup (cutD ds o2 o3)) μ3 := h3
      rw [ec] at h3
      exact post S3 μ3 H3 _ _ k3 s13 r3 h3
    · obtain ⟨k4, s4⟩ := k3.alloc (o := .tup (cutV vs o2 o3)) hp
      exact post _ _ _ _ _ k4 (s13.trans s4) (.tup (.of upd_same) ((cut_rep a2 o2 o3).mono s4.same)) h3
  | lst ds =>
    rw [q] at h3
    obtain ⟨p, vs, rfl, a1, a2⟩ := res_lst k3 r3 q
    refine .inr ⟨p, vs, rfl, .of a1, fun p' hp => ?_⟩
    obtain ⟨k4, s4⟩ := k3.alloc (o := .lst (cutV vs o2 o3)) hp
    exact post _ _ _ _ _ k4 (s13.trans s4) (.lst upd_same ((cut_rep a2 o2 o3).mono s4.same)) h3
  | _ => rw [q] at h3; exact h3.elim
end

/-! ### own defs -/
def spD (K : PySem.W.Frag) (s : GN) : Sp := fun vs H Q _ => ∃ S μ ds R, OK K S μ H ∧ Reps K S vs ds ∧ s ds μ R ∧ Pst K S μ H R Q
/-- the module's name x is a def that keeps s, with every parameter given -/
structure FnG (P : Program) (w : World) (K : PySem.W.Frag) (mg : Str → Option Value) (base : Heap) (k : Nat) (x : Str) (s : GN) : Prop where
  ex : ∃ f fd ps, FnOk P w K mg base CX0 k f fd ps (spD K s) ∧ mg x = some (.ref f) ∧ PySem.W.keepIn K (.ref f) = true ∧ Binds K fd ps []
theorem FnG.mono {P : Program} {w : World} {K : PySem.W.Frag} {mg : Str → Option Value} {base : Heap} {j k : Nat} {x : Str} {s : GN} (F : FnG P w K mg base j x s) (h : j ≤ k) : FnG P w K mg base k x s :=
  let ⟨f, fd, ps, a, b, c, d⟩ := F.ex; ⟨f, fd, ps, a.mono h, b, c, d⟩
theorem spD_imp {K : PySem.W.Frag} {s s' : GN} (h : ∀ ds μ R, s' ds μ R → s ds μ R) : ∀ vs H Q E, spD K s' vs H Q E → spD K s vs H Q E := fun vs H Q E ⟨S, μ, ds, R, a, b, c, d⟩ => ⟨S, μ, ds, R, a, b, h _ _ _ c, d⟩
theorem FnG.imp {P : Program} {w : World} {K : PySem.W.Frag} {mg : Str → Option Value} {base : Heap} {k : Nat} {x : Str} {s s' : GN} (F : FnG P w K mg base k x s) (h : ∀ ds μ R, s' ds μ R → s ds μ R) : FnG P w K mg base k x s' :=
  let ⟨f, fd, ps, a, b, c, d⟩ := F.ex; ⟨f, fd, ps, a.imp (spD_imp h), b, c, d⟩
section
variable {X : Cx} {k : Nat} {x : Str} {s : GN} {e : Expr} {es : List Expr} {fa : RA} {fe : RX} {p pos p2 : Pos}
theorem de_call (F : FnG X.prog X.w X.K X.mg X.base k x s) (hr : Room k X.A) (hg : Gl X x) (ha : DA X (e :: es) fa) (hdb : (x == ("__debug__" : Str)) = false := by decide)
    (he : starEach (e :: es) X.env = (false, eval e X.env) :: starEach es X.env := by rfl) (hpl : (backTo pos (starEach es X.env)).any (·.1) = false := by rfl) : DE X (.Call (.Name x p) (e :: es) [] pos) (rCl s fa) := by
  obtain ⟨f, fd, ps, a, b, c, d⟩ := F.ex
  refine pe_imp (pe_call a hr hg b c d .nil pass0 ha hdb he hpl) fun σ H Q ⟨S, μ, ρ, R, k, e, h, post⟩ => ?_
  refine ⟨S, μ, ρ, _, k, e, h, fun S1 μ1 H1 vs ds k1 s1 r1 h1 => ?_⟩
  show spD X.K s (vs ++ []) H1 Q E0
  rw [List.append_nil]
  exact ⟨S1, μ1, ds, R, k1, r1, h1, fun S3 μ3 H3 v d k3 s3 r3 h3 => post S3 μ3 H3 v d k3 (s1.trans s3) r3 h3⟩
end

/-! ### built-ins -/
section
variable {K : PySem.W.Frag} {X : Cx} {r : List V → Hp → VK → Prop} {g : GN} {id T : String} {x : Str} {e : Expr} {es : List Expr} {fa : RA} {p pos : Pos}
theorem de_callB (hc : CallR X (.builtin id) r) (s : SndN X.K r g) (hg : Gl X x) (hm : X.mg x = none) (hv : bootBuiltins x = some (.builtin id)) (ha : DA X (e :: es) fa) (hn : x ≠ "__name__" := by decide) (hdb : (x == ("__debug__" : Str)) = false := by decide)
    (he : starEach (e :: es) X.env = (false, eval e X.env) :: starEach es X.env := by rfl) (hpl : (backTo pos (starEach es X.env)).any (·.1) = false := by rfl) : DE X (.Call (.Name x p) (e :: es) [] pos) (rCl g fa) :=
  pe_imp (pe_callB hc hg hm hv ha hn hdb he hpl) (up_cl s)
theorem de_callTy (hc : CallR X (.type T) r) (s : SndN X.K r g) (hg : Gl X x) (hm : X.mg x = none) (hv : bootBuiltins x = some (.type T)) (ha : DA X (e :: es) fa) (hn : x ≠ "__name__" := by decide) (hdb : (x == ("__debug__" : Str)) = false := by decide)
    (he : starEach (e :: es) X.env = (false, eval e X.env) :: starEach es X.env := by rfl) (hpl : (backTo pos (starEach es X.env)).any (·.1) = false := by rfl) : DE X (.Call (.Name x p) (e :: es) [] pos) (rCl g fa) :=
  pe_imp (pe_callTy hc hg hm hv ha hn hdb he hpl) (up_cl s)
theorem reps1 {S : Hp} {xs : List V} {d : D} (r : Reps K S xs [d]) : ∃ v, xs = [v] ∧ Rep K S v d := by
  cases r with
  | cons h r => cases r; exact ⟨_, rfl, h⟩
theorem reps2 {S : Hp} {xs : List V} {d d2 : D} (r : Reps K S xs [d, d2]) : ∃ v w, xs = [v, w] ∧ Rep K S v d ∧ Rep K S w d2 := by
  cases r with
  | cons h r =>
    cases r with
    | cons h2 r => cases r; exact ⟨_, _, rfl, h, h2⟩
def gAbs : GN := fun ds μ R => match ds with
  | [.int i] => R (.int (if i < 0 then -i else i)) μ
  | _ => False
theorem snd_abs : SndN K (fun xs H Q => ∃ i, xs = [.int i] ∧ Q (.int (if i < 0 then -i else i)) H) gAbs := by
  intro S μ H xs dxs R Q k r q post
  unfold gAbs at q
  split at q
  · obtain ⟨v, rfl, r1⟩ := reps1 r
    cases r1.toInt
    exact ⟨_, rfl, post S μ H _ _ k .refl (.int _) q⟩
  · exact q.elim
def gLen : GN := fun ds μ R => match ds with
  | [d] => (match seqD (res μ d) with
    | some xs => R (.int xs.length) μ
    | none => False)
  | _ => False
theorem snd_len : SndN K (fun xs H Q => ∃ p ys, xs = [.ref p] ∧ (SqL K H p ys ∨ SqT K H p ys) ∧ Q (.int ys.length) H) gLen := by
  intro S μ H xs dxs R Q k r q post
  unfold gLen at q
  split at q
  · rename_i d
    obtain ⟨v, rfl, r1⟩ := reps1 r
    cases q1 : seqD (res μ d) with
    | none => rw [q1] at q; exact q.elim
    | some ds =>
      rw [q1] at q
      obtain ⟨p, vs, rfl, h1, r2⟩ := seq_rep k r1 q1
      exact ⟨p, vs, rfl, h1, post S μ H _ _ k .refl (by rw [r2.length]; exact .int _) q⟩
  · exact q.elim
/-- all(..), any(..) of a list of truth values -/
def bools : List D → Option (List Bool)
  | [] => some []
  | .bl b :: r => (bools r).map (b :: ·)
  | _ :: _ => none
theorem bools_rep {S : Hp} : ∀ {ds : List D} {vs : List V} {bs : List Bool}, Reps K S vs ds → bools ds = some bs → vs = bs.map V.bl
  | [], _, _, .nil, e => by cases e; rfl
  | .bl b :: r, _, bs, .cons h t, e => by
    unfold bools at e
    cases q : bools r with
    | none => rw [q] at e; cases e
    | some cs =>
      rw [q] at e
      cases e
      rw [h.toBl, bools_rep t q]
      rfl
  | .non :: r, _, bs, _, e => by cases e
  | .int _ :: r, _, bs, _, e => by cases e
  | .str _ :: r, _, bs, _, e => by cases e
  | .tup _ :: r, _, bs, _, e => by cases e
  | .lst _ :: r, _, bs, _, e => by cases e
  | .scr _ :: r, _, bs, _, e => by cases e
  | .ins _ _ :: r, _, bs, _, e => by cases e
  | .ref _ :: r, _, bs, _, e => by cases e
  | .ty _ :: r, _, bs, _, e => by cases e
def gAll : GN := fun ds μ R => match ds with
  | [d] => (match res μ d with
    | .lst xs => (match bools xs with
      | some bs => R (.bl (bs.all _root_.id)) μ
      | none => False)
    | _ => False)
  | _ => False
def gAny : GN := fun ds μ R => match ds with
  | [d] => (match res μ d with
    | .lst xs => (match bools xs with
      | some bs => R (.bl (bs.any _root_.id)) μ
      | none => False)
    | _ => False)
  | _ => False
theorem snd_all : SndN K (rAll K) gAll := by
  intro S μ H xs dxs R Q k r q post
  unfold gAll at q
  split at q
  · rename_i d
    obtain ⟨v, rfl, r1⟩ := reps1 r
    cases q1 : res μ d <;> rw [q1] at q <;> first | exact False.elim q | skip
    rename_i ds
    dsimp only at q
    cases q2 : bools ds with
    | none => rw [q2] at q; exact q.elim
    | some bs =>
      rw [q2] at q
      obtain ⟨p, vs, rfl, h1, r2⟩ := res_lst k r1 q1
      cases bools_rep r2 q2
      exact ⟨p, bs, rfl, .of h1, post S μ H _ _ k .refl (.bl _) q⟩
  · exact q.elim
theorem snd_any : SndN K (rAny K) gAny := by
  intro S μ H xs dxs R Q k r q post
  unfold gAny at q
  split at q
  · rename_i d
    obtain ⟨v, rfl, r1⟩ := reps1 r
    cases q1 : res μ d <;> rw [q1] at q <;> first | exact False.elim q | skip
    rename_i ds
    dsimp only at q
    cases q2 : bools ds with
    | none => rw [q2] at q; exact q.elim
    | some bs =>
      rw [q2] at q
      obtain ⟨p, vs, rfl, h1, r2⟩ := res_lst k r1 q1
      cases bools_rep r2 q2
      exact ⟨p, bs, rfl, .of h1, post S μ H _ _ k .refl (.bl _) q⟩
  · exact q.elim
/-- tuple(xs), list(xs) -/
def gTuple : GN := fun ds μ R => match ds with
  | [d] => (match seqD (res μ d) with
    | some xs => R (.tup xs) μ
    | none => False)
  | _ => False
theorem snd_tuple : SndN K (fun xs H Q => ∃ p ys, xs = [.ref p] ∧ ((SqL K H p ys ∧ ∀ l, H l = none → Q (.ref l) (upd H l (.tup ys))) ∨ (SqT K H p ys ∧ Q (.ref p) H))) gTuple := by
  intro S μ H xs dxs R Q k r q post
  unfold gTuple at q
  split at q
  · rename_i d
    obtain ⟨v, rfl, r1⟩ := reps1 r
    cases q0 : res μ d with
    | lst ds =>
      rw [q0] at q
      obtain ⟨p, vs, rfl, h1, r2⟩ := res_lst k r1 q0
      refine ⟨p, vs, rfl, .inl ⟨.of h1, fun l hl => ?_⟩⟩
      obtain ⟨k2, s2⟩ := k.alloc (o := .tup vs) hl
      exact post _ _ _ _ _ k2 s2 (.tup (.of upd_same) (r2.mono s2.same)) q
    | tup ds =>
      rw [q0] at q
      have z := res_tup r1 q0
      subst z
      obtain ⟨p, vs, rfl, a1, a2⟩ := r1.toTup
      exact ⟨p, vs, rfl, .inr ⟨sqT_same k.sub a1, post S μ H _ _ k .refl r1 q⟩⟩
    | _ => rw [q0] at q; exact q.elim
  · exact q.elim
/-- isinstance(x, T), T a built-in class -/
def isiD (T : String) : D → Option Bool
  | .non => some false
  | .bl _ => some (T == "bool" || T == "int")
  | .int _ => some (T == "int")
  | .str _ => some (T == "str")
  | .tup _ => some (T == "tuple")
  | .lst _ => some (T == "list")
  | _ => none
def tyOK (T : String) : Bool := T == "bool" || T == "int" || T == "str" || T == "tuple" || T == "list"
def gIsi : GN := fun ds μ R => match ds with
  | [d, .ty T] => tyOK T = true ∧ (match isiD T (res μ d) with
    | some b => R (.bl b) μ
    | none => False)
  | _ => False
theorem sqT_ty {H : Hp} {a : Addr} {xs : List V} (h : SqT K H a xs) : TyX K H (.ref a) (.type "tuple") := by
  rcases h with (h | ⟨o, h⟩) | ⟨o, its, n, e, c, _⟩
  · exact .base (.tup h)
  · exact .fTuple h
  · exact .kTuple e c
theorem snd_isi : SndN K (rIsi K) gIsi := by
  intro S μ H xs dxs R Q k r q post
  unfold gIsi at q
  split at q
  · rename_i d T
    obtain ⟨v, w, rfl, r1, r2⟩ := reps2 r
    obtain ⟨ht, q⟩ := q
    cases r2
    have kk : ∀ t : String, (t = "NoneType" ∨ t = "bool" ∨ t = "int" ∨ t = "str" ∨ t = "tuple" ∨ t = "list") → kitB t T = some (t == T || (t == "bool" && T == "int")) := by
      intro t h
      unfold tyOK at ht
      simp only [Bool.or_eq_true, beq_iff_eq] at ht
      rcases ht with (((rfl | rfl) | rfl) | rfl) | rfl <;> rcases h with rfl | rfl | rfl | rfl | rfl | rfl <;> decide +kernel
    have fin : ∀ (t : String) (b : Bool), TyX K H v (.type t) → (t = "NoneType" ∨ t = "bool" ∨ t = "int" ∨ t = "str" ∨ t = "tuple" ∨ t = "list") → (t == T || (t == "bool" && T == "int")) = b → R (.bl b) μ → rIsi K [v, .ty T] H Q := fun t b h1 h2 h3 h4 =>
      ⟨v, .ty T, .type t, .type T, b, rfl, .ty T, h1, kit_ty (by rw [kk t h2, h3]), post S μ H _ _ k .refl (.bl _) h4⟩
    cases q0 : res μ d with
    | lst ds =>
      rw [q0] at q
      obtain ⟨p, vs, rfl, h1, _⟩ := res_lst k r1 q0
      exact fin "list" _ (.base (.lst h1)) (by simp) (by rw [show ("list" == "bool") = false by decide, Bool.false_and, Bool.or_false]; exact Bool.beq_comm) q
    | tup ds =>
      rw [q0] at q
      have z := res_tup r1 q0
      subst z
      obtain ⟨p, vs, rfl, a1, a2⟩ := r1.toTup
      exact fin "tuple" _ (sqT_ty (sqT_same k.sub a1)) (by simp) (by rw [show ("tuple" == "bool") = false by decide, Bool.false_and, Bool.or_false]; exact Bool.beq_comm) q
    | non =>
      have z : d = .non := by
        cases d with
        | ref a =>
          unfold res at q0
          dsimp only at q0
          cases w : μ a with
          | none => rw [w] at q0; cases q0
          | some m => rw [w] at q0; cases m <;> cases q0
        | _ => exact q0
      subst z
      cases r1.toNon
      rw [q0] at q
      refine fin "NoneType" _ (.base .non) (by simp) ?_ q
      unfold tyOK at ht
      simp only [Bool.or_eq_true, beq_iff_eq] at ht
      rcases ht with (((rfl | rfl) | rfl) | rfl) | rfl <;> decide
    | bl b =>
      have z : d = .bl b := by
        cases d with
        | ref a =>
          unfold res at q0
          dsimp only at q0
          cases w : μ a with
          | none => rw [w] at q0; cases q0
          | some m => rw [w] at q0; cases m <;> cases q0
        | _ => exact q0
      subst z
      cases r1.toBl
      rw [q0] at q
      refine fin "bool" _ (.base (.bl _)) (by simp) ?_ q
      unfold tyOK at ht
      simp only [Bool.or_eq_true, beq_iff_eq] at ht
      rcases ht with (((rfl | rfl) | rfl) | rfl) | rfl <;> decide
    | int b =>
      have z : d = .int b := by
        cases d with
        | ref a =>
          unfold res at q0
          dsimp only at q0
          cases w : μ a with
          | none => rw [w] at q0; cases q0
          | some m => rw [w] at q0; cases m <;> cases q0
        | _ => exact q0
      subst z
      cases r1.toInt
      rw [q0] at q
      exact fin "int" _ (.base (.int _)) (by simp) (by rw [show ("int" == "bool") = false by decide, Bool.false_and, Bool.or_false]; exact Bool.beq_comm) q
    | str b =>
      have z : d = .str b := by
        cases d with
        | ref a =>
          unfold res at q0
          dsimp only at q0
          cases w : μ a with
          | none => rw [w] at q0; cases q0
          | some m => rw [w] at q0; cases m <;> cases q0
        | _ => exact q0
      subst z
      cases r1.toStr
      rw [q0] at q
      exact fin "str" _ (.base (.str _)) (by simp) (by rw [show ("str" == "bool") = false by decide, Bool.false_and, Bool.or_false]; exact Bool.beq_comm) q
    | _ => rw [q0] at q; exact q.elim
  · exact q.elim
end
section
variable {X : Cx} {e e2 : Expr} {fa : RA} {p pos : Pos}
theorem de_abs (hg : Gl X "abs") (hm : X.mg "abs" = none) (ha : DA X [e] fa) (he : starEach [e] X.env = (false, eval e X.env) :: starEach [] X.env := by rfl) : DE X (.Call (.Name "abs" p) [e] [] pos) (rCl gAbs fa) := de_callB call_abs snd_abs hg hm (by decide +kernel) ha (he := he)
theorem de_len (hg : Gl X "len") (hm : X.mg "len" = none) (ha : DA X [e] fa) (he : starEach [e] X.env = (false, eval e X.env) :: starEach [] X.env := by rfl) : DE X (.Call (.Name "len" p) [e] [] pos) (rCl gLen fa) := de_callB call_len_seq snd_len hg hm (by decide +kernel) ha (he := he)
theorem de_all (hg : Gl X "all") (hm : X.mg "all" = none) (ha : DA X [e] fa) (hc : X.calm = true := by rfl) (he : starEach [e] X.env = (false, eval e X.env) :: starEach [] X.env := by rfl) : DE X (.Call (.Name "all" p) [e] [] pos) (rCl gAll fa) := de_callB (cr_all hc) snd_all hg hm (by decide +kernel) ha (he := he)
theorem de_any (hg : Gl X "any") (hm : X.mg "any" = none) (ha : DA X [e] fa) (hc : X.calm = true := by rfl) (he : starEach [e] X.env = (false, eval e X.env) :: starEach [] X.env := by rfl) : DE X (.Call (.Name "any" p) [e] [] pos) (rCl gAny fa) := de_callB (cr_any hc) snd_any hg hm (by decide +kernel) ha (he := he)
theorem de_isi (hg : Gl X "isinstance") (hm : X.mg "isinstance" = none) (ha : DA X [e, e2] fa) (he : starEach [e, e2] X.env = (false, eval e X.env) :: starEach [e2] X.env := by rfl) (hpl : (backTo pos (starEach [e2] X.env)).any (·.1) = false := by rfl) :
    DE X (.Call (.Name "isinstance" p) [e, e2] [] pos) (rCl gIsi fa) := de_callB call_isi snd_isi hg hm (by decide +kernel) ha (he := he) (hpl := hpl)
theorem de_tuple (hg : Gl X "tuple") (hm : X.mg "tuple" = none) (ha : DA X [e] fa) (he : starEach [e] X.env = (false, eval e X.env) :: starEach [] X.env := by rfl) : DE X (.Call (.Name "tuple" p) [e] [] pos) (rCl gTuple fa) := de_callTy call_tuple_of snd_tuple hg hm (by decide +kernel) ha (he := he)
end
end L3

/-! ## L3d -/
set_option Elab.async false
set_option linter.all false
set_option maxRecDepth 100000
set_option maxHeartbeats 4000000
namespace L3
open PySem PySem.Spec PyProof.Rows L2

/-! ### instances -/
/-- an instance: data, or a changeable one -/
def insD (μ : MH) : D → Option (Addr × List (Str × D))
  | .ins C fs => some (C, fs)
  | .ref p => (match μ p with
    | some (.ins C fs) => some (C, fs)
    | _ => none)
  | _ => none
def rFld (C : Addr) (f : Str) (fo : RX) : RX := fun ρ μ R => fo ρ μ fun d μ1 => match insD μ1 d with
  | some (C', fs) => C' = C ∧ (match fs.lookup f with
    | some z => R z μ1
    | none => False)
  | none => False
def rMeth (C : Addr) (m : Str) (s : GN) (fo : RX) (fa : RA) : RX := fun ρ μ R => fo ρ μ fun d μ1 => match insD μ1 d with
  | some (C', fs) => C' = C ∧ fs.lookup m = none ∧ fa ρ μ1 fun ds μ2 => s (d :: ds) μ2 R
  | none => False
/-- a property, a call of an instance: s of the instance and the arguments -/
def rOwn (C : Addr) (s : GN) (fo : RX) (fa : RA) : RX := fun ρ μ R => fo ρ μ fun d μ1 => match insD μ1 d with
  | some (C', _) => C' = C ∧ fa ρ μ1 fun ds μ2 => (insD μ2 d).map (·.1) = some C ∧ s (d :: ds) μ2 R
  | none => False
/-- the class at C: the def f of it keeps s -/
structure MtG (P : Program) (w : World) (K : PySem.W.Frag) (mg : Str → Option Value) (base : Heap) (k : Nat) (C f : Addr) (s : GN) : Prop where
  ex : ∃ fd ps, FnOk P w K mg base CX0 k f fd ps (spD K s) ∧ Binds K fd ps []
theorem MtG.raw {P : Program} {w : World} {K : PySem.W.Frag} {mg : Str → Option Value} {base : Heap} {k : Nat} {C f : Addr} {s : GN} (F : MtG P w K mg base k C f s) : FnR P w K mg base CX0 k f (spD K s) := by
  obtain ⟨fd, ps, a, b⟩ := F.ex
  have z := a.raw b (dvs := []) .nil
  simp only [List.append_nil] at z
  exact z
theorem MtG.imp {P : Program} {w : World} {K : PySem.W.Frag} {mg : Str → Option Value} {base : Heap} {k : Nat} {C f : Addr} {s s' : GN} (F : MtG P w K mg base k C f s) (h : ∀ ds μ R, s' ds μ R → s ds μ R) : MtG P w K mg base k C f s' :=
  let ⟨fd, ps, a, d⟩ := F.ex; ⟨fd, ps, a.imp (spD_imp h), d⟩
section
variable {X : Cx} {k : Nat} {C g pr : Addr} {f m : Str} {s : GN} {e o : Expr} {es : List Expr} {fo : RX} {fa : RA} {p pos apos : Pos}
end

/-! ### a new instance -/
section
variable {K : PySem.W.Frag} {S H : Hp} {μ : MH} {C : Addr} {s : GN}
end
/-- the class x: g, what making it from all parameters' values asks; n: how many of the call's are positional, kw: the others' order -/
structure MkG (P : Program) (w : World) (K : PySem.W.Frag) (mg : Str → Option Value) (base : Heap) (k : Nat) (x : Str) (C : Addr) (s : GN) : Prop where
  ex : ∃ f fd ps, FnOk P w K mg base CX0 k f fd ps (spD K s) ∧ mg x = some (.ref C) ∧ Mk K C f ∧ Binds K fd ps []
def rMakeK (g : GN) (n m : Nat) (gD : List D → List D → List D) (fa fk : RA) : RX := fun ρ μ R => fa ρ μ fun ds μ1 => fk ρ μ1 fun zs μ2 => ds.length = n ∧ zs.length = m ∧ g (gD ds zs) μ2 R
section
variable {X : Cx} {k n : Nat} {C f : Addr} {x : Str} {fd : FuncData} {ps ks : List Str} {s : GN} {e : Expr} {es : List Expr} {kws : List Keyword} {fe : RX} {fa fk : RA} {p pos kpos : Pos} {nm : Option Str}
/-- how a keyword call of a class binds: dw, the defaults' values that fill up -/
structure MkK (P : Program) (w : World) (K : PySem.W.Frag) (mg : Str → Option Value) (base : Heap) (k : Nat) (x : Str) (C : Addr) (s : GN) (n : Nat) (ks : List Str) (gD : List D → List D → List D) : Prop where
  ex : ∃ f fd ps g gV, FnOk P w K mg base CX0 k f fd ps (spD K s) ∧ mg x = some (.ref C) ∧ Mk K C f ∧ KBn K fd ps (n + 1) ks g gV ∧
    ∀ (y : V) (b : D) (vs zs : List V) (ds es : List D) (S : Hp), Rep K S y b → Reps K S vs ds → Reps K S zs es → Reps K S (gV (y :: vs) zs) (b :: gD ds es)
end

/-! ### own operators -/
def gOwn2 (C : Addr) (s : GN) : G2 := fun x y μ R => (insD μ x).map (·.1) = some C ∧ (insD μ y).map (·.1) = some C ∧ s [x, y] μ R
def gOwn1 (C : Addr) (s : GN) : G1 := fun x μ R => (insD μ x).map (·.1) = some C ∧ s [x] μ R
section
variable {K : PySem.W.Frag} {X : Cx} {k : Nat} {C g : Addr} {s : GN} {a b : Expr} {fa fb : RX} {pos : Pos} {rc : Option Value}
end
end L3

/-! ## L3e -/
set_option Elab.async false
set_option linter.all false
set_option maxRecDepth 100000
set_option maxHeartbeats 4000000
namespace L3
open PySem PySem.Spec PyProof.Rows L2

/-! ### targets -/
abbrev RG := D → EV → MH → (EV → MH → Prop) → Prop
/-- v is stored; the slots beside those in vs stay -/
def upG (K : PySem.W.Frag) (g : RG) (vs : List Nat) : TG := fun v σ H Q => ∃ S μ ρ d QQ, OK K S μ H ∧ RepE K S σ ρ ∧ Rep K S v d ∧ g d ρ μ QQ ∧
  ∀ S' μ' H' σ' ρ', OK K S' μ' H' → Stp S μ H S' μ' H' → RepE K S' σ' ρ' → wipe σ' vs = wipe σ vs → QQ ρ' μ' → Q σ' H'
abbrev RGs := List D → EV → MH → (EV → MH → Prop) → Prop
def upGs (K : PySem.W.Frag) (g : RGs) (vs : List Nat) : TGs := fun ws σ H Q => ∃ S μ ρ ds QQ, OK K S μ H ∧ RepE K S σ ρ ∧ Reps K S ws ds ∧ g ds ρ μ QQ ∧
  ∀ S' μ' H' σ' ρ', OK K S' μ' H' → Stp S μ H S' μ' H' → RepE K S' σ' ρ' → wipe σ' vs = wipe σ vs → QQ ρ' μ' → Q σ' H'
abbrev DG (X : Cx) (e : Expr) (g : RG) (vs : List Nat) : Prop := PG X e (upG X.K g vs)
abbrev DGs (X : Cx) (es : List Expr) (g : RGs) (vs : List Nat) : Prop := PGs X es (upGs X.K g vs)
def rGN (i : Nat) : RG := fun d ρ μ Q => Q (st ρ i d) μ
def rGTup (n : Nat) (g : RGs) : RG := fun d ρ μ Q => match d with
  | .tup ds => ds.length = n ∧ g ds ρ μ Q
  | _ => False
def rGNil : RGs := fun ds ρ μ Q => ds = [] ∧ Q ρ μ
def rGCons (g : RG) (gs : RGs) : RGs := fun ds ρ μ Q => match ds with
  | d :: r => g d ρ μ fun ρ1 μ1 => gs r ρ1 μ1 Q
  | [] => False
theorem pg_imp {X : Cx} {e : Expr} {t u : TG} (h : PG X e t) (i : ∀ v σ H Q, u v σ H Q → t v σ H Q) : PG X e u := ⟨fun pins s σ H v w Q I r q => h.run pins s σ H v w Q I r (i v σ H Q q)⟩
theorem pgs_imp {X : Cx} {es : List Expr} {t u : TGs} (h : PGs X es t) (i : ∀ v σ H Q, u v σ H Q → t v σ H Q) : PGs X es u := ⟨fun pins s σ H v w Q I r q => h.run pins s σ H v w Q I r (i v σ H Q q)⟩
theorem wipe_set {σ : L2.St} {v : Option V} {i : Nat} : ∀ {vs : List Nat}, i ∈ vs → wipe (σ.set i v) vs = wipe σ vs
  | j :: vs, h => by
    unfold wipe
    by_cases e : i = j
    · subst e
      by_cases m : i ∈ vs
      · rw [wipe_set m]
      · have key : ∀ vs : List Nat, i ∉ vs → wipe (σ.set i v) vs = (wipe σ vs).set i v := by
          intro vs
          induction vs with
          | nil => intro _; rfl
          | cons k ks ih =>
            intro hn
            simp only [List.mem_cons, not_or] at hn
            unfold wipe
            rw [ih hn.2, List.set_comm _ _ hn.1]
        rw [key vs m, List.set_set]
    · rw [wipe_set (List.mem_of_ne_of_mem e h)]
section
variable {X : Cx} {e : Expr} {es : List Expr} {g : RG} {gs : RGs} {vs : List Nat} {pos : Pos}
theorem dg_name {i : Nat} {x : Str} (hN : X.N.Nodup) (hi : X.N[i]? = some x := by rfl) (hx : Loc X.env.scope x := by first | exact Or.inl rfl | exact Or.inr rfl) (hf : X.fn x = true ∨ X.env.scope.names.lookup x = some .local := by first | exact .inl rfl | exact .inr rfl)
    (hm : i ∈ vs := by first | exact List.mem_cons_self .. | decide) : DG X (.Name x pos) (rGN i) vs := pg_imp (pg_name hN hi hx hf) fun v σ H Q ⟨S, μ, ρ, d, QQ, k, e, r, h, post⟩ =>
  post S μ H _ _ k .refl (e.set r i) (wipe_set hm) h
theorem dgs_nil : DGs X [] rGNil vs := pgs_imp pgs_nil fun v σ H Q ⟨S, μ, ρ, d, QQ, k, e, r, h, post⟩ => by
  obtain ⟨rfl, h⟩ := h
  cases r
  exact ⟨rfl, post S μ H σ ρ k .refl e rfl h⟩
theorem dgs_cons (h1 : DG X e g vs) (h2 : DGs X es gs vs) (hs : (assignEach (e :: es) X.env).map (·.2) = assign e X.env :: (assignEach es X.env).map (·.2) := by rfl) : DGs X (e :: es) (rGCons g gs) vs := pgs_imp (pgs_cons h1 h2 hs) fun v σ H Q ⟨S, μ, ρ, ds, QQ, k, e, r, h, post⟩ => by
  cases r with
  | nil => exact h.elim
  | cons r rr =>
    refine ⟨_, _, rfl, S, μ, ρ, _, _, k, e, r, h, fun S1 μ1 H1 σ1 ρ1 k1 s1 e1 w1 h1 => ?_⟩
    exact ⟨S1, μ1, ρ1, _, QQ, k1, e1, rr.mono s1.same, h1, fun S2 μ2 H2 σ2 ρ2 k2 s2 e2 w2 h2 => post S2 μ2 H2 σ2 ρ2 k2 (s1.trans s2) e2 (w2.trans w1) h2⟩
theorem dg_tup {k : Nat} {n : Nat} (h : DGs X es gs vs) (hc : X.calm = true := by rfl) (hn : (assignEach es X.env).length = n := by rfl) (hst : (assignEach es X.env).findIdx? (·.1) = none := by rfl) : DG X (.Tuple es k pos) (rGTup n gs) vs := pg_imp (pg_tup hc h hn hst) fun v σ H Q ⟨S, μ, ρ, d, QQ, k, e, r, h, post⟩ => by
  cases d <;> first | exact False.elim h | skip
  obtain ⟨a, ws, rfl, h1, r1⟩ := r.toTup
  obtain ⟨hl, h⟩ := h
  exact ⟨a, ws, rfl, sqT_same k.sub h1, by rw [r1.length]; exact hl, S, μ, ρ, _, QQ, k, e, r1, h, post⟩
/-- a, b, .. = a list -/
def rGLst (n : Nat) (g : RGs) : RG := fun d ρ μ Q => match res μ d with
  | .lst ds => ds.length = n ∧ g ds ρ μ Q
  | _ => False
end

/-! ### statements -/
def rNext : RS := fun D ρ μ => D.nx ρ μ
def rSeq (f g : RS) : RS := fun D ρ μ => f { D with nx := fun ρ1 μ1 => g D ρ1 μ1 } ρ μ
def rAsg (f : RX) (g : RG) : RS := fun D ρ μ => f ρ μ fun d μ1 => g d ρ μ1 D.nx
def rRet (f : RX) : RS := fun D ρ μ => f ρ μ D.rt
def rRetN : RS := fun D _ μ => D.rt .non μ
def rDrop (f : RX) : RS := fun D ρ μ => f ρ μ fun _ μ1 => D.nx ρ μ1
def rIf (t : RT) (f g : RS) : RS := fun D ρ μ => t ρ μ fun b μ1 => if b = true then f D ρ μ1 else g D ρ μ1
def rNever : RS := fun _ _ _ => False
def rPar (i j : Nat) (fa : RA) : RS := fun D ρ μ => fa ρ μ fun ds μ1 => match ds with
  | [a, b] => D.nx (st (st ρ i a) j b) μ1
  | _ => False
section
variable {X : Cx} {a b : Stmt} {as bs rest : List Stmt} {f g : RS} {fe : RX} {ft : RT} {e c tg : Expr} {gg : RG} {pos : Pos} {vs : List Nat}
theorem dss_nil : DSs X [] rNext := pss_imp pss_nil fun D σ H ⟨S, μ, ρ, DD, k, e, h, l⟩ => l.nx S μ H σ ρ k .refl e h
theorem dss_cons (h1 : DS X a f) (h2 : DSs X rest g) : DSs X (a :: rest) (rSeq f g) := pss_imp (pss_cons h1 h2) fun D σ H ⟨S, μ, ρ, DD, k, e, h, l⟩ =>
  ⟨S, μ, ρ, _, k, e, h, ⟨fun S1 μ1 H1 σ1 ρ1 k1 s1 e1 q1 => ⟨S1, μ1, ρ1, DD, k1, e1, q1, l.stp s1⟩, l.rt, l.bk, l.ct⟩⟩
theorem dss_one (h1 : DS X a f) : DSs X [a] f := pss_one h1
theorem ds_never : DS X a rNever := ps_imp ps_never fun D σ H ⟨S, μ, ρ, DD, k, e, h, l⟩ => h
theorem ds_expr (he : DE X e fe) (hs : swapsWith e none pos.line X.env = pure false := by rfl) : DS X (.Expr e pos) (rDrop fe) := ps_imp (ps_expr he hs) fun D σ H ⟨S, μ, ρ, DD, k, e, h, l⟩ =>
  ⟨S, μ, ρ, _, k, e, h, fun S1 μ1 H1 v d k1 s1 r1 q1 => l.nx S1 μ1 H1 σ ρ k1 s1 (e.mono s1.same) q1⟩
theorem ds_ret (he : DE X e fe) : DS X (.Return (some e) pos) (rRet fe) := ps_imp (ps_ret he) fun D σ H ⟨S, μ, ρ, DD, k, e, h, l⟩ => ⟨S, μ, ρ, _, k, e, h, l.rt⟩
theorem ds_if (hc : DT X c ft) (ha : DSs X as f) (hb : DSs X bs g) : DS X (.If c as bs pos) (rIf ft f g) := ps_imp (ps_if hc ha hb) fun D σ H ⟨S, μ, ρ, DD, k, e, h, l⟩ => by
  refine ⟨S, μ, ρ, _, k, e, h, fun S1 μ1 H1 b1 k1 s1 h1 => ?_⟩
  cases b1 with
  | true => rw [if_pos rfl] at h1 ⊢; exact ⟨S1, μ1, ρ, DD, k1, e.mono s1.same, h1, l.stp s1⟩
  | false => rw [if_neg Bool.false_ne_true] at h1 ⊢; exact ⟨S1, μ1, ρ, DD, k1, e.mono s1.same, h1, l.stp s1⟩
theorem up_asg : ∀ D σ H, upS X.K (rAsg fe gg) D σ H → tAsg (up X.K fe) (upG X.K gg vs) D σ H := fun D σ H ⟨S, μ, ρ, DD, k, e, h, l⟩ => by
  refine ⟨S, μ, ρ, _, k, e, h, fun S1 μ1 H1 v d k1 s1 r1 q1 => ?_⟩
  exact ⟨S1, μ1, ρ, d, _, k1, e.mono s1.same, r1, q1, fun S2 μ2 H2 σ2 ρ2 k2 s2 e2 _ q2 => l.nx S2 μ2 H2 σ2 ρ2 k2 (s1.trans s2) e2 q2⟩
theorem ds_asg (he : DE X e fe) (hg : DG X tg gg vs) (hs : swapsWithSole [tg] e pos.line X.env = pure false := by rfl) (hw : swappedStores [tg] e X.env = pure none := by rfl)
    (h1 : (assignEach [tg] X.env).map (·.2) = [assign tg X.env] := by rfl) : DS X (.Assign [tg] e pos) (rAsg fe gg) := ps_imp (ps_asg he hg hs hw h1) up_asg
theorem ds_set {i : Nat} {x : Str} {pos' : Pos} (hN : X.N.Nodup) (he : DE X e fe) (hi : X.N[i]? = some x := by rfl) (hx : Loc X.env.scope x := by first | exact Or.inl rfl | exact Or.inr rfl) (hs : swapsWith e (some (.Name x pos')) pos.line X.env = pure false := by rfl)
    (hf : X.fn x = true ∨ X.env.scope.names.lookup x = some .local := by first | exact .inl rfl | exact .inr rfl) : DS X (.Assign [.Name x pos'] e pos) (rAsg fe (rGN i)) := ps_imp (ps_set hN hi hx he hs hf) fun D σ H ⟨S, μ, ρ, DD, k, e, h, l⟩ =>
  ⟨S, μ, ρ, _, k, e, h, fun S1 μ1 H1 v d k1 s1 r1 q1 => l.nx S1 μ1 H1 _ _ k1 s1 ((e.mono s1.same).set r1 i) q1⟩
theorem ds_par {i j : Nat} {x y : Str} {a b : Expr} {fa : RA} {px py pt : Pos} {kt k2 pt2} (hN : X.N.Nodup) (ha : DA X [a, b] fa) (hij : i ≠ j := by decide) (hi : X.N[i]? = some x := by rfl) (hj : X.N[j]? = some y := by rfl)
    (hx : X.env.scope.names.lookup x = some .local := by rfl) (hy : X.env.scope.names.lookup y = some .local := by rfl) (hc : X.calm = true := by rfl)
    (hw : swappedStores [.Tuple [.Name x px, .Name y py] kt pt] (.Tuple [a, b] k2 pt2) X.env = pure (some [x, y]) := by rfl)
    (hs : swapsWithSole [.Tuple [.Name x px, .Name y py] kt pt] (.Tuple [a, b] k2 pt2) pos.line X.env = pure false := by rfl) :
    DS X (.Assign [.Tuple [.Name x px, .Name y py] kt pt] (.Tuple [a, b] k2 pt2) pos) (rPar i j fa) := ps_imp (ps_par hc hN hi hj hij hx hy ha hw hs) fun D σ H ⟨S, μ, ρ, DD, k, e, h, l⟩ => by
  refine ⟨S, μ, ρ, _, k, e, h, fun S1 μ1 H1 ws ds k1 s1 r1 q1 => ?_⟩
  unfold rPar at q1
  split at q1
  · obtain ⟨v, w, rfl, r2, r3⟩ := reps2 r1
    exact ⟨v, w, rfl, l.nx S1 μ1 H1 _ _ k1 s1 (((e.mono s1.same).set r2 i).set r3 j) q1⟩
  · exact q1.elim
end
/-- name += e of ints, texts, tuples (a new object), by the operator's values -/
def rAug (i : Nat) (g : G2) (f : RX) : RS := fun D ρ μ => match gt ρ i with
  | some x => f ρ μ fun y μ1 => g x y μ1 fun z μ2 => D.nx (st ρ i z) μ2
  | none => False
section
variable {X : Cx} {e : Expr} {fe : RX} {pos : Pos} {i : Nat} {x : Str} {pos' : Pos}
theorem up_aug {ti : TIp} {g : G2} (s : Snd2 X.K ti g) : ∀ D σ H, upS X.K (rAug i g fe) D σ H → tAug i (up X.K fe) ti D σ H := fun D σ H ⟨S, μ, ρ, DD, k, e, h, l⟩ => by
  unfold rAug at h
  cases q : gt ρ i with
  | none => rw [q] at h; exact h.elim
  | some d =>
    rw [q] at h
    obtain ⟨v, h1, h2⟩ := e.get q
    refine ⟨v, h1, S, μ, ρ, _, k, e, h, fun S1 μ1 H1 w d2 k1 s1 r1 q1 => ?_⟩
    exact s S1 μ1 H1 v w d d2 _ _ k1 (h2.mono s1.same) r1 q1 fun S2 μ2 H2 z d3 k2 s2 r2 q2 => l.nx S2 μ2 H2 _ _ k2 (s1.trans s2) ((e.mono (s1.trans s2).same).set r2 i) q2
theorem snd_ip {K : PySem.W.Frag} {f : Int → Int → Int} : Snd2 K (ipI f) (gI0 fun i j => .int (f i j)) := by
  intro S μ H x y dx dy R Q k rx ry q post
  cases dx <;> cases dy <;> first | exact False.elim q | skip
  cases rx.toInt
  cases ry.toInt
  exact ⟨_, _, rfl, rfl, post S μ H _ _ k .refl (.int _) q⟩
theorem ds_augAdd (hN : X.N.Nodup) (he : DE X e fe) (hi : X.N[i]? = some x := by rfl) (hx : Loc X.env.scope x := by first | exact Or.inl rfl | exact Or.inr rfl) (hf : X.fn x = true ∨ X.env.scope.names.lookup x = some .local := by first | exact .inl rfl | exact .inr rfl) :
    DS X (.AugAssign (.Name x pos') .Add e pos) (rAug i (gI0 fun i j => .int (i + j)) fe) := ps_imp (ps_aug hN hi hx he ip_add hf) (up_aug snd_ip)
end

/-! ### while -/
def rWhile (c : RT) (b : RS) : RS := fun D ρ μ => ∃ (W : EV → MH → Prop) (m : EV → MH → Nat), W ρ μ ∧ ∀ ρ μ, W ρ μ → c ρ μ fun k μ1 =>
  if k = true then b { D with nx := fun ρ' μ' => W ρ' μ' ∧ m ρ' μ' < m ρ μ, ct := fun ρ' μ' => W ρ' μ' ∧ m ρ' μ' < m ρ μ, bk := D.nx } ρ μ1 else D.nx ρ μ1
theorem ds_while {X : Cx} {c : Expr} {body : List Stmt} {fc : RT} {fb : RS} {pos : Pos} (hc : DT X c fc) (hb : DSs X body fb) (hp : PassesOwn (model X.prog X.w) X.A X.env X.xe := by exact PassesOwn.never) : DS X (.While c body [] pos) (rWhile fc fb) :=
  ps_imp (ps_while hp hc hb) fun D σ H ⟨S, μ, ρ, DD, k, e, h, l⟩ => by
    obtain ⟨W, m, w0, turn⟩ := h
    refine ⟨fun n σ' H' => ∃ S' μ' ρ', OK X.K S' μ' H' ∧ Stp S μ H S' μ' H' ∧ RepE X.K S' σ' ρ' ∧ W ρ' μ' ∧ n = m ρ' μ', ⟨_, S, μ, ρ, k, .refl, e, w0, rfl⟩, ?_⟩
    rintro n σ1 H1 ⟨S1, μ1, ρ1, k1, s1, e1, w1, rfl⟩
    refine ⟨S1, μ1, ρ1, _, k1, e1, turn ρ1 μ1 w1, fun S2 μ2 H2 b2 k2 s2 q2 => ?_⟩
    cases b2 with
    | false => rw [if_neg Bool.false_ne_true] at q2 ⊢; exact l.nx S2 μ2 H2 _ _ k2 (s1.trans s2) (e1.mono s2.same) q2
    | true =>
      rw [if_pos rfl] at q2 ⊢
      refine ⟨fun σ' H' => ∃ S' μ' ρ', OK X.K S' μ' H' ∧ Stp S μ H S' μ' H' ∧ RepE X.K S' σ' ρ' ∧ W ρ' μ' ∧ m ρ' μ' < m ρ1 μ1, fun σ' H' ⟨S', μ', ρ', a, b, c, d, f⟩ => ⟨_, f, S', μ', ρ', a, b, c, d, rfl⟩, ?_⟩
      refine ⟨S2, μ2, ρ1, _, k2, e1.mono s2.same, q2, ⟨fun S3 μ3 H3 σ3 ρ3 k3 s3 e3 q3 => ?_, fun S3 μ3 H3 v d k3 s3 r3 q3 => ?_, fun S3 μ3 H3 σ3 ρ3 k3 s3 e3 q3 => ?_, fun S3 μ3 H3 σ3 ρ3 k3 s3 e3 q3 => ?_⟩⟩
      · exact ⟨S3, μ3, ρ3, k3, (s1.trans s2).trans s3, e3, q3.1, q3.2⟩
      · exact l.rt S3 μ3 H3 v d k3 ((s1.trans s2).trans s3) r3 q3
      · exact l.nx S3 μ3 H3 σ3 ρ3 k3 ((s1.trans s2).trans s3) e3 q3
      · exact ⟨S3, μ3, ρ3, k3, (s1.trans s2).trans s3, e3, q3.1, q3.2⟩

/-! ### what is walked -/
/-- J gives the data ds, one by one, while C holds of the changeable objects -/
def ItOk (K : PySem.W.Frag) (S : Hp) (J : It) (ds : List D) (C : MH → Prop) : Prop :=
  ∀ S1 μ1 H1, OK K S1 μ1 H1 → Same S S1 → C μ1 → ∀ i,
    (∀ d, ds[i]? = some d → J.go i H1 ∧ ∀ x H', J.yld i H1 x H' → ∃ S2, OK K S2 μ1 H' ∧ Stp S1 μ1 H1 S2 μ1 H' ∧ Rep K S2 x d) ∧ (i = ds.length → J.stop i H1)
abbrev RI := EV → MH → (List D → (MH → Prop) → MH → Prop) → Prop
def upI (K : PySem.W.Frag) (f : RI) : TI := fun σ H R => ∃ S μ ρ RR, OK K S μ H ∧ RepE K S σ ρ ∧ f ρ μ RR ∧
  ∀ S' μ' H' J ds C, OK K S' μ' H' → Stp S μ H S' μ' H' → ItOk K S' J ds C → RR ds C μ' → R J H'
abbrev DI (X : Cx) (tg e : Expr) (f : RI) : Prop := PI X tg e (upI X.K f)
theorem pi_imp {X : Cx} {tg e : Expr} {t u : TI} (h : PI X tg e t) (i : ∀ σ H R, u σ H R → t σ H R) : PI X tg e u := ⟨fun pins s σ H R I q => h.run pins s σ H R I (i σ H R q)⟩
def tru : MH → Prop := fun _ => True
/-- a list: of data, or a changeable one that stays -/
def rILst (f : RX) : RI := fun ρ μ R => f ρ μ fun d μ1 => match d with
  | .lst ds => R ds tru μ1
  | .scr ds => R ds tru μ1
  | .ref p => (match μ1 p with
    | some (.lst ds) => R ds (fun μ => μ p = some (.lst ds)) μ1
    | _ => False)
  | _ => False
def rITup (f : RX) : RI := fun ρ μ R => f ρ μ fun d μ1 => match d with
  | .tup ds => R ds tru μ1
  | _ => False
def rangeD (lo : Int) : Nat → List D
  | 0 => []
  | n + 1 => .int lo :: rangeD (lo + 1) n
theorem rangeD_get : ∀ (n : Nat) (lo : Int) (i : Nat), (rangeD lo n)[i]? = if i < n then some (.int (lo + i)) else none
  | 0, _, _ => by simp [rangeD]
  | n + 1, lo, 0 => by simp [rangeD]
  | n + 1, lo, i + 1 => by
    show (rangeD (lo + 1) n)[i]? = _
    rw [rangeD_get n (lo + 1) i]
    by_cases h : i < n
    · rw [if_pos h, if_pos (by omega)]
      congr 2
      omega
    · rw [if_neg h, if_neg (by omega)]
theorem rangeD_len : ∀ (n : Nat) (lo : Int), (rangeD lo n).length = n
  | 0, _ => rfl
  | n + 1, lo => congrArg Nat.succ (rangeD_len n (lo + 1))
def inR (j : Int) : Prop := -(2 ^ 62) ≤ j ∧ j < 2 ^ 62
def rIRng1 (fa : RA) : RI := fun ρ μ R => fa ρ μ fun ds μ1 => match ds with
  | [.int j] => inR j ∧ R (rangeD 0 j.toNat) tru μ1
  | _ => False
def rIRng2 (fa : RA) : RI := fun ρ μ R => fa ρ μ fun ds μ1 => match ds with
  | [.int i, .int j] => inR i ∧ inR j ∧ R (rangeD i (j - i).toNat) tru μ1
  | _ => False
section
variable {X : Cx} {tg e a b : Expr} {fe : RX} {fa : RA} {p pos : Pos}
theorem itok_list {K : PySem.W.Frag} {S : Hp} {q : Addr} {vs : List V} {ds : List D} {C : MH → Prop} (h : ∀ S1 μ1 H1, OK K S1 μ1 H1 → Same S S1 → C μ1 → ∃ vs, SqL K H1 q vs ∧ Reps K S1 vs ds) : ItOk K S (Itl K q) ds C := fun S1 μ1 H1 k1 e1 c1 i => by
  obtain ⟨vs, hq, r⟩ := h S1 μ1 H1 k1 e1 c1
  refine ⟨fun d hd => ?_, fun hi => ⟨vs, hq, by rw [r.length]; exact Nat.le_of_eq hi.symm⟩⟩
  obtain ⟨v, hv, rv⟩ := r.get hd
  refine ⟨⟨vs, v, hq, hv⟩, fun x H' ⟨eH, fx⟩ => ?_⟩
  subst eH
  have ex : x = v := Option.some.inj ((fx vs hq).symm.trans hv)
  exact ⟨S1, k1, .refl, ex ▸ rv⟩
theorem itok_tup {K : PySem.W.Frag} {S : Hp} {q : Addr} {vs : List V} {ds : List D} {C : MH → Prop} (hq : SqT K S q vs) (r : Reps K S vs ds) : ItOk K S (Itt K q) ds C := fun S1 μ1 H1 k1 e1 c1 i => by
  have hq1 : SqT K H1 q vs := sqT_same k1.sub (sqT_same e1 hq)
  refine ⟨fun d hd => ?_, fun hi => ⟨vs, hq1, by rw [r.length]; exact Nat.le_of_eq hi.symm⟩⟩
  obtain ⟨v, hv, rv⟩ := r.get hd
  refine ⟨⟨vs, v, hq1, hv⟩, fun x H' ⟨eH, fx⟩ => ?_⟩
  subst eH
  have ex : x = v := Option.some.inj ((fx vs hq1).symm.trans hv)
  exact ⟨S1, k1, .refl, ex ▸ rv.mono e1⟩
theorem itok_range {K : PySem.W.Frag} {S : Hp} {lo : Int} {n : Nat} {C : MH → Prop} : ItOk K S (Itr lo n) (rangeD lo n) C := fun S1 μ1 H1 k1 e1 c1 i => by
  refine ⟨fun d hd => ?_, fun hi => ?_⟩
  · rw [rangeD_get] at hd
    by_cases h : i < n
    · rw [if_pos h] at hd
      cases hd
      refine ⟨h, fun x H' ⟨eH, ex⟩ => ?_⟩
      subst eH ex
      exact ⟨S1, k1, .refl, .int _⟩
    · rw [if_neg h] at hd; cases hd
  · rw [rangeD_len] at hi; exact Nat.le_of_eq hi.symm
theorem di_list (h : DE X e fe) : DI X tg e (rILst fe) := pi_imp (pi_list h) fun σ H R ⟨S, μ, ρ, RR, k, e, h, post⟩ => by
  refine ⟨S, μ, ρ, _, k, e, h, fun S1 μ1 H1 v d k1 s1 r1 q1 => ?_⟩
  cases d with
  | lst ds =>
    cases r1 with
    | lst a r =>
      exact ⟨_, rfl, ⟨_, .of (k1.sub _ _ a)⟩, post S1 μ1 H1 _ ds tru k1 s1 (itok_list (vs := []) fun S2 μ2 H2 k2 e2 _ => ⟨_, .of (k2.sub _ _ (e2 _ _ a)), r.mono e2⟩) q1⟩
  | scr ds =>
    cases r1 with
    | scr a r =>
      exact ⟨_, rfl, ⟨_, sqL_same k1.sub a⟩, post S1 μ1 H1 _ ds tru k1 s1 (itok_list (vs := []) fun S2 μ2 H2 k2 e2 _ => ⟨_, sqL_same k2.sub (sqL_same e2 a), r.mono e2⟩) q1⟩
  | ref p =>
    cases r1.toRef
    cases q : μ1 p with
    | none =>
      have q1 : (match μ1 p with | some (.lst ds) => RR ds (fun μ => μ p = some (.lst ds)) μ1 | _ => False) := q1
      rw [q] at q1; exact q1.elim
    | some m =>
      have q1 : (match μ1 p with | some (.lst ds) => RR ds (fun μ => μ p = some (.lst ds)) μ1 | _ => False) := q1
      rw [q] at q1
      cases m with
      | ins _ _ => exact q1.elim
      | tab _ => exact q1.elim
      | dk _ => exact q1.elim
      | dct _ _ => exact q1.elim
      | lst ds =>
        obtain ⟨_, vs, h2, r2⟩ := k1.mts p _ q
        exact ⟨p, rfl, ⟨vs, .of h2⟩, post S1 μ1 H1 _ ds _ k1 s1 (itok_list (vs := []) fun S2 μ2 H2 k2 e2 c2 => by
          obtain ⟨_, vs', h3, r3⟩ := k2.mts p _ c2
          exact ⟨vs', .of h3, r3⟩) q1⟩
  | _ => exact False.elim q1
theorem di_tup (h : DE X e fe) : DI X tg e (rITup fe) := pi_imp (pi_tup h) fun σ H R ⟨S, μ, ρ, RR, k, e, h, post⟩ => by
  refine ⟨S, μ, ρ, _, k, e, h, fun S1 μ1 H1 v d k1 s1 r1 q1 => ?_⟩
  cases d with
  | tup ds =>
    obtain ⟨a, vs, rfl, h2, r2⟩ := r1.toTup
    exact ⟨a, rfl, ⟨vs, sqT_same k1.sub h2⟩, post S1 μ1 H1 _ ds tru k1 s1 (itok_tup h2 r2) q1⟩
  | _ => exact False.elim q1
theorem di_range1 (hg : Gl X "range") (hm : X.mg "range" = none) (ha : DA X [a] fa) (hs : starEach [a] X.env = [(false, eval a X.env)] := by rfl) : DI X tg (.Call (.Name "range" p) [a] [] pos) (rIRng1 fa) := pi_imp (pi_range1 hg hm ha hs) fun σ H R ⟨S, μ, ρ, RR, k, e, h, post⟩ => by
  refine ⟨S, μ, ρ, _, k, e, h, fun S1 μ1 H1 ws ds k1 s1 r1 q1 => ?_⟩
  unfold rIRng1 at q1
  split at q1
  · obtain ⟨v, rfl, r2⟩ := reps1 r1
    cases r2.toInt
    obtain ⟨⟨a1, a2⟩, q1⟩ := q1
    exact ⟨_, rfl, a1, a2, post S1 μ1 H1 _ _ tru k1 s1 itok_range q1⟩
  · exact q1.elim
end

/-! ### for -/
def forD (g : RG) (b : RS) (C : MH → Prop) (D : Ed) : List L3.D → EV → MH → Prop
  | [], ρ, μ => C μ ∧ D.nx ρ μ
  | d :: r, ρ, μ => C μ ∧ g d ρ μ fun ρ1 μ1 => b { D with nx := forD g b C D r, ct := forD g b C D r, bk := D.nx } ρ1 μ1
def rFor (fi : RI) (g : RG) (b : RS) : RS := fun D ρ μ => fi ρ μ fun ds C μ1 => forD g b C D ds ρ μ1
theorem forD_c {g : RG} {b : RS} {C : MH → Prop} {D : Ed} {ds : List L3.D} {ρ : EV} {μ : MH} (h : forD g b C D ds ρ μ) : C μ := by
  cases ds with
  | nil => exact h.1
  | cons _ _ => exact h.1
theorem ds_for {X : Cx} {tg iter : Expr} {body : List Stmt} {fi : RI} {g : RG} {fb : RS} {vs : List Nat} {pos : Pos} (hi : DI X tg iter fi) (hg : DG X tg g vs) (hb : DSs X body fb) (hp : PassesOwn (model X.prog X.w) X.A X.env X.xe := by exact PassesOwn.never) (hc : X.calm = true := by rfl)
    (hs : ∀ x, foldedSetIterable iter X.env x = pure x := by intro _; rfl) : DS X (.For tg iter body [] pos) (rFor fi g fb) :=
  ps_imp (ps_for hp hc hi hg hb hs) fun D σ H ⟨S, μ, ρ, DD, k, e, h, l⟩ => by
    refine ⟨S, μ, ρ, _, k, e, h, fun S1 μ1 H1 J ds C k1 s1 it q1 => ?_⟩
    refine ⟨fun i m σ' H' => m = ds.length - i ∧ i ≤ ds.length ∧ ∃ S' μ' ρ', OK X.K S' μ' H' ∧ Stp S1 μ1 H1 S' μ' H' ∧ RepE X.K S' σ' ρ' ∧ forD g fb C DD (ds.drop i) ρ' μ', ⟨_, rfl, Nat.zero_le _, S1, μ1, ρ, k1, .refl, e.mono s1.same, by rw [List.drop_zero]; exact q1⟩, ?_⟩
    rintro i m σ2 H2 ⟨rfl, hi, S2, μ2, ρ2, k2, s2, e2, q2⟩
    have io := it S2 μ2 H2 k2 s2.same (forD_c q2) i
    by_cases hlt : i < ds.length
    · have hd : ds[i]? = some ds[i] := List.getElem?_eq_getElem hlt
      have ed : ds.drop i = ds[i] :: ds.drop (i + 1) := List.drop_eq_getElem_cons hlt
      rw [ed] at q2
      obtain ⟨hgo, hy⟩ := io.1 _ hd
      refine .inr ⟨hgo, fun σ' H' => ∃ S' μ' ρ', OK X.K S' μ' H' ∧ Stp S1 μ1 H1 S' μ' H' ∧ RepE X.K S' σ' ρ' ∧ forD g fb C DD (ds.drop (i + 1)) ρ' μ', fun σ' H' ⟨S', μ', ρ', a, b, c, d⟩ => ⟨ds.length - (i + 1), by omega, rfl, hlt, S', μ', ρ', a, b, c, d⟩, fun x H' y => ?_⟩
      obtain ⟨S3, k3, s3, r3⟩ := hy x H' y
      refine ⟨S3, μ2, ρ2, _, _, k3, e2.mono s3.same, r3, q2.2, fun S4 μ4 H4 σ4 ρ4 k4 s4 e4 _ q4 => ?_⟩
      have s14 := (s2.trans s3).trans s4
      refine ⟨S4, μ4, ρ4, _, k4, e4, q4, ⟨fun S5 μ5 H5 σ5 ρ5 k5 s5 e5 q5 => ?_, fun S5 μ5 H5 v d k5 s5 r5 q5 => ?_, fun S5 μ5 H5 σ5 ρ5 k5 s5 e5 q5 => ?_, fun S5 μ5 H5 σ5 ρ5 k5 s5 e5 q5 => ?_⟩⟩
      · exact ⟨S5, μ5, ρ5, k5, s14.trans s5, e5, q5⟩
      · exact l.rt S5 μ5 H5 v d k5 (s1.trans (s14.trans s5)) r5 q5
      · exact l.nx S5 μ5 H5 σ5 ρ5 k5 (s1.trans (s14.trans s5)) e5 q5
      · exact ⟨S5, μ5, ρ5, k5, s14.trans s5, e5, q5⟩
    · have ei : i = ds.length := by omega
      subst ei
      rw [List.drop_length] at q2
      exact .inl ⟨io.2 rfl, l.nx S2 μ2 H2 σ2 ρ2 k2 (s1.trans s2) e2 q2.2⟩

theorem Stp.aside {S S' H H' : Hp} {μ μ' : MH} {D : Addr} {o : HO} (s : Stp S μ H S' μ' H') (h : H D = none) : Stp S μ H S' μ' (upd H' D o) :=
  ⟨s.same, s.news, fun b x e1 e2 n => by rw [upd_ne (ne_of_none e1 h)]; exact s.keep b x e1 e2 n, s.mus⟩
theorem Stp.takeS {S S' H H' : Hp} {μ μ' : MH} {D : Addr} {o : HO} (s : Stp S μ H S' μ' H') (h : Free H D ∨ ∃ m, μ D = some m) (hS : S' D = none) : Stp S μ H (upd S' D o) μ' H' := by
  refine ⟨s.same.trans (same_updn hS), fun b x e => ?_, s.keep, s.mus⟩
  by_cases q : b = D
  · exact .inr (.inl (q ▸ h))
  · rw [upd_ne q] at e; exact s.news b x e
theorem Stp.put {S H : Hp} {μ : MH} {p : Addr} {m m' : MO} {o : HO} (h : μ p = some m) : Stp S μ H S (updM μ p m') (upd H p o) := by
  refine ⟨fun _ _ z => z, fun _ _ z => .inl z, fun b x e1 e2 _ => ?_, fun b x e => ?_⟩
  · have q : b ≠ p := fun z => by rw [z, h] at e2; cases e2
    rw [upd_ne q]; exact e1
  · by_cases q : b = p
    · exact .inr ⟨m, q ▸ h⟩
    · rw [updM_ne q] at e; exact .inr ⟨x, e⟩
theorem wipe_sub {ws : List Nat} : ∀ (vs : List Nat) (σ : L2.St), (∀ i ∈ vs, i ∈ ws) → wipe (wipe σ vs) ws = wipe σ ws
  | [], σ, _ => rfl
  | v :: vs, σ, s => by
    show wipe ((wipe σ vs).set v none) ws = _
    rw [wipe_set (s v (List.mem_cons_self ..)), wipe_sub vs σ fun i hi => s i (List.mem_cons_of_mem _ hi)]
theorem wipe_idem (vs : List Nat) (σ : L2.St) : wipe (wipe σ vs) vs = wipe σ vs := wipe_sub vs σ fun _ h => h

/-! ### comprehensions -/
def lcD (g : RG) (t : RT) (f : RX) (C : MH → Prop) (ρ : EV) : List L3.D → List L3.D → MH → (List L3.D → MH → Prop) → Prop
  | [], acc, μ, R => C μ ∧ R acc μ
  | d :: r, acc, μ, R => C μ ∧ g d ρ μ fun ρ1 μ1 => t ρ1 μ1 fun b μ2 => if b = true then f ρ1 μ2 fun y μ3 => lcD g t f C ρ r (acc ++ [y]) μ3 R else lcD g t f C ρ r acc μ2 R
theorem lcD_c {g : RG} {t : RT} {f : RX} {C : MH → Prop} {ρ : EV} {ds acc : List L3.D} {μ : MH} {R : List L3.D → MH → Prop} (h : lcD g t f C ρ ds acc μ R) : C μ := by
  cases ds with
  | nil => exact h.1
  | cons _ _ => exact h.1
def rLc (fi : RI) (g : RG) (t : RT) (f : RX) (vs : List Nat) : RX := fun ρ μ R => fi ρ μ fun ds C μ1 => ds.length ≤ sizeLine ∧ lcD g t f C (rms ρ vs) ds [] μ1 fun zs μ2 => R (.lst zs) μ2
def rLcM (fi : RI) (g : RG) (t : RT) (f : RX) (vs : List Nat) : RX := fun ρ μ R => fi ρ μ fun ds C μ1 => ds.length ≤ sizeLine ∧ lcD g t f C (rms ρ vs) ds [] μ1 fun zs μ2 => ∀ p, μ2 p = none → R (.ref p) (updM μ2 p (.lst zs))
def rTrue : RT := fun _ μ R => R true μ
abbrev DTs (X : Cx) (ifs : List Expr) (t : RT) : Prop := PTs X ifs (upT X.K t)
section
variable {X : Cx}
theorem pts_imp {es : List Expr} {t u : TT} (h : PTs X es t) (i : ∀ σ H Q, u σ H Q → t σ H Q) : PTs X es u := ⟨fun pins s σ H Q I q => h.run pins s σ H Q I (i σ H Q q)⟩
theorem dts_nil : DTs X [] rTrue := pts_imp pts_nil fun σ H Q ⟨S, μ, ρ, R, k, e, h, post⟩ => post S μ H _ k .refl h
theorem dts_one {c : Expr} {t : RT} (h : DT X c t) : DTs X [c] t := pts_one h
/-- the core: fin, what is wanted of the list at D -/
theorem up_lc {K : PySem.W.Frag} {fi : RI} {g : RG} {t : RT} {f : RX} {vs : List Nat} {S H : Hp} {μ : MH} {ρ : EV} {σ : L2.St} {Q : VK} {RR : List L3.D → MH → Prop} (k : OK K S μ H) (e : RepE K S σ ρ)
    (h : fi ρ μ fun ds C μ1 => ds.length ≤ sizeLine ∧ lcD g t f C (rms ρ vs) ds [] μ1 RR)
    (fin : ∀ S' μ' H' D zs ws, OK K S' μ' H' → Stp S μ H S' μ' H' → (Free H D ∨ ∃ m, μ D = some m) → S' D = none → μ' D = none → H' D = some (.lst ws) → Reps K S' ws zs → RR zs μ' → Q (.ref D) H') : tLc (upI K fi) (upG K g vs) (upT K t) (up K f) vs σ H Q := by
  refine ⟨S, μ, ρ, _, k, e, h, fun S1 μ1 H1 J ds C k1 s1 it q1 D hD => ?_⟩
  obtain ⟨hz, q1⟩ := q1
  obtain ⟨hSD, hMD⟩ := k1.free hD
  have HD : Free H D ∨ ∃ m, μ D = some m := by
    cases w : H D with
    | none => exact .inl (free_none w)
    | some o =>
      cases w2 : μ D with
      | none =>
        by_cases n : ∃ ps, o = .tbl ps
        · exact .inl fun o' e' => by rw [w] at e'; cases e'; exact n
        · rw [s1.keep D o w w2 fun ps z => n ⟨ps, z⟩] at hD; cases hD
      | some m => exact .inr ⟨m, rfl⟩
  refine ⟨fun i m H' => m = ds.length - i ∧ i ≤ ds.length ∧ ∃ S' μ' ws acc, OK K S' μ' H' ∧ Stp S1 μ1 H1 S' μ' H' ∧ S' D = none ∧ μ' D = none ∧ H' D = some (.lst ws) ∧ Reps K S' ws acc ∧ acc.length ≤ i ∧ lcD g t f C (rms ρ vs) (ds.drop i) acc μ' RR,
    ⟨_, rfl, Nat.zero_le _, S1, μ1, [], [], k1.hide hD, Stp.refl.aside hD, hSD, hMD, upd_same, .nil, Nat.le_refl _, by rw [List.drop_zero]; exact q1⟩, ?_⟩
  rintro i m H2 ⟨rfl, hi, S2, μ2, ws, acc, k2, s2, hS, hM, hL, ra, la, q2⟩
  have io := it S2 μ2 H2 k2 s2.same (lcD_c q2) i
  by_cases hlt : i < ds.length
  · have hd : ds[i]? = some ds[i] := List.getElem?_eq_getElem hlt
    have ed : ds.drop i = ds[i] :: ds.drop (i + 1) := List.drop_eq_getElem_cons hlt
    rw [ed] at q2
    obtain ⟨hgo, hy⟩ := io.1 _ hd
    -- what stays true of the list at D
    have st : ∀ {S3 μ3 H3}, OK K S3 μ3 H3 → Stp S2 μ2 H2 S3 μ3 H3 → S3 D = none ∧ μ3 D = none ∧ H3 D = some (.lst ws) ∧ Reps K S3 ws acc := fun {S3 μ3 H3} k3 z => by
      refine ⟨?_, ?_, z.keep _ _ hL hM (fun _ w => by cases w), ra.mono z.same⟩
      · cases w : S3 D with
        | none => rfl
        | some o =>
          rcases z.news D o w with a | (a | ⟨m, a⟩) | ⟨q, a⟩
          · rw [hS] at a; cases a
          · exact (free_no a hL fun _ w => by cases w).elim
          · rw [hM] at a; cases a
          · have a1 := k3.sub D o w
            rw [z.keep _ _ hL hM (fun _ w => by cases w), a] at a1
            unfold LamX.CodeO at a1
            cases a1
      · cases w : μ3 D with
        | none => rfl
        | some o =>
          rcases z.mus D o w with a | ⟨m, a⟩
          · exact (free_no a hL fun _ w => by cases w).elim
          · rw [hM] at a; cases a
    refine .inr ⟨hgo, fun H' => ∃ S' μ' ws acc, OK K S' μ' H' ∧ Stp S1 μ1 H1 S' μ' H' ∧ S' D = none ∧ μ' D = none ∧ H' D = some (.lst ws) ∧ Reps K S' ws acc ∧ acc.length ≤ i + 1 ∧ lcD g t f C (rms ρ vs) (ds.drop (i + 1)) acc μ' RR, fun H' z => ⟨ds.length - (i + 1), by omega, rfl, hlt, z⟩, fun x H' y => ?_⟩
    obtain ⟨S3, k3, s3, r3⟩ := hy x H' y
    have e3 : RepE K S3 (wipe σ vs) (rms ρ vs) := (((e.mono s1.same).mono s2.same).mono s3.same).wipe vs
    refine ⟨S3, μ2, rms ρ vs, _, _, k3, e3, r3, q2.2, fun S4 μ4 H4 σ4 ρ4 k4 s4 e4 w4 q4 => ?_⟩
    have s24 := s3.trans s4
    refine ⟨w4.trans (wipe_idem vs σ), S4, μ4, ρ4, _, k4, e4, q4, fun S5 μ5 H5 b5 k5 s5 q5 => ?_⟩
    have s25 := s24.trans s5
    cases b5 with
    | false =>
      rw [if_neg Bool.false_ne_true] at q5
      refine iteF ?_
      obtain ⟨a1, a2, a3, a4⟩ := st k5 s25
      exact ⟨S5, μ5, ws, acc, k5, s2.trans s25, a1, a2, a3, a4, by omega, q5⟩
    | true =>
      rw [if_pos rfl] at q5
      refine iteT ?_
      refine ⟨S5, μ5, ρ4, _, k5, e4.mono s5.same, q5, fun S6 μ6 H6 v6 d6 k6 s6 r6 q6 => ?_⟩
      have s26 := s25.trans s6
      obtain ⟨a1, a2, a3, a4⟩ := st k6 s26
      refine ⟨ws, a3, by rw [ra.length]; omega, S6, μ6, ws ++ [v6], acc ++ [d6], k6.aside a1 a2, (s2.trans s26).aside hD, a1, a2, upd_same, a4.append (.cons r6 .nil), by simp; omega, q6⟩
  · have ei : i = ds.length := by omega
    subst ei
    rw [List.drop_length] at q2
    exact .inl ⟨io.2 rfl, fin S2 μ2 H2 D acc ws k2 (s1.trans s2) HD hS hM hL ra q2.2⟩
theorem up_lcF {K : PySem.W.Frag} {fi : RI} {g : RG} {t : RT} {f : RX} {vs : List Nat} : ∀ σ H Q, up K (rLc fi g t f vs) σ H Q → tLc (upI K fi) (upG K g vs) (upT K t) (up K f) vs σ H Q := fun σ H Q ⟨S, μ, ρ, R, k, e, h, post⟩ =>
  up_lc k e h fun S' μ' H' D zs ws k' s' n1 n2 n3 n4 r q => post _ _ _ _ _ (k'.take n4 n2 n3) (s'.takeS n1 n2) (.lst upd_same (r.mono (same_updn n2))) q
theorem de_lc {elt tg iter : Expr} {ifs : List Expr} {scope : Scope} (own : List (Str × Nat)) {pos : Pos} {fi : RI} {g : RG} {t : RT} {f : RX} (hN : X.N.Nodup) (hi : DI X tg iter fi) (ok : blkC X.N X.env.scope scope own = true)
    (hg : ∀ (s : Shared) (H : Hp) (C : Addr) (cl : List (Str × Addr)) (fp : List Addr), DG (X.blk s H scope (compEnvC scope cl C X.env) fp) tg g (own.map (·.2))) (ht : ∀ (s : Shared) (H : Hp) (C : Addr) (cl : List (Str × Addr)) (fp : List Addr), DTs (X.blk s H scope (compEnvC scope cl C X.env) fp) ifs t)
    (he : ∀ (s : Shared) (H : Hp) (C : Addr) (cl : List (Str × Addr)) (fp : List Addr), DE (X.blk s H scope (compEnvC scope cl C X.env) fp) elt f) (hc : X.calm = true := by rfl) (hs : ∀ x, foldedSetIterable iter X.env x = pure x := by intro _; rfl) :
    DE X (.ListComp elt [⟨tg, iter, ifs, 0⟩] scope pos) (rLc fi g t f (own.map (·.2))) := pe_imp (pe_lc hc hN hi (blkOk_by ok) hg ht he hs) up_lcF
end

/-! ### attributes set, lists changed -/
def rFldS (C : Addr) (f : Str) (fo fv : RX) : RS := fun D ρ μ => fv ρ μ fun z μ1 => fo ρ μ1 fun d μ2 => match d with
  | .ref p => (match μ2 p with
    | some (.ins C' fs) => C' = C ∧ fs.length < 1000 ∧ D.nx ρ (updM μ2 p (.ins C (putD f z fs)))
    | _ => False)
  | _ => False
section
variable {K : PySem.W.Frag} {X : Cx} {C : Addr} {f : Str} {o value : Expr} {fo fv : RX} {pos pos' : Pos}
/-- xs.append(e) -/
def rMut (fo : RX) (fa : RA) (g : List L3.D → List L3.D → (L3.D → List L3.D → Prop) → Prop) : RX := fun ρ μ R => fo ρ μ fun d μ1 => match d with
  | .ref p => (match μ1 p with
    | some (.lst _) => fa ρ μ1 fun ds μ2 => (match μ2 p with
      | some (.lst xs) => g xs ds fun z ys => R z (updM μ2 p (.lst ys))
      | _ => False)
    | _ => False)
  | _ => False
def gAppend : List L3.D → List L3.D → (L3.D → List L3.D → Prop) → Prop := fun xs ds R => match ds with
  | [d] => xs.length < sizeLine ∧ R .non (xs ++ [d])
  | _ => False
def gPopAt : List L3.D → List L3.D → (L3.D → List L3.D → Prop) → Prop := fun xs ds R => match ds with
  | [.int i] => -(2 ^ 63) ≤ i ∧ i < 2 ^ 63 ∧ (match seqIndex? i xs.length with
    | some k => (match xs[k]? with
      | some d => R d (xs.eraseIdx k)
      | none => False)
    | none => False)
  | _ => False
def SndM (K : PySem.W.Frag) (r : V → List V → Hp → VK → Prop) (g : List L3.D → List L3.D → (L3.D → List L3.D → Prop) → Prop) : Prop :=
  ∀ S μ H p vs xs ws ds (R : L3.D → List L3.D → Prop) (Q : VK), OK K S μ H → H p = some (.lst vs) → Reps K S vs xs → Reps K S ws ds → g xs ds R → (∀ z ys v us, Rep K S v z → Reps K S us ys → R z ys → Q v (upd H p (.lst us))) → r (.ref p) ws H Q
theorem snd_append : SndM K rAppend gAppend := by
  intro S μ H p vs xs ws ds R Q k h r rs q post
  unfold gAppend at q
  split at q
  · obtain ⟨v, rfl, r1⟩ := reps1 rs
    exact ⟨p, vs, v, rfl, rfl, h, by rw [r.length]; exact q.1, post _ _ _ _ .non (r.append (.cons r1 .nil)) q.2⟩
  · exact q.elim
theorem snd_popAt : SndM K rPopAt gPopAt := by
  intro S μ H p vs xs ws ds R Q k h r rs q post
  unfold gPopAt at q
  split at q
  · rename_i i
    obtain ⟨v, rfl, r1⟩ := reps1 rs
    cases r1.toInt
    obtain ⟨q1, q2, q⟩ := q
    cases e1 : seqIndex? i xs.length with
    | none => rw [e1] at q; exact q.elim
    | some j =>
      rw [e1] at q
      dsimp only at q
      cases e2 : xs[j]? with
      | none => rw [e2] at q; exact q.elim
      | some d =>
        rw [e2] at q
        obtain ⟨v, hv, rv⟩ := r.get e2
        exact ⟨p, vs, i, j, v, rfl, rfl, h, q1, q2, by rw [r.length]; exact e1, hv, post _ _ _ _ rv (r.eraseIdx j) q⟩
  · exact q.elim
section
variable {T : String} {name id : Str} {idS : String} {r : V → List V → Hp → VK → Prop} {g : List L3.D → List L3.D → (L3.D → List L3.D → Prop) → Prop} {e : Expr} {es : List Expr} {fa : RA}
theorem up_mut (s : SndM K r g) : ∀ σ H Q, up K (rMut fo fa g) σ H Q → tBM K "list" r (up K fo) (upA K fa) σ H Q := fun σ H Q ⟨S, μ, ρ, R, k, e, h, post⟩ => by
  refine ⟨S, μ, ρ, _, k, e, h, fun S1 μ1 H1 v d k1 s1 r1 h1 => ?_⟩
  cases d with
  | ref p =>
    cases r1.toRef
    have h1 : (match μ1 p with | some (.lst _) => fa ρ μ1 fun ds μ2 => (match μ2 p with | some (.lst xs) => g xs ds fun z ys => R z (updM μ2 p (.lst ys)) | _ => False) | _ => False) := h1
    cases q : μ1 p with
    | none => rw [q] at h1; exact h1.elim
    | some m =>
      rw [q] at h1
      cases m with
      | ins _ _ => exact h1.elim
      | tab _ => exact h1.elim
      | dk _ => exact h1.elim
      | dct _ _ => exact h1.elim
      | lst xs0 =>
        obtain ⟨_, vs0, e0, _⟩ := k1.mts p _ q
        refine ⟨.inl ⟨rfl, _, .inl (.inl e0)⟩, S1, μ1, ρ, _, k1, e.mono s1.same, h1, fun S2 μ2 H2 ws ds k2 s2 r2 h2 => ?_⟩
        cases q2 : μ2 p with
        | none => rw [q2] at h2; exact h2.elim
        | some m2 =>
          rw [q2] at h2
          cases m2 with
          | ins _ _ => exact h2.elim
          | tab _ => exact h2.elim
          | dk _ => exact h2.elim
          | dct _ _ => exact h2.elim
          | lst xs =>
            obtain ⟨hS, vs, e3, r3⟩ := k2.mts p _ q2
            refine s S2 μ2 H2 p vs xs ws ds _ Q k2 e3 r3 r2 h2 fun z ys w us rz ry h3 => ?_
            exact post S2 _ _ _ _ (k2.put (m := .lst ys) hS ⟨us, upd_same, ry⟩) ((s1.trans s2).trans (.put q2)) rz h3
  | _ => exact False.elim h1
end
end
end L3

/-! ## L3f -/
set_option Elab.async false
set_option linter.all false
set_option maxRecDepth 100000
set_option maxHeartbeats 4000000
namespace L3
open PySem PySem.Spec PyProof.Rows L2

section
variable {X : Cx} {o e i : Expr} {fo fe fi : RX} {fa : RA} {pos apos : Pos}
theorem de_append (ho : DE X o fo) (ha : DA X [e] fa) (hbase : attributeBase o "append" X.env (eval o X.env) = eval o X.env := by rfl)
    (hfew : ((backTo pos (starEach [e] X.env)).all (fun x => !x.1) && (backToKw pos (keywordEach [] X.env)).all (fun x => x.1.isSome)
      && decide ([e].length + ([] : List Keyword).length + (if ([] : List Keyword).isEmpty then 0 else 1) < 30)) = true := by rfl)
    (hline : (apos.endLine == pos.line) = true := by rfl) (hst : starEach [e] X.env = (false, eval e X.env) :: starEach [] X.env := by rfl) : DE X (.Call (.Attribute o "append" apos) [e] [] pos) (rMut fo fa gAppend) :=
  pe_imp (pe_bm PySem.F.plainAttrs_list PySem.F.slot_list_append PySem.F.type_list_append mt_append ho ha hbase hfew hline hst) (up_mut snd_append)
theorem de_popAt (ho : DE X o fo) (ha : DA X [e] fa) (hbase : attributeBase o "pop" X.env (eval o X.env) = eval o X.env := by rfl)
    (hfew : ((backTo pos (starEach [e] X.env)).all (fun x => !x.1) && (backToKw pos (keywordEach [] X.env)).all (fun x => x.1.isSome)
      && decide ([e].length + ([] : List Keyword).length + (if ([] : List Keyword).isEmpty then 0 else 1) < 30)) = true := by rfl)
    (hline : (apos.endLine == pos.line) = true := by rfl) (hst : starEach [e] X.env = (false, eval e X.env) :: starEach [] X.env := by rfl) : DE X (.Call (.Attribute o "pop" apos) [e] [] pos) (rMut fo fa gPopAt) :=
  pe_imp (pe_bm PySem.F.plainAttrs_list PySem.F.slot_list_pop PySem.F.type_list_pop mt_popAt ho ha hbase hfew hline hst) (up_mut snd_popAt)
/-- o[i] = e -/
def rSetIx (fe fo fi : RX) : RS := fun D ρ μ => fe ρ μ fun v μ1 => fo ρ μ1 fun d μ2 => fi ρ μ2 fun j μ3 => match d, j with
  | .ref p, .int k => (match μ3 p with
    | some (.lst xs) => (match ixN xs.length k with
      | some n => D.nx ρ (updM μ3 p (.lst (xs.set n v)))
      | none => False)
    | _ => False)
  | _, _ => False
theorem ds_setIx (he : DE X e fe) (ho : DE X o fo) (hi : DE X i fi) (hs : swapsWithSole [.Subscript o i apos] e pos.line X.env = pure false := by rfl) (hw : swappedStores [.Subscript o i apos] e X.env = pure none := by rfl)
    (h1 : (assignEach [.Subscript o i apos] X.env).map (·.2) = [assign (.Subscript o i apos) X.env] := by rfl)
    (ha : ∀ v, assign (.Subscript o i apos) X.env v = (do
      let ov ← holding [v] (eval o X.env)
      let iv ← holding [v, ov] (eval i X.env)
      standAt apos
      holding [v, ov, iv] (setItem ov iv v)
      release [v, ov, iv] []) := by intro _; rfl) : DS X (.Assign [.Subscript o i apos] e pos) (rSetIx fe fo fi) := ps_imp (ps_asg he (pg_sub ho hi set_list ha) hs hw h1) fun D σ H ⟨S, μ, ρ, DD, k, e, h, l⟩ => by
  refine ⟨S, μ, ρ, _, k, e, h, fun S1 μ1 H1 v d k1 s1 r1 h1 => ?_⟩
  refine ⟨S1, μ1, ρ, _, k1, e.mono s1.same, h1, fun S2 μ2 H2 w d2 k2 s2 r2 h2 => ?_⟩
  refine ⟨S2, μ2, ρ, _, k2, (e.mono s1.same).mono s2.same, h2, fun S3 μ3 H3 j d3 k3 s3 r3 h3 => ?_⟩
  cases d2 <;> cases d3 <;> first | exact False.elim h3 | skip
  rename_i p z
  cases r2.toRef
  cases r3.toInt
  have h3 : (match μ3 p with | some (.lst xs) => (match ixN xs.length z with | some n => DD.nx ρ (updM μ3 p (.lst (xs.set n d))) | none => False) | _ => False) := h3
  cases q : μ3 p with
  | none => rw [q] at h3; exact h3.elim
  | some m =>
    rw [q] at h3
    cases m with
    | ins _ _ => exact h3.elim
    | tab _ => exact h3.elim
    | dk _ => exact h3.elim
    | dct _ _ => exact h3.elim
    | lst xs =>
      dsimp only at h3
      cases q2 : ixN xs.length z with
      | none => rw [q2] at h3; exact h3.elim
      | some n =>
        rw [q2] at h3
        obtain ⟨hS, vs, e1, r4⟩ := k3.mts p _ q
        refine ⟨p, vs, z, n, rfl, rfl, e1, by rw [r4.length]; exact q2, ?_⟩
        exact l.nx _ _ _ _ _ (k3.put (m := .lst (xs.set n d)) hS ⟨_, upd_same, r4.set (r1.mono (s2.trans s3).same) n⟩) (((s1.trans s2).trans s3).trans (.put q)) (((e.mono s1.same).mono s2.same).mono s3.same) h3
end

/-! ### a def keeps its promise -/
section
variable {P : Program} {w : World} {K : PySem.W.Frag} {mg : Str → Option Value} {base : Heap}
theorem fnD {x qual : Str} {params : Arguments} {bd : List Stmt} {scope : Scope} {dvs : List V} {kws : List (Str × V)} {f : Addr} {fd : FuncData} {N ps : List Str} {k : Nat} {s : GN} {body : RS} (F : FunD K x qual params bd scope dvs kws f fd) (Sc : FnScope N ps scope)
    (len : ∀ ds μ R, s ds μ R → ds.length = ps.length)
    (hb : ∀ (cdv : Value) (A : Around) (outer : List Env) (s0 : Shared) (H : Hp) (E : XK), Room k (A.deeper (envOfC qual scope s0.heap.objs.size f cdv)) → DSs (cxOf CX0 P w K mg base N qual scope f cdv A outer s0 H E).nox bd body)
    (hv : ∀ ds μ R, s ds μ R → body { nx := fun _ μ' => R .non μ', rt := R } (startD N.length ds) μ) : FnOk P w K mg base CX0 (k + 1) f fd ps (spD K s) := by
  refine F.ok Sc (fun vs H Q E h => ?_) fun cdv A outer s0 H vs Q E hr h => ⟨upS K body, PSs.nox (hb cdv A outer s0 H E hr), ?_⟩
  · obtain ⟨S, μ, ds, R, a, b, c, d⟩ := h
    rw [b.length]
    exact len ds μ R c
  · obtain ⟨S, μ, ds, R, a, b, c, d⟩ := h
    exact ⟨S, μ, _, _, a, repE_start b, hv ds μ R c, ⟨fun S' μ' H' σ' ρ' k' s' e' q' => d S' μ' H' _ _ k' s' .non q', fun S' μ' H' v z k' s' r' q' => d S' μ' H' v z k' s' r' q', fun _ _ _ _ _ _ _ _ q' => False.elim q', fun _ _ _ _ _ _ _ _ q' => False.elim q'⟩⟩
end

/-! ### the law -/
theorem reps_ints {K : PySem.W.Frag} {S : Hp} : ∀ ns : List Int, Reps K S (ns.map V.int) (ns.map D.int)
  | [] => .nil
  | n :: r => .cons (.int n) (reps_ints r)
/-- all but the tables -/
def noT (H : Hp) : Hp := fun b => match H b with
  | some (.tbl _) => none
  | x => x
theorem noT_sub {H : Hp} : Same (noT H) H := fun b o e => by
  unfold noT at e
  split at e
  · cases e
  · exact e
theorem noT_at {H : Hp} {b : Addr} {o : HO} (h : H b = some o) (n : ∀ ps, o ≠ .tbl ps) : noT H b = some o := by
  unfold noT
  rw [h]
  split
  · rename_i ps e
    exact absurd (Option.some.inj e) (n _)
  · rfl
theorem noT_nst {H : Hp} (b : Addr) (ps : Array Value) : noT H b ≠ some (.tbl ps) := fun e => by
  unfold noT at e
  split at e
  · cases e
  · rename_i n
    exact n ps e
theorem noT_seq {K : PySem.W.Frag} {H : Hp} {a : Addr} {xs : List V} (h : SqL K H a xs) : SqL K (noT H) a xs := by
  rcases h with (h | ⟨o, h⟩) | h
  · exact .inl (.inl (noT_at h fun _ z => by cases z))
  · exact .inl (.inr ⟨o, noT_at h fun _ z => by cases z⟩)
  · exact .inr h
end L3

/-! ## L3g -/
set_option Elab.async false
set_option linter.all false
set_option maxRecDepth 100000
set_option maxHeartbeats 4000000
namespace L3
open PySem PySem.Spec PyProof.Rows L2

/-! ### further rules -/
/-- a module's constant -/
structure ConstOk (K : PySem.W.Frag) (mg : Str → Option Value) (x : Str) (d : D) : Prop where
  ex : ∃ u v, mg x = some u ∧ RelV v u ∧ ∀ S, Rep K S v d
theorem ConstOk.de {X : Cx} {x : Str} {d : D} {pos : Pos} (c : ConstOk X.K X.mg x d) (hg : Gl X x := by rfl) (hd : (x == ("__debug__" : Str)) = false := by decide) : DE X (.Name x pos) (rC d) := by
  obtain ⟨u, v, a, b, r⟩ := c.ex
  exact de_glob hg a b r hd
theorem FnG.raw {P : Program} {w : World} {K : PySem.W.Frag} {mg : Str → Option Value} {base : Heap} {k : Nat} {x : Str} {s : GN} (F : FnG P w K mg base k x s) : ∃ f, FnR P w K mg base CX0 k f (spD K s) ∧ mg x = some (.ref f) ∧ PySem.W.keepIn K (.ref f) = true := by
  obtain ⟨f, fd, ps, a, b, c, d⟩ := F.ex
  have z := a.raw d (dvs := []) .nil
  simp only [List.append_nil] at z
  exact ⟨f, z, b, c⟩
section
variable {X : Cx} {k : Nat} {x : Str} {s : GN} {e : Expr} {es : List Expr} {fa : RA} {fe : RX} {p pos p2 : Pos}
/-- f(*xs) -/
theorem de_callS1 (F : FnG X.prog X.w X.K X.mg X.base k x s) (hr : Room k X.A) (hg : Gl X x) (he : DE X e fe) (hd : (x == ("__debug__" : Str)) = false := by decide)
    (hst : starEach [.Starred e p2] X.env = [(true, eval e X.env)] := by rfl) : DE X (.Call (.Name x p) [.Starred e p2] [] pos) (rCl s (rStar fe rNil)) := by
  obtain ⟨f, a, b, c⟩ := F.raw
  refine pe_imp (StX.pe_callS1 a hr c hg b pass0 he hd hst) fun σ H Q ⟨S, μ, ρ, R, k, e, h, post⟩ => ?_
  refine ⟨S, μ, ρ, _, k, e, h, fun S1 μ1 H1 v1 d1 k1 s1 r1 h1 => ?_⟩
  cases q : seqD (res μ1 d1) with
  | none => rw [q] at h1; exact h1.elim
  | some xs =>
    rw [q] at h1
    obtain ⟨y, vs, e1, h2, r2⟩ := seq_rep k1 r1 q
    have h1 : s (xs ++ []) μ1 R := h1
    rw [List.append_nil] at h1
    exact ⟨y, vs, e1, h2.symm, S1, μ1, xs, R, k1, r2, h1, fun S3 μ3 H3 v d k3 s3 r3 h3 => post S3 μ3 H3 v d k3 (s1.trans s3) r3 h3⟩
end
/-- C(e, ..) where the keyword-only defaults fill up: their data at the end -/
structure MkD (P : Program) (w : World) (K : PySem.W.Frag) (mg : Str → Option Value) (base : Heap) (k : Nat) (x : Str) (C : Addr) (s : GN) (dd : List D) : Prop where
  ex : ∃ f fd ps ds dvs, FnOk P w K mg base CX0 k f fd ps (spD K s) ∧ mg x = some (.ref C) ∧ Mk K C f ∧ Binds K fd ps ds ∧ Vals dvs ds ∧ ∀ S, Reps K S dvs dd
def rMakeD (g : GN) (dd : List D) (fa : RA) : RX := fun ρ μ R => fa ρ μ fun ds μ1 => g (ds ++ dd) μ1 R
section
variable {X : Cx} {k : Nat} {C : Addr} {x : Str} {s : GN} {dd : List D} {e : Expr} {es : List Expr} {fa : RA} {p pos : Pos}
end
def rPar3 (i j l : Nat) (fa : RA) : RS := fun D ρ μ => fa ρ μ fun ds μ1 => match ds with
  | [a, b, c] => D.nx (st (st (st ρ i a) j b) l c) μ1
  | _ => False
/-! ### isinstance of an own class -/
structure IsiO (K : PySem.W.Frag) (C : Addr) : Prop where
  cls : Cls K C
  ha : PySem.W.findIn K (.ref C) "__class__" = some (some (.builtin "object.__class__"))
  hn : PySem.W.specialIn K (.builtin "object.__class__") "__get__" = some (some (.builtin "getset_descriptor.__get__"))
  ht : PySem.W.takesIn K (.builtin "object.__class__") = some true
  hm : PySem.W.mroIn K C (.type "object") = some true
  own : PySem.W.kitOne K (.ref C) (.ref C) = some true
  oth : ∀ t : String, t ∈ ["NoneType", "bool", "int", "str", "tuple", "list"] → PySem.W.kitOne K (.type t) (.ref C) = some false
section
variable {X : Cx} {C : Addr} {x : Str} {e : Expr} {fe : RX} {p p2 pos : Pos}
end
end L3

/-! ## L3h -/
set_option Elab.async false
set_option linter.all false
set_option maxRecDepth 100000
set_option maxHeartbeats 4000000
/-! What the head reads besides: properties' getters, own calls. -/
namespace L3
open PySem PySem.Spec PyProof.Rows L2

/-- a def at an address of one's own -/
structure FnX where
  at_ : PySem.W.Frag → Addr
  name : Str
  qual : Str
  params : Arguments
  body : List Stmt
  scope : Scope
abbrev FxV : Type := Option ((Str × Str × Scope) × (Arguments × FuncBody) × (Addr × Addr) × List (Str × Addr) × Value)
def fxOf (fd : FuncData) : FxV := some ((fd.name, fd.qualname, fd.scope), (fd.params, fd.body), (fd.globals, fd.builtins), fd.closure, fd.defaults)
def FnX.obs (K : PySem.W.Frag) (d : FnX) : FxV := (K.lookup (d.at_ K)).bind fun o => match o with
  | ⟨_, _, .func fd, _⟩ => fxOf fd
  | _ => none
def FnX.val (d : FnX) : FxV := some ((d.name, d.qual, d.scope), (d.params, .stmts d.body), (mainGlobals, builtinsNs), [], .none)
def FnX.ok (K : PySem.W.Frag) (d : FnX) : Bool := PySem.W.keepIn K (.ref (d.at_ K)) && ((K.lookup (d.at_ K)).any fun o => match o with
  | ⟨_, _, .func fd, _⟩ => PySem.W.codeIn K fd.code d.qual
  | _ => false)
/-! ### the hook: facts, defs, checks of one's own, getters -/
abbrev AlX : Type := (Bool × Bool) × He.AlD × List FxV
def obsX (xb : List (PySem.W.Frag → Bool)) (fa : List He.Fa) (fn : List He.DefD) (fx : List FnX) (K : PySem.W.Frag) : AlX := ((xb.all fun b => b K, fx.all fun d => d.ok K), He.obsD fa fn K, fx.map fun d => d.obs K)
def valX (fn : List He.DefD) (fx : List FnX) : AlX := ((true, true), He.valD fn, fx.map FnX.val)
section
variable {xb : List (PySem.W.Frag → Bool)} {fa : List He.Fa} {fn : List He.DefD} {fx : List FnX} {K : PySem.W.Frag}
theorem says_d (c : obsX xb fa fn fx K = valX fn fx) : He.SaysD fa fn K := congrArg (fun z : AlX => z.2.1) c
theorem says_b (c : obsX xb fa fn fx K = valX fn fx) (i : Nat) {b : PySem.W.Frag → Bool} (h : xb[i]? = some b := by rfl) : b K = true :=
  List.all_eq_true.mp (congrArg (fun z : AlX => z.1.1) c) b (List.mem_of_getElem? h)
end
/-- a def that promises nothing -/
theorem FnOk.none {P : Program} {w : World} {K : PySem.W.Frag} {mg : Str → Option Value} {base : Heap} {f : Addr} {fd : FuncData} {ps : List Str} {k : Nat} : FnOk P w K mg base CX0 k f fd ps (spD K fun _ _ _ => False) :=
  ⟨fun _ _ _ _ ⟨_, _, _, _, _, _, h, _⟩ => h.elim, fun _ _ _ _ _ _ _ _ _ _ _ _ _ ⟨_, _, _, _, _, _, h, _⟩ => h.elim⟩
end L3

/-! ## L3i -/
set_option Elab.async false
set_option linter.all false
set_option maxRecDepth 100000
set_option maxHeartbeats 4000000
/-! More readings. -/
namespace L3
open PySem PySem.Spec PyProof.Rows L2
def rChain (g g' : G2) (fa fb fc : RX) : RX := fun ρ μ R => fa ρ μ fun x μ1 => fb ρ μ1 fun y μ2 => g x y μ2 fun d μ3 => match d with
  | .bl b => if b = true then fc ρ μ3 fun z μ4 => g' y z μ4 R else R (.bl false) μ3
  | _ => False
section
variable {K : PySem.W.Frag} {X : Cx} {a b c : Expr} {fa fb fc : RX} {pos : Pos}
theorem up_chain {r r' : R2} {g g' : G2} (s : Snd2 K r g) (s' : Snd2 K r' g') : ∀ σ H Q, up K (rChain g g' fa fb fc) σ H Q → tChain r r' (up K fa) (up K fb) (up K fc) σ H Q := by
  rintro σ H Q ⟨S, μ, ρ, R, k, e, h, post⟩
  refine ⟨S, μ, ρ, _, k, e, h, fun S1 μ1 H1 v1 d1 k1 s1 r1 h1 => ?_⟩
  refine ⟨S1, μ1, ρ, _, k1, e.mono s1.same, h1, fun S2 μ2 H2 v2 d2 k2 s2 r2 h2 => ?_⟩
  refine s S2 μ2 H2 v1 v2 d1 d2 _ _ k2 (r1.mono s2.same) r2 h2 fun S3 μ3 H3 v d k3 s3 r3 h3 => ?_
  cases d with
  | bl b =>
    refine ⟨b, r3.toBl, ?_⟩
    have h3 : (if b = true then fc ρ μ3 fun z μ4 => g' d2 z μ4 R else R (.bl false) μ3) := h3
    have s13 := (s1.trans s2).trans s3
    cases b with
    | true =>
      rw [if_pos rfl] at h3 ⊢
      refine ⟨S3, μ3, ρ, _, k3, e.mono s13.same, h3, fun S4 μ4 H4 v4 d4 k4 s4 r4 h4 => ?_⟩
      exact s' S4 μ4 H4 v2 v4 d2 d4 R Q k4 (r2.mono (s3.trans s4).same) r4 h4 fun S5 μ5 H5 v5 d5 k5 s5 r5 h5 => post S5 μ5 H5 v5 d5 k5 ((s13.trans s4).trans s5) r5 h5
    | false =>
      rw [if_neg Bool.false_ne_true] at h3 ⊢
      exact post S3 μ3 H3 _ _ k3 s13 (.bl _) h3
  | _ => exact False.elim h3
theorem dt_chain {op op' : CmpOp} {r r' : R2} {g g' : G2} (ho : OpR X (compareOp op) r) (ho' : OpR X (compareOp op') r') (s : Snd2 X.K r g) (s' : Snd2 X.K r' g') (ha : DE X a fa) (hb : DE X b fb) (hc : DE X c fc)
    (hm : lastMarks [op, op'] [b, c] = false := by with_unfolding_all rfl) : DT X (.Compare a [op, op'] [b, c] pos) (rB (rChain g g' fa fb fc)) := pt_imp (pt_chain ho ho' ha hb hc hm) fun σ H Q ⟨S, μ, ρ, R, k, e, h, post⟩ => by
  refine up_chain s s' σ H (fun x H' => ∃ k, x = .bl k ∧ Q k H') ⟨S, μ, ρ, _, k, e, h, fun S1 μ1 H1 v1 d1 k1 s1 r1 h1 => ?_⟩
  cases d1 <;> first | exact False.elim h1 | skip
  cases r1.toBl
  exact ⟨_, rfl, post S1 μ1 H1 _ k1 s1 h1⟩
theorem dt_chain_le_le (ha : DE X a fa) (hb : DE X b fb) (hc : DE X c fc) (hm : lastMarks [.LtE, .LtE] [b, c] = false := by with_unfolding_all rfl) : DT X (.Compare a [.LtE, .LtE] [b, c] pos) (rB (rChain gLe gLe fa fb fc)) :=
  dt_chain op_le op_le (snd_I0 fun i j S => .bl _) (snd_I0 fun i j S => .bl _) ha hb hc hm
end
end L3

/-! ## L3j -/
set_option Elab.async false
set_option linter.all false
set_option maxRecDepth 100000
set_option maxHeartbeats 4000000
/-! Classes whose __init__ takes a star parameter. -/
namespace L3
open PySem PySem.Spec PyProof.Rows L2 StX
def starSp (sp : Sp) : Sp := fun vs H Q E => ∃ ws rest, vs = ws ++ rest ∧ ws.length = ([""] : List Str).length ∧ rest.length ≤ sizeLine ∧ ∀ p, H p = Option.none → sp (ws ++ [V.ref p]) (upd H p (.tup rest)) Q E
/-- the class x, its __init__(self, *v): s speaks of [self, the tuple] -/
structure MkS (P : Program) (w : World) (K : PySem.W.Frag) (mg : Str → Option Value) (base : Heap) (k : Nat) (x : Str) (C : Addr) (s : GN) : Prop where
  ex : ∃ f, FnR P w K mg base CX0 k f (starSp (spD K s)) ∧ mg x = some (.ref C) ∧ Mk K C f
section
variable {P : Program} {w : World} {K : PySem.W.Frag} {mg : Str → Option Value} {base : Heap}
end
section
variable {K : PySem.W.Frag} {S H : Hp} {μ : MH} {C : Addr} {s : GN}
end
section
variable {X : Cx} {k : Nat} {C : Addr} {x : Str} {s : GN} {e : Expr} {es : List Expr} {fe : RX} {fa : RA} {p pos sp_ : Pos}
end
end L3

/-! ## L3k -/
set_option Elab.async false
set_option linter.all false
set_option maxRecDepth 100000
set_option maxHeartbeats 4000000
/-! zip of two rows, each a list or a tuple. -/
namespace L3
open PySem PySem.Spec PyProof.Rows L2
/-- a list (true) or a tuple (false) at a -/
def SqB (K : PySem.W.Frag) : Bool → Hp → Addr → List V → Prop
  | true, H, a, xs => SqL K H a xs
  | false, H, a, xs => SqT K H a xs
def ItIs (h : Heap) : Bool → Addr → Addr → Nat → Prop
  | true => h.IsListIter
  | false => h.IsTupleIter
def SqIs (h : Heap) : Bool → Addr → Array Value → Prop
  | true => h.IsList
  | false => h.IsTuple
theorem inv_sq {X : Cx} {pins : List (Addr × Obj)} {σ : L2.St} {H : Hp} {s : Shared} {a : Addr} {xs : List V} (I : Inv X pins σ H s) : ∀ (b : Bool), SqB X.K b H a xs → ∃ its : List Value, Vals xs its ∧ SqIs s.heap b a its.toArray
  | true, h => let ⟨its, rv, p, _⟩ := I.list h; ⟨its, rv, p.isList⟩
  | false, h => let ⟨its, rv, p, _⟩ := I.tuple h; ⟨its, rv, p⟩
theorem inj_sq {X : Cx} {pins : List (Addr × Obj)} {σ : L2.St} {H : Hp} {s : Shared} {a : Addr} {xs ys : List V} (I : Inv X pins σ H s) : ∀ (b : Bool), SqB X.K b H a xs → SqB X.K b H a ys → xs = ys
  | true, h, h' => I.list_inj h h'
  | false, h, h' => I.tuple_inj h h'
theorem sq_lt {h : Heap} {a : Addr} {its : Array Value} : ∀ (b : Bool), SqIs h b a its → a < h.objs.size
  | true, p => let ⟨_, e, _⟩ := p; Heap.lt_size e
  | false, p => let ⟨_, e, _⟩ := p; Heap.lt_size e
theorem it_obj {h : Heap} {i l : Addr} {k : Nat} : ∀ (b : Bool), ItIs h b i l k → ∃ o, h.get? i = some o ∧ ∀ v, o.data ≠ .cell v
  | true, ⟨o, e, _, d⟩ => ⟨o, e, fun v q => by rw [d] at q; cases q⟩
  | false, ⟨o, e, _, d⟩ => ⟨o, e, fun v q => by rw [d] at q; cases q⟩
theorem it_at {h h' : Heap} {i l : Addr} {k : Nat} : ∀ (b : Bool), ItIs h b i l k → (∀ o, h.get? i = some o → h'.get? i = some o) → ItIs h' b i l k
  | true, p, e => Heap.IsListIter.at p e
  | false, p, e => Heap.IsTupleIter.at p e
theorem draws_sq {prog : Program} {w : World} {A : Around} (hh : A.handled = none) (it l : Addr) (ne : l ≠ it) (its : Array Value) : ∀ b : Bool, Draws prog w A it [it, l] its.size (fun i v => its[i]? = some v) (fun i h => ItIs h b it l i ∧ SqIs h b l its)
  | true => Draws.list hh it l ne its
  | false => Draws.tuple hh it l ne its
theorem zip_sep {z TI TO i1 i2 a b : Addr} (D : ZipApart z TI TO i1 i2 a b) : ZipSep2 z TI TO i1 i2 [i1, a] [i2, b] := by
  refine ⟨D.TIz, D.TOz, D.TITO, D.TIi1, by simp, ?_, ?_, D.TIi2, by simp, ?_, ?_, ?_, ?_⟩ <;> simp
  · exact ⟨D.i1z.symm, D.l1z.symm⟩
  · exact ⟨D.TOi1, D.l1TO.symm⟩
  · exact ⟨D.i2z.symm, D.l2z.symm⟩
  · exact ⟨D.TOi2, D.l2TO.symm⟩
  · exact ⟨D.i12, D.l2i1.symm⟩
  · exact ⟨D.i12.symm, D.l1i2.symm⟩
/-- the rows at a and b as they stand at each turn, the items in new pairs -/
def ItzB (K : PySem.W.Frag) (ka kb : Bool) (a b : Addr) : It :=
  ⟨fun i H => ∃ (xs ys : List V) (x y : V), SqB K ka H a xs ∧ SqB K kb H b ys ∧ xs[i]? = some x ∧ ys[i]? = some y,
   fun i H v H' => ∃ T x y, v = .ref T ∧ H T = none ∧ H' = upd H T (.tup [x, y]) ∧ (∀ xs, SqB K ka H a xs → xs[i]? = some x) ∧ ∀ ys, SqB K kb H b ys → ys[i]? = some y,
   fun i H => ∃ xs ys : List V, SqB K ka H a xs ∧ SqB K kb H b ys ∧ i ≤ xs.length ∧ i ≤ ys.length ∧ (i = xs.length ∨ i = ys.length)⟩
theorem turn_zipB {P : Program} {w : World} {K : PySem.W.Frag} {elts : List Expr} {kk : Nat} {tpos : Pos} {ka kb : Bool} {a b z TI TO i1 i2 : Addr} (D : ZipApart z TI TO i1 i2 a b) :
    Turn P w K (.Tuple elts kk tpos) (ItzB K ka kb a b) [z, TI, TO, i1, i2] z (fun i h => IsZip h z TI TO .none ∧ IsPair h TI (.ref i1) (.ref i2) ∧ (∃ x y, IsPair h TO x y) ∧ ItIs h ka i1 a i ∧ ItIs h kb i2 b i) := by
  have five : ∀ {c : Addr}, c ∈ [z, TI, TO, i1, i2] → c = z ∨ c = TI ∨ c = TO ∨ c = i1 ∨ c = i2 := fun hc => by simpa using hc
  refine ⟨by simp, ?_, ?_, ?_, ?_, fun A i s Q E st h => wpAny_pyIter_zip st.1 h⟩
  · rintro i h ⟨sz, sI, ⟨x, y, sO⟩, j1, j2⟩ c hc
    rcases five hc with rfl | rfl | rfl | rfl | rfl
    · exact ⟨_, sz, fun v q => nomatch q⟩
    · exact ⟨_, sI, fun v q => nomatch q⟩
    · exact ⟨_, sO, fun v q => nomatch q⟩
    · exact it_obj ka j1
    · exact it_obj kb j2
  · rintro i h h' ⟨sz, sI, ⟨x, y, sO⟩, j1, j2⟩ kp
    exact ⟨kp z (by simp) _ sz, kp TI (by simp) _ sI, ⟨x, y, kp TO (by simp) _ sO⟩, it_at ka j1 fun o q => kp i1 (by simp) o q, it_at kb j2 fun o q => kp i2 (by simp) o q⟩
  · intro X hP hw hK hc i pins s σ H E I hf st hg
    subst hP hw hK
    obtain ⟨sz, sI, ⟨x0, y0, sO⟩, j1, j2⟩ := st
    obtain ⟨xs, ys, x, y, qa, qb, hx, hy⟩ := hg
    obtain ⟨its, rv, p⟩ := inv_sq I ka qa
    obtain ⟨jts, rw', p2⟩ := inv_sq I kb qb
    obtain ⟨u, hu, ru⟩ := rv.get hx
    obtain ⟨u2, hu2, ru2⟩ := rw'.get hy
    have hh : X.A.in1.handled = none := I.ok.hd hc
    have lz : z < s.heap.objs.size := Heap.lt_size sz
    have n1 : i < its.toArray.size := by
      have := (List.getElem?_eq_some_iff.mp hu).1
      simpa using this
    have n2 : i < jts.toArray.size := by
      have := (List.getElem?_eq_some_iff.mp hu2).1
      simpa using this
    refine wpAny_pyNext_zipD2_item (zip_sep D) (draws_sq hh i1 a D.l1i1 its.toArray ka) (draws_sq hh i2 b D.l2i2 jts.toArray kb) sz sI sO ⟨j1, p⟩ ⟨j2, p2⟩ n1 n2 fun w1 w2 h' tk b1 b2 z' o' k1 k2 hT hsz hk => ?_
    have eu : w1 = u := by
      have : its[i]? = some w1 := by simpa using b1
      exact Option.some.inj (this.symm.trans hu)
    have eu2 : w2 = u2 := by
      have : jts[i]? = some w2 := by simpa using b2
      exact Option.some.inj (this.symm.trans hu2)
    subst eu eu2
    refine ⟨_, rfl, wpAny_letOwnedTupleGo_zip (s := { s with heap := h', toks := tk }) z' fun h2 z2 sb => ?_⟩
    have hT2 : h2.get? s.heap.objs.size = some { cls := .type "tuple", data := .seq #[w1, w2] } := by rw [sb.2 _ (Nat.ne_of_gt lz)]; exact hT
    have hk2 : ∀ c o, c ≠ z → c ≠ TO → c ≠ i1 → c ≠ i2 → s.heap.get? c = some o → h2.get? c = some o := fun c o c1 c2 c3 c4 q => by rw [sb.2 _ c1]; exact hk c o c1 c2 c3 c4 q
    have fresh : ObjOk X.prog X.w (upd H s.heap.objs.size (.tup [x, y])) h2 s.heap.objs.size (.tup [x, y]) := ⟨(by decide : 2 ≤ sizeLine), [w1, w2], .cons ru (.cons ru2 .nil), ⟨_, hT2, rfl, _, rfl⟩⟩
    have J : Inv X pins σ (upd H s.heap.objs.size (.tup [x, y])) { s with heap := h2, toks := tk } :=
      I.turnedNew (t' := tk) (ch := [z, TI, TO, i1, i2]) (fun c o hb q => hk2 c o (fun e => hb (by simp [e])) (fun e => hb (by simp [e])) (fun e => hb (by simp [e])) (fun e => hb (by simp [e])) q) hf (Nat.le_refl _) fresh
    refine ⟨.ref s.heap.objs.size, _, J, rfl, ⟨_, x, y, rfl, I.hok.fresh (Nat.le_refl _), rfl, fun l hl => by rw [inj_sq I ka hl qa]; exact hx, fun l hl => by rw [inj_sq I kb hl qb]; exact hy⟩, ⟨z2, hk2 _ _ D.TIz D.TITO D.TIi1 D.TIi2 sI, ⟨w1, w2, ?_⟩, ?_, ?_⟩, fun c hcm => ?_⟩
    · show h2.get? TO = _
      rw [sb.2 _ D.TOz]
      exact o'
    · exact it_at ka k1.1 fun o q => by rw [sb.2 _ D.i1z]; exact q
    · exact it_at kb k2.1 fun o q => by rw [sb.2 _ D.i2z]; exact q
    · have lt : c < s.heap.objs.size := by
        rcases five hcm with rfl | rfl | rfl | rfl | rfl
        · exact lz
        · exact Heap.lt_size sI
        · exact Heap.lt_size sO
        · obtain ⟨_, e, _⟩ := it_obj ka j1; exact Heap.lt_size e
        · obtain ⟨_, e, _⟩ := it_obj kb j2; exact Heap.lt_size e
      rw [upd_ne (Nat.ne_of_lt lt)]
      exact (hf c hcm).1
  · intro X hP hw hK hc i pins s σ H E I hf st hg
    subst hP hw hK
    obtain ⟨sz, sI, ⟨x0, y0, sO⟩, j1, j2⟩ := st
    obtain ⟨xs, ys, qa, qb, l1, l2, hend⟩ := hg
    obtain ⟨its, rv, p⟩ := inv_sq I ka qa
    obtain ⟨jts, rw', p2⟩ := inv_sq I kb qb
    have hh : X.A.in1.handled = none := I.ok.hd hc
    have e1 := rv.length
    have e2 := rw'.length
    refine wpAny_pyNext_zipD2_end (zip_sep D) (draws_sq hh i1 a D.l1i1 its.toArray ka) (draws_sq hh i2 b D.l2i2 jts.toArray kb) sz sI sO ⟨j1, p⟩ ⟨j2, p2⟩ (by simp; omega) (by simp; omega) (by simp; omega) fun h' tk hk => ⟨rfl, ?_⟩
    exact I.turnedL (t' := tk) (ch := [z, TI, TO, i1, i2]) (fun c o hb q => hk c o (fun e => hb (by simp [e])) (fun e => hb (by simp [e])) (fun e => hb (by simp [e])) (fun e => hb (by simp [e])) q) hf
def itO : Bool → Addr → Obj
  | true, l => { cls := .type "list_iterator", data := .fields #[.ref l, .int 0 0] }
  | false, l => { cls := .type "tuple_iterator", data := .fields #[.ref l, .int 0 0] }
theorem begins_sq (l : Addr) (its : Array Value) : ∀ b : Bool, Begins (.ref l) (itO b l) fun h => SqIs h b l its
  | true => begins_list l its
  | false => begins_tuple l its
theorem it_of {h : Heap} {i l : Addr} : ∀ b : Bool, h.get? i = some (itO b l) → ItIs h b i l 0
  | true, e => ⟨_, e, rfl, rfl⟩
  | false, e => ⟨_, e, rfl, rfl⟩
def iZipB (K : PySem.W.Frag) (ta : TA) : TI := fun σ H R => ta σ H fun vs H1 => ∃ a b xs ys ka kb, vs = [.ref a, .ref b] ∧ SqB K ka H1 a xs ∧ SqB K kb H1 b ys ∧ R (ItzB K ka kb a b) H1
theorem pi_zipB {X : Cx} {e e2 : Expr} {ta : TA} {p pos tpos : Pos} {elts : List Expr} {kk : Nat} (hg : Gl X "zip") (hm : X.mg "zip" = none) (ha : PA X [e, e2] ta)
    (hs : starEach [e, e2] X.env = (false, eval e X.env) :: starEach [e2] X.env := by rfl) (hpl : (backTo pos (starEach [e2] X.env)).any (·.1) = false := by rfl) :
    PI X (.Tuple elts kk tpos) (.Call (.Name "zip" p) [e, e2] [] pos) (iZipB X.K ta) := by
  refine ⟨fun pins s σ H R I h => Call_ (ld_blt I hg hm PyProof.Rows.boot_zip (PyProof.Rows.callWith_type1 (thn (ha.run pos pins s σ H _ I h) ?_) hs hpl))⟩
  rintro us s1 ⟨vs, H1, I1, r1, a, b, xs, ys, ka, kb, rfl, qa, qb, q⟩
  cases r1 with
  | cons r rr =>
    cases rr with
    | cons r' rr =>
      cases rr
      cases r
      cases r'
      obtain ⟨its, rv, p1⟩ := inv_sq I1 ka qa
      obtain ⟨jts, rw', p2⟩ := inv_sq I1 kb qb
      refine zip_begins2 (begins_sq a its.toArray ka) (begins_sq b jts.toArray kb) p1 p2 fun h' sz sI sO j1 j2 hsz hk => wpAny_pyIter_zip sz ?_
      refine ⟨s1.heap.objs.size + 4, [s1.heap.objs.size + 4, s1.heap.objs.size + 2, s1.heap.objs.size + 3, s1.heap.objs.size, s1.heap.objs.size + 1], _, _, H1, rfl, (I1.kept (t' := s1.toks) hk), turn_zipB (PySem.W.ktu_apart s1.heap.objs.size a b (sq_lt ka p1) (sq_lt kb p2)), ⟨sz, sI, ⟨_, _, sO⟩, it_of ka j1, it_of kb j2⟩, fun c hcm => ?_, q⟩
      have ge : s1.heap.objs.size ≤ c := by
        have : c = s1.heap.objs.size + 4 ∨ c = s1.heap.objs.size + 2 ∨ c = s1.heap.objs.size + 3 ∨ c = s1.heap.objs.size ∨ c = s1.heap.objs.size + 1 := by simpa using hcm
        rcases this with rfl | rfl | rfl | rfl | rfl <;> simp
      exact I1.fpOk ge (I1.hok.fresh ge)
/-! ### as a reading -/
def rowD : D → Option (List D)
  | .lst ds => some ds
  | .tup ds => some ds
  | _ => none
def zipD : List D → List D → List D
  | x :: xs, y :: ys => .tup [x, y] :: zipD xs ys
  | _, _ => []
theorem zipD_len : ∀ (xs ys : List D), (zipD xs ys).length = min xs.length ys.length
  | [], ys => by simp [zipD]
  | x :: xs, [] => by simp [zipD]
  | x :: xs, y :: ys => by
    show (zipD xs ys).length + 1 = _
    rw [zipD_len xs ys, List.length_cons, List.length_cons]
    omega
theorem zipD_get : ∀ {xs ys : List D} {i : Nat} {d : D}, (zipD xs ys)[i]? = some d → ∃ x y, xs[i]? = some x ∧ ys[i]? = some y ∧ d = .tup [x, y]
  | [], ys, i, d, h => by simp [zipD] at h
  | x :: xs, [], i, d, h => by simp [zipD] at h
  | x :: xs, y :: ys, 0, d, h => ⟨x, y, rfl, rfl, by
    have : some (D.tup [x, y]) = some d := h
    exact (Option.some.inj this).symm⟩
  | x :: xs, y :: ys, i + 1, d, h => by
    have h : (zipD xs ys)[i]? = some d := h
    obtain ⟨u, v, h1, h2, h3⟩ := zipD_get h
    exact ⟨u, v, h1, h2, h3⟩
theorem row_rep {K : PySem.W.Frag} {S : Hp} {v : V} {d : D} {ds : List D} (r : Rep K S v d) (e : rowD d = some ds) : ∃ a vs b, v = .ref a ∧ Reps K S vs ds ∧ ∀ S1 μ1 H1, OK K S1 μ1 H1 → Same S S1 → SqB K b H1 a vs := by
  cases r with
  | lst h r =>
    cases e
    exact ⟨_, _, true, rfl, r, fun S1 μ1 H1 k1 e1 => SqL.of (k1.sub _ _ (e1 _ _ h))⟩
  | tup h r =>
    cases e
    exact ⟨_, _, false, rfl, r, fun S1 μ1 H1 k1 e1 => sqT_same k1.sub (sqT_same e1 h)⟩
  | _ => cases e
def rIZip (fa : RA) : RI := fun ρ μ R => fa ρ μ fun ds μ1 => match ds with
  | [x, y] => (match rowD x, rowD y with
    | some xs, some ys => R (zipD xs ys) tru μ1
    | _, _ => False)
  | _ => False
theorem itok_zip {K : PySem.W.Frag} {S : Hp} {a b : Addr} {ka kb : Bool} {us vs : List V} {xs ys : List D} {C : MH → Prop} (ra : Reps K S us xs) (rb : Reps K S vs ys)
    (ha : ∀ S1 μ1 H1, OK K S1 μ1 H1 → Same S S1 → SqB K ka H1 a us) (hb : ∀ S1 μ1 H1, OK K S1 μ1 H1 → Same S S1 → SqB K kb H1 b vs) : ItOk K S (ItzB K ka kb a b) (zipD xs ys) C := fun S1 μ1 H1 k1 e1 c1 i => by
  have qa := ha S1 μ1 H1 k1 e1
  have qb := hb S1 μ1 H1 k1 e1
  refine ⟨fun d hd => ?_, fun hi => ⟨us, vs, qa, qb, ?_⟩⟩
  · obtain ⟨x, y, h1, h2, rfl⟩ := zipD_get hd
    obtain ⟨u, hu, ru⟩ := ra.get h1
    obtain ⟨v, hv, rv⟩ := rb.get h2
    refine ⟨⟨us, vs, u, v, qa, qb, hu, hv⟩, fun z H' ⟨T, u', v', ez, hT, eH, f1, f2⟩ => ?_⟩
    have eu : u' = u := Option.some.inj ((f1 us qa).symm.trans hu)
    have ev : v' = v := Option.some.inj ((f2 vs qb).symm.trans hv)
    subst ez eH eu ev
    obtain ⟨k2, s2⟩ := k1.alloc (o := .tup [u', v']) hT
    exact ⟨_, k2, s2, .tup (.inl (.inl upd_same)) (.cons ((ru.mono e1).mono s2.same) (.cons ((rv.mono e1).mono s2.same) .nil))⟩
  · rw [zipD_len, ← ra.length, ← rb.length] at hi
    omega
theorem di_zip {X : Cx} {a b : Expr} {fa : RA} {p pos tpos : Pos} {elts : List Expr} {kk : Nat} (hg : Gl X "zip") (hm : X.mg "zip" = none) (ha : DA X [a, b] fa)
    (hs : starEach [a, b] X.env = (false, eval a X.env) :: starEach [b] X.env := by rfl) (hpl : (backTo pos (starEach [b] X.env)).any (·.1) = false := by rfl) : DI X (.Tuple elts kk tpos) (.Call (.Name "zip" p) [a, b] [] pos) (rIZip fa) :=
  pi_imp (pi_zipB hg hm ha hs hpl) fun σ H R ⟨S, μ, ρ, RR, k, e, h, post⟩ => by
    refine ⟨S, μ, ρ, _, k, e, h, fun S1 μ1 H1 ws ds k1 s1 r1 q1 => ?_⟩
    unfold rIZip at q1
    cases r1 with
    | nil => exact False.elim q1
    | cons rx r2 =>
      cases r2 with
      | nil => exact False.elim q1
      | cons ry r3 =>
        cases r3 with
        | cons _ _ => exact False.elim q1
        | nil =>
          rename_i x dx y dy
          dsimp only at q1
          cases e1 : rowD dx with
          | none => rw [e1] at q1; exact False.elim q1
          | some xs =>
            cases e2 : rowD dy with
            | none => rw [e1, e2] at q1; exact False.elim q1
            | some ys =>
              rw [e1, e2] at q1
              obtain ⟨a', us, ka, rfl, ra, fa'⟩ := row_rep rx e1
              obtain ⟨b', vs, kb, rfl, rb, fb'⟩ := row_rep ry e2
              exact ⟨a', b', us, vs, ka, kb, rfl, fa' _ _ _ k1 (fun _ _ h => h), fb' _ _ _ k1 (fun _ _ h => h), post S1 μ1 H1 _ _ tru k1 s1 (itok_zip ra rb fa' fb') q1⟩
end L3

/-! ## L3l -/
set_option Elab.async false
set_option linter.all false
set_option maxRecDepth 100000
set_option maxHeartbeats 4000000
/-! t[::-1], t a tuple. -/
namespace L3
open PySem PySem.Spec PyProof.Rows L2
theorem adj_rev (n : Nat) : Builtin.Slice.sliceAdjust none none (-1) (n : Int) = ((n : Int) - 1, -1) := by
  unfold Builtin.Slice.sliceAdjust
  simp
theorem plc_rev (n : Nat) : Builtin.Slice.slicePlaces ((n : Int) - 1) (-1) (-1) = n := by
  unfold Builtin.Slice.slicePlaces
  simp only [show ¬ ((-1 : Int) > 0) by decide, if_false, Int.neg_neg, Int.ediv_one]
  split <;> omega
theorem pick_rev (xs : Array Value) : ((List.range xs.size).filterMap fun (m : Nat) => xs[((xs.size : Int) - 1 + (m : Int) * (-1)).toNat]?).toArray = xs.toList.reverse.toArray := by
  have e : (fun (m : Nat) => xs[((xs.size : Int) - 1 + (m : Int) * (-1)).toNat]?) = (fun k => xs[k]?) ∘ fun m => xs.size - 1 - m := by
    funext m
    show _ = xs[xs.size - 1 - m]?
    have : ((xs.size : Int) - 1 + (m : Int) * (-1)).toNat = xs.size - 1 - m := by omega
    rw [this]
  rw [e, ← List.filterMap_map, PySem.W.krv_range, List.filterMap_reverse, PySem.W.krv_all]
section
variable {prog : Program} {w : World} {A : Around} {E : Value → Shared → Prop} {s : Shared}
theorem applied_rev {sl : Addr} {vk : Value} {n : Nat} {Q : Int × Int × Nat → Shared → Prop} (hs : s.heap.IsSliceOf sl .none .none vk) (pk : IsPart vk (some (-1))) (h : Q ((n : Int) - 1, -1, n) s) :
    wpAny (model prog w) A (Builtin.Slice.sliceApplied (.ref sl) (pure (n : Int))) Q E s := by
  obtain ⟨so, hso, hsc, hsd⟩ := hs
  unfold Builtin.Slice.sliceApplied Builtin.Slice.sliceFields
  refine wpAny_bind (wpAny_bind (wpAny_field hso hsd (x := .none) rfl (wpAny_bind (wpAny_field hso hsd (x := .none) rfl (wpAny_bind (wpAny_field hso hsd (x := vk) rfl (wpAny_pure ?_)))))))
  refine wpAny_bind (HT.slicePart_ pk ?_)
  show wpAny _ _ (if ((-1 : Int) == 0) = true then _ else _) _ _ s
  rw [if_neg (by decide)]
  refine wpAny_bind (HT.slicePart_ .none (wpAny_bind (HT.slicePart_ .none (wpAny_bind (wpAny_pure ?_)))))
  show wpAny _ _ (match Builtin.Slice.sliceAdjust none none (-1) (n : Int) with | (lo, hi) => pure (lo, (-1 : Int), Builtin.Slice.slicePlaces lo hi (-1))) _ _ s
  rw [adj_rev n]
  show wpAny _ _ (pure ((n : Int) - 1, (-1 : Int), Builtin.Slice.slicePlaces ((n : Int) - 1) (-1) (-1))) _ _ s
  rw [plc_rev]
  exact wpAny_pure h
theorem getItem_rev {t sl : Addr} {xs : Array Value} {vk : Value} {Q : Value → Shared → Prop} (ht : IsTup s.heap t xs) (hs : s.heap.IsSliceOf sl .none .none vk) (pk : IsPart vk (some (-1)))
    (h : Q (.ref s.heap.objs.size) { s with heap := s.heap.push { cls := .type "tuple", data := .seq xs.toList.reverse.toArray } }) (hz : xs.size ≤ sizeLine) : wpAny (model prog w) A (getItem (.ref t) (.ref sl)) Q E s := by
  have hk : sizeOk (.seq xs.toList.reverse.toArray) := by
    show xs.toList.reverse.toArray.size ≤ sizeLine
    rw [List.size_toArray, List.length_reverse, Array.length_toList]
    exact hz
  have isl : s.TypeIs (.ref sl) "slice" := let ⟨o, h1, h2, _⟩ := hs; ⟨o, h1, h2⟩
  unfold getItem
  try with_reducible refine wpAny_holding ?_
  first | refine wpAny_bind (wpAny_pure ?_) | skip
  refine wpAny_bind (wpAny_sequenceKey ht.typeIs (by decide) (wpAny_bind (wpAny_callSpecial?_slot (name := Str.ofString "__getitem__") ht.typeIs PyProof.Rows.slot_tuple_getitem (wpAny_call_entry PyProof.Rows.slot_tuple_getitem ht.typeIs entry_tuple_getitem ?_ (args_tuple_getitem _ _)))))
  show wpAny _ _ (Builtin.Tuple.tupleItemsOf (.ref t) >>= _) _ _ s
  refine wpAny_bind (tupleItemsOf_ ht (wpAny_bind (wpAny_typeOf isl ?_)))
  rw [if_pos (by decide)]
  refine wpAny_bind (applied_rev hs pk ?_)
  show wpAny _ _ (if (((xs.size : Int) - 1) == 0 && (-1 : Int) == 1 && xs.size == xs.size) = true then _ else _) _ _ s
  rw [if_neg (by simp), pick_rev]
  first
    | exact wpAny_bind (m := Builtin.Tuple.tupleExact _) (wpAny_newObj_type (wpAny_pure ⟨_, rfl, wpAny_pure h⟩) hk)
    | exact wpAny_bind (m := Builtin.Tuple.tupleExact _) (wpAny_newObj_type (wpAny_bind (wpAny_pure (wpAny_pure ⟨_, rfl, wpAny_pure h⟩))) hk)
    | exact wpAny_bind (wpAny_bind (m := Builtin.Tuple.tupleExact _) (wpAny_newObj_type (wpAny_pure (wpAny_pure ⟨_, rfl, wpAny_pure h⟩)) hk))
    | exact wpAny_bind (wpAny_bind (m := Builtin.Tuple.tupleExact _) (wpAny_newObj_type (wpAny_pure ⟨_, rfl, wpAny_pure h⟩) hk))
end
theorem vals_rev : ∀ {xs : List V} {us : List Value}, Vals xs us → Vals xs.reverse us.reverse
  | _, _, .nil => .nil
  | _, _, .cons h r => by
    rw [List.reverse_cons, List.reverse_cons]
    exact Vals.append (vals_rev r) (.cons h .nil)
def tRev (K : PySem.W.Frag) (te ts : TE) : TE := fun σ H Q => te σ H fun x H1 => ts σ H1 fun y H2 => y = .int (-1) ∧ ∃ a xs, x = .ref a ∧ SqT K H2 a xs ∧ ∀ p, H2 p = none → Q (.ref p) (upd H2 p (.tup xs.reverse))
theorem pe_rev {X : Cx} {e st : Expr} {te ts : TE} {p2 pos : Pos} (he : PE X e te) (hs : PE X st ts) : PE X (.Subscript e (.Slice none none (some st) p2) pos) (tRev X.K te ts) := by
  refine ⟨fun pins s σ H Q I h => Subscript_ (thn (he.run pins s σ H _ I h) ?_)⟩
  rintro v s1 ⟨x, H1, I1, r1, q1⟩
  refine wpAny_Slice ?_
  rw [evalPart_none, evalPart_some]
  refine wpAny_pure (wpAny_pure (thn (hs.run pins s1 σ H1 _ I1 q1) ?_))
  rintro u s3 ⟨y, H3, I3, r3, rfl, a, xs, rfl, hx, q⟩
  obtain ⟨tk, rfl⟩ : ∃ t, u = Value.int (-1) t := r3
  have J : Inv X pins σ H3 { s3 with heap := s3.heap.push { cls := .type "slice", data := .fields #[.none, .none, .int (-1) tk] } } := I3.kept (t' := s3.toks) fun b ob q => Heap.get?_push_of_some _ q
  obtain rfl : v = Value.ref a := r1
  obtain ⟨its, r, ht, hz⟩ := J.tuple hx
  have hlen : its.toArray.size = xs.length := by rw [List.size_toArray]; exact r.length.symm
  have g := getItem_rev (prog := X.prog) (w := X.w) (A := X.A) (E := X.xe) (Q := EP X pins σ Q) ht (Heap.IsSliceOf.new ..) (.int (-1) tk)
    ⟨.ref _, _, J.laid (t' := s3.toks) (o := .tup xs.reverse) (fun b ob q => Heap.get?_push_of_some _ q) (Nat.le_refl _) ⟨by rw [List.length_reverse]; exact hz, _, vals_rev r, IsTup.new _ _⟩, rfl, q _ (J.hok.fresh (Nat.le_refl _))⟩ (by rw [hlen]; exact hz)
  show wpAny _ _ (subscriptTail e (.Slice none none (some st) p2) (.ref a) (.ref s3.heap.objs.size)) _ _ _
  exact tail_any (ops := [.ref a, .ref s3.heap.objs.size]) ht.typeIs PyProof.Rows.slot_tuple_getitem.lookup g (by with_unfolding_all rfl)
theorem Reps.reverse {K : PySem.W.Frag} {S : Hp} : ∀ {vs : List V} {ds : List D}, Reps K S vs ds → Reps K S vs.reverse ds.reverse
  | _, _, .nil => .nil
  | _, _, .cons h r => by
    rw [List.reverse_cons, List.reverse_cons]
    exact Reps.append (Reps.reverse r) (.cons h .nil)
/-- t[::-1] -/
def rRev (fe fs : RX) : RX := fun ρ μ R => fe ρ μ fun d μ1 => fs ρ μ1 fun c μ2 => match d, c with
  | .tup ds, .int i => i = -1 ∧ R (.tup ds.reverse) μ2
  | _, _ => False
theorem de_rev {X : Cx} {e st : Expr} {fe fs : RX} {p2 pos : Pos} (he : DE X e fe) (hs : DE X st fs) : DE X (.Subscript e (.Slice none none (some st) p2) pos) (rRev fe fs) := pe_imp (pe_rev he hs) fun σ H Q ⟨S, μ, ρ, R, k, e, h, post⟩ => by
  refine ⟨S, μ, ρ, _, k, e, h, fun S1 μ1 H1 v1 d1 k1 s1 r1 h1 => ?_⟩
  refine ⟨S1, μ1, ρ, _, k1, e.mono s1.same, h1, fun S2 μ2 H2 v2 d2 k2 s2 r2 h2 => ?_⟩
  cases d1 with
  | tup ds =>
    cases d2 with
    | int i =>
      obtain ⟨rfl, h2⟩ := h2
      cases r2.toInt
      obtain ⟨a, vs, rfl, a1, a2⟩ := r1.toTup
      refine ⟨rfl, a, vs, rfl, sqT_same k2.sub (sqT_same s2.same a1), fun p hp => ?_⟩
      obtain ⟨k3, s3⟩ := k2.alloc (o := .tup vs.reverse) hp
      exact post _ _ _ _ _ k3 ((s1.trans s2).trans s3) (.tup (.inl (.inl upd_same)) ((a2.mono s2.same).reverse.mono s3.same)) h2
    | _ => exact h2.elim
  | _ => exact h2.elim
/-! ### f(e, .., k = v, ..), f a def of the module -/
structure FnK (P : Program) (w : World) (K : PySem.W.Frag) (mg : Str → Option Value) (base : Heap) (k : Nat) (x : Str) (s : GN) (n : Nat) (ks : List Str) (gD : List D → List D → List D) : Prop where
  ex : ∃ f fd ps g gV, FnOk P w K mg base CX0 k f fd ps (spD K s) ∧ mg x = some (.ref f) ∧ PySem.W.keepIn K (.ref f) = true ∧ KBn K fd ps n ks g gV ∧
    ∀ (vs zs : List V) (ds es : List D) (S : Hp), Reps K S vs ds → Reps K S zs es → Reps K S (gV vs zs) (gD ds es)
end L3

/-! ## L3m -/
set_option Elab.async false
set_option linter.all false
set_option maxRecDepth 100000
set_option maxHeartbeats 4000000
/-! enumerate of a row, a list or a tuple. -/
namespace L3
open PySem PySem.Spec PyProof.Rows L2
/-! ### as a reading -/
/-! ### try: a body that raises nothing -/
theorem ds_thru {X : Cx} {body : List Stmt} {h : ExceptHandler} {hs : List ExceptHandler} {f : RS} {pos : Pos} (hb : DSs X.nox body f) : DS X (.Try body (h :: hs) [] [] pos) f := ps_try_thru0 hb
end L3

/-! ## L3n -/
set_option Elab.async false
set_option linter.all false
set_option maxRecDepth 100000
set_option maxHeartbeats 4000000
/-! len of an instance with its own __len__; more methods of lists; o.f += e; int(x). -/
namespace L3
open PySem PySem.Spec PyProof.Rows L2
section
variable {K : PySem.W.Frag} {X : Cx} {k : Nat} {C g : Addr} {s : GN} {a o value : Expr} {fa fv : RX} {p pos tpos : Pos} {f : Str}
end
end L3

/-! ## L3p -/
set_option Elab.async false
set_option linter.all false
set_option maxRecDepth 100000
set_option maxHeartbeats 4000000
/-! Errors that leave a def: promises with a second end. -/
namespace L3
open PySem PySem.Spec PyProof.Rows L2
abbrev RE := Addr → List (Str × D) → MH → Prop
/-- an error of the class at C with the attributes fs -/
def XRep (K : PySem.W.Frag) (S : Hp) (cls : Value) (d : Option Addr) (C : Addr) (fs : List (Str × D)) : Prop :=
  cls = .ref C ∧ ((d = none ∧ fs = []) ∨ ∃ dd vfs, d = some dd ∧ S dd = some (.xd vfs) ∧ RepF K S vfs fs ∧ fs ≠ [])
theorem XRep.mono {K : PySem.W.Frag} {S S' : Hp} {cls : Value} {d : Option Addr} {C : Addr} {fs : List (Str × D)} (e : Same S S') (x : XRep K S cls d C fs) : XRep K S' cls d C fs :=
  ⟨x.1, x.2.imp (fun z => z) fun ⟨dd, vfs, a, b, c, n⟩ => ⟨dd, vfs, a, e _ _ b, c.mono e, n⟩⟩
abbrev PstX (K : PySem.W.Frag) (S : Hp) (μ : MH) (H : Hp) (re : RE) (E : XK) : Prop := ∀ S' μ' H' cls d C fs, OK K S' μ' H' → Stp S μ H S' μ' H' → XRep K S' cls d C fs → re C fs μ' → E cls d H'
theorem PstX.stp {K : PySem.W.Frag} {S S' H H' : Hp} {μ μ' : MH} {re : RE} {E : XK} (p : PstX K S μ H re E) (s : Stp S μ H S' μ' H') : PstX K S' μ' H' re E := fun _ _ _ _ _ _ _ k s2 x q => p _ _ _ _ _ _ _ k (s.trans s2) x q
abbrev GX := List D → MH → (D → MH → Prop) → RE → Prop
def spX (K : PySem.W.Frag) (s : GX) : Sp := fun vs H Q E => ∃ S μ ds R re, OK K S μ H ∧ Reps K S vs ds ∧ s ds μ R re ∧ Pst K S μ H R Q ∧ PstX K S μ H re E
abbrev RXX := EV → MH → (D → MH → Prop) → RE → Prop
/-- what a context takes, whatever the slots hold -/
def anyS (W : WX) : XK := fun cls d H' => ∀ σ', W cls d σ' H'
def upX (K : PySem.W.Frag) (W : WX) (f : RXX) : TE := fun σ H Q => ∃ S μ ρ R re, OK K S μ H ∧ RepE K S σ ρ ∧ f ρ μ R re ∧ Pst K S μ H R Q ∧ PstX K S μ H re (anyS W)
abbrev DEX (X : Cx) (W : WX) (e : Expr) (f : RXX) : Prop := PE X e (upX X.K W f)
structure LkX (K : PySem.W.Frag) (W : WX) (S : Hp) (μ : MH) (H : Hp) (D : Ends) (DD : Ed) : Prop where
  l : Lk K S μ H D DD
  ex : PstX K S μ H DD.ex (anyS W)
theorem LkX.stp {K : PySem.W.Frag} {W : WX} {S S' H H' : Hp} {μ μ' : MH} {D : Ends} {DD : Ed} (l : LkX K W S μ H D DD) (s : Stp S μ H S' μ' H') : LkX K W S' μ' H' D DD := ⟨l.l.stp s, l.ex.stp s⟩
def upSX (K : PySem.W.Frag) (W : WX) (f : RS) : TS := fun D σ H => ∃ S μ ρ DD, OK K S μ H ∧ RepE K S σ ρ ∧ f DD ρ μ ∧ LkX K W S μ H D DD
abbrev DSX (X : Cx) (W : WX) (s : Stmt) (f : RS) : Prop := PS X s (upSX X.K W f)
abbrev DSsX (X : Cx) (W : WX) (s : List Stmt) (f : RS) : Prop := PSs X s (upSX X.K W f)
section
variable {X : Cx} {W : WX} {a : Stmt} {as bs rest : List Stmt} {f g : RS} {c e : Expr} {ft : RT} {fx : RXX} {fe : RX} {fa : RA} {pos : Pos}
theorem PS.nox {st : Stmt} {t : TS} (h : PS X.nox st t) : PS X st t := ⟨fun pins s σ H D I hw =>
  wpAny_mono (h.run pins s σ H D (I.wish _) hw) (fun _ _ q => q.unwish) fun _ _ z => z.elim⟩
/-- a statement that raises nothing -/
theorem dsx_nox (h : DS X.nox a f) : DSX X W a f := ps_imp (PS.nox h) fun D σ H ⟨S, μ, ρ, DD, k, e, h, l⟩ => ⟨S, μ, ρ, DD, k, e, h, l.l⟩
theorem dssx_nil : DSsX X W [] rNext := pss_imp pss_nil fun D σ H ⟨S, μ, ρ, DD, k, e, h, l⟩ => l.l.nx S μ H σ ρ k .refl e h
theorem dssx_cons (h1 : DSX X W a f) (h2 : DSsX X W rest g) : DSsX X W (a :: rest) (rSeq f g) := pss_imp (pss_cons h1 h2) fun D σ H ⟨S, μ, ρ, DD, k, e, h, l⟩ =>
  ⟨S, μ, ρ, _, k, e, h, ⟨fun S1 μ1 H1 σ1 ρ1 k1 s1 e1 q1 => ⟨S1, μ1, ρ1, DD, k1, e1, q1, l.stp s1⟩, l.l.rt, l.l.bk, l.l.ct⟩, l.ex⟩
theorem dssx_one (h1 : DSX X W a f) : DSsX X W [a] f := pss_one h1
theorem dsx_if (hc : DT X c ft) (ha : DSsX X W as f) (hb : DSsX X W bs g) : DSX X W (.If c as bs pos) (rIf ft f g) := ps_imp (ps_if hc ha hb) fun D σ H ⟨S, μ, ρ, DD, k, e, h, l⟩ => by
  refine ⟨S, μ, ρ, _, k, e, h, fun S1 μ1 H1 b1 k1 s1 h1 => ?_⟩
  cases b1 with
  | true => rw [if_pos rfl] at h1 ⊢; exact ⟨S1, μ1, ρ, DD, k1, e.mono s1.same, h1, l.stp s1⟩
  | false => rw [if_neg Bool.false_ne_true] at h1 ⊢; exact ⟨S1, μ1, ρ, DD, k1, e.mono s1.same, h1, l.stp s1⟩
/-! statements that are one call -/
def rDropX (f : RXX) : RS := fun D ρ μ => f ρ μ (fun _ μ1 => D.nx ρ μ1) D.ex
theorem dsx_expr (he : DEX X W e fx) (hs : swapsWith e none pos.line X.env = pure false := by rfl) : DSX X W (.Expr e pos) (rDropX fx) := ps_imp (ps_expr he hs) fun D σ H ⟨S, μ, ρ, DD, k, e, h, l⟩ =>
  ⟨S, μ, ρ, _, _, k, e, h, fun S1 μ1 H1 v d k1 s1 r1 q1 => l.l.nx S1 μ1 H1 σ ρ k1 s1 (e.mono s1.same) q1, l.ex⟩
/-! ### raise C('..') -/
/-- the class at C, of a base class whose __new__ and __init__ take one text -/
structure ExcG (K : PySem.W.Frag) (mg : Str → Option Value) (x : Str) (C : Addr) : Prop where
  ex : ∃ bmB B newId initId, ExcBaseFacts B newId initId bmB ∧ PySem.W.excIn K C bmB newId = true
  gC : mg x = some (.ref C)
  kC : PySem.W.keepIn K (.ref C) = true
  r1 : PySem.W.subIn K (.ref C) (.type "BaseException") = some true
  r2 : PySem.W.typeIn K (.ref C) = some (.type "type")
def rRaise (C : Addr) : RS := fun D _ μ => D.ex C [] μ
theorem dsx_raise {x m : Str} {C : Addr} {j : Nat} {p p2 cpos : Pos} (G : ExcG X.K X.mg x C) (tk : Takes X W) (hg : Gl X x) (hdb : (x == ("__debug__" : Str)) = false := by decide) (hc : X.calm = true := by rfl) : DSX X W (.Raise (some (.Call (.Name x p) [.Constant (.str m) j p2] [] cpos)) none pos) (rRaise C) := by
  obtain ⟨bmB, B, newId, initId, F, q⟩ := G.ex
  exact ps_imp (ps_raise hc tk (pmk_own F q G.gC G.kC (raises_own G.r1 G.r2) hg hdb)) fun D σ H ⟨S, μ, ρ, DD, k, e, h, l⟩ => l.ex S μ H _ _ C [] k .refl ⟨rfl, .inl ⟨rfl, rfl⟩⟩ h σ
end
/-! ### calls -/
structure FnGX (P : Program) (w : World) (K : PySem.W.Frag) (mg : Str → Option Value) (base : Heap) (k : Nat) (x : Str) (s : GX) : Prop where
  ex : ∃ f fd ps, FnOk P w K mg base (L2.CX P w) k f fd ps (spX K s) ∧ mg x = some (.ref f) ∧ PySem.W.keepIn K (.ref f) = true ∧ Binds K fd ps []
structure MtGX (P : Program) (w : World) (K : PySem.W.Frag) (mg : Str → Option Value) (base : Heap) (k : Nat) (C f : Addr) (s : GX) : Prop where
  ex : ∃ fd ps, FnOk P w K mg base (L2.CX P w) k f fd ps (spX K s) ∧ Binds K fd ps []
def rClX (s : GX) (fa : RA) : RXX := fun ρ μ R re => fa ρ μ fun ds μ1 => s ds μ1 R re
section
variable {X : Cx} {W : WX} {k : Nat} {C g : Addr} {x m : Str} {s : GX} {o e : Expr} {es : List Expr} {fo : RX} {fa : RA} {p pos apos : Pos}
theorem passX (tk : Takes X W) : Passes (L2.CX X.prog X.w) X (anyS W) := passes_call tk fun _ _ σ _ h => h σ
theorem dex_call (F : FnGX X.prog X.w X.K X.mg X.base k x s) (tk : Takes X W) (hr : Room k X.A) (hg : Gl X x) (ha : DA X (e :: es) fa) (hdb : (x == ("__debug__" : Str)) = false := by decide)
    (he : starEach (e :: es) X.env = (false, eval e X.env) :: starEach es X.env := by rfl) (hpl : (backTo pos (starEach es X.env)).any (·.1) = false := by rfl) : DEX X W (.Call (.Name x p) (e :: es) [] pos) (rClX s fa) := by
  obtain ⟨f, fd, ps, a, b, c, d⟩ := F.ex
  refine pe_imp (pe_call a hr hg b c d .nil (passX tk) ha hdb he hpl) fun σ H Q ⟨S, μ, ρ, R, re, k, e, h, post, pex⟩ => ?_
  refine ⟨S, μ, ρ, _, k, e, h, fun S1 μ1 H1 vs ds k1 s1 r1 h1 => ?_⟩
  show spX X.K s (vs ++ []) H1 Q (anyS W)
  rw [List.append_nil]
  exact ⟨S1, μ1, ds, R, re, k1, r1, h1, fun S3 μ3 H3 v d k3 s3 r3 h3 => post S3 μ3 H3 v d k3 (s1.trans s3) r3 h3, pex.stp s1⟩
end
/-! ### a def keeps its promise -/
def finX (R : D → MH → Prop) (re : RE) : Ed := { nx := fun _ μ' => R .non μ', rt := R, ex := re }
section
variable {P : Program} {w : World} {K : PySem.W.Frag} {mg : Str → Option Value} {base : Heap}
theorem fnDX {x qual : Str} {params : Arguments} {bd : List Stmt} {scope : Scope} {dvs : List V} {kws : List (Str × V)} {f : Addr} {fd : FuncData} {N ps : List Str} {k : Nat} {s : GX} {body : RS} (F : FunD K x qual params bd scope dvs kws f fd) (Sc : FnScope N ps scope)
    (len : ∀ ds μ R re, s ds μ R re → ds.length = ps.length)
    (hb : ∀ (cdv : Value) (A : Around) (outer : List Env) (s0 : Shared) (H : Hp) (E : XK), Room k (A.deeper (envOfC qual scope s0.heap.objs.size f cdv)) → Takes (cxOf (L2.CX P w) P w K mg base N qual scope f cdv A outer s0 H E) (fun cls d _ H' => E cls d H') →
      DSsX (cxOf (L2.CX P w) P w K mg base N qual scope f cdv A outer s0 H E) (fun cls d _ H' => E cls d H') bd body)
    (hv : ∀ ds μ R re, s ds μ R re → body (finX R re) (startD N.length ds) μ) : FnOk P w K mg base (L2.CX P w) (k + 1) f fd ps (spX K s) := by
  refine F.ok Sc (fun vs H Q E h => ?_) fun cdv A outer s0 H vs Q E hr h => ⟨upSX K (fun cls d _ H' => E cls d H') body, hb cdv A outer s0 H E hr (takes_of rfl rfl rfl rfl), ?_⟩
  · obtain ⟨S, μ, ds, R, re, a, b, c, _⟩ := h
    rw [b.length]
    exact len ds μ R re c
  · obtain ⟨S, μ, ds, R, re, a, b, c, d, dx⟩ := h
    exact ⟨S, μ, _, _, a, repE_start b, hv ds μ R re c, ⟨fun S' μ' H' σ' ρ' k' s' e' q' => d S' μ' H' _ _ k' s' .non q', fun S' μ' H' v z k' s' r' q' => d S' μ' H' v z k' s' r' q', fun _ _ _ _ _ _ _ _ q' => False.elim q', fun _ _ _ _ _ _ _ _ q' => False.elim q'⟩,
      fun S' μ' H' cls dd C fs k' s' x' q' _ => dx S' μ' H' cls dd C fs k' s' x' q'⟩
end
end L3

/-! ## L3q -/
set_option Elab.async false
set_option linter.all false
set_option maxRecDepth 100000
set_option maxHeartbeats 4000000
/-! What an except suite asks: isinstance of the error, count and index of a list, in; a call with a lambda. -/
namespace L3
open PySem PySem.Spec PyProof.Rows L2
section
variable {X : Cx}
def rCountD (K : PySem.W.Frag) : V → List V → Hp → VK → Prop := fun x xs H Q => ∃ (a : Addr) (y : V) (d : PyData) (ds : List PyData), x = V.ref a ∧ xs = [y] ∧ Dp K H (V.ref a) (.list ds) ∧ Dp K H y d ∧ SeqAt.shaped (.list ds) = true ∧ SeqAt.shaped d = true ∧
  Q (.int ((ds.countP fun z => PyData.eqv z d : Nat) : Int)) H
theorem mt_countD (hu : X.A.units + 65 < cLine) : MtR X "list.count" (rCountD X.K) := by
  rintro pins s σ H x xs v us Q I rx rxs ⟨a, y, d, ds, rfl, rfl, hl, hy, sl, sd, q⟩
  cases rx
  cases rxs with
  | cons ry rt =>
    cases rt
    obtain ⟨bs, rd⟩ := Dp.reads I d y _ hy ry
    have lay : PyData.canLayAll0 ds = true := SeqAt.canLay_of_shaped sl
    have room : X.A.units + 1 + min (PyData.depthAll ds) d.depth < cLine := room_in_shaped sd hu
    cases hl with
    | lst hs ha =>
      obtain ⟨its, rv, ⟨⟨c, dd, dt, sls⟩, n, ho, e1, _, e2⟩, _⟩ := I.list hs
      simp only at e1 e2
      subst e1 e2
      obtain ⟨as, rs⟩ := Dp.readsAll I ds _ its ha rv
      have hm := SeqAt.readsAll_map ds its as lay rs
      refine call_meets PySem.F.slot_list_count ⟨_, ho, rfl⟩ PySem.F.entry_list_count (PySem.F.args_list_count_2 _ _) (SeqAt.list_countAt a its.toArray n dd sls _ (fun u => PyData.eqv (SeqAt.readOf s.heap u) d))
        ⟨ho, SeqAt.items_eqAt (vs := its.toArray) (show ReadsAll s.heap its.toArray.toList ds as from rs) rd lay (SeqAt.canLay_of_shaped sd) room, ?_⟩
      have ec : its.toArray.toList.countP (fun u => PyData.eqv (SeqAt.readOf s.heap u) d) = ds.countP fun z => PyData.eqv z d := by
        rw [← hm, List.countP_map]
        rfl
      exact ⟨.int _, H, I.tok _, ⟨s.toks, by rw [ec]⟩, q⟩
end
/-! ### readings -/
/-- xs.m(e), xs a list of data -/
def rBM (g : List L3.D → List L3.D → MH → (L3.D → MH → Prop) → Prop) (fo : RX) (fa : RA) : RX := fun ρ μ R => fo ρ μ fun d μ1 => match d with
  | .lst xs => fa ρ μ1 fun ds μ2 => g xs ds μ2 R
  | _ => False
def gCount : List L3.D → List L3.D → MH → (L3.D → MH → Prop) → Prop := fun xs ds μ R => match ds with
  | [x] => pureN 20 (.lst xs) = true ∧ pureN 20 x = true ∧ R (.int ((xs.countP fun y => deq y x : Nat) : Int)) μ
  | _ => False
def gIndex : List L3.D → List L3.D → MH → (L3.D → MH → Prop) → Prop := fun xs ds μ R => match ds with
  | [x] => pureN 20 (.lst xs) = true ∧ pureN 20 x = true ∧ ∃ j z, xs[j]? = some z ∧ deq z x = true ∧ (∀ m z', m < j → xs[m]? = some z' → deq z' x = false) ∧ R (.int (j : Nat)) μ
  | _ => False
theorem toPys_map : ∀ xs : List D, toPys xs = xs.map toPy
  | [] => rfl
  | x :: r => congrArg (toPy x :: ·) (toPys_map r)
section
variable {K : PySem.W.Frag} {X : Cx} {o e : Expr} {fo fe : RX} {fa : RA} {apos pos p p2 : Pos}
def SndB (K : PySem.W.Frag) (r : V → List V → Hp → VK → Prop) (g : List L3.D → List L3.D → MH → (L3.D → MH → Prop) → Prop) : Prop :=
  ∀ S μ H x xs vs ds R Q, OK K S μ H → Rep K S x (.lst xs) → Reps K S vs ds → g xs ds μ R → Pst K S μ H R Q → r x vs H Q
theorem up_bm {T : String} {r : V → List V → Hp → VK → Prop} {g : List L3.D → List L3.D → MH → (L3.D → MH → Prop) → Prop} (s : SndB K r g) : ∀ σ H Q, up K (rBM g fo fa) σ H Q → tBM K "list" r (up K fo) (upA K fa) σ H Q := fun σ H Q ⟨S, μ, ρ, R, k, e, h, post⟩ => by
  refine ⟨S, μ, ρ, _, k, e, h, fun S1 μ1 H1 v d k1 s1 r1 h1 => ?_⟩
  cases d with
  | lst xs =>
    obtain ⟨a, vs, rfl, ha, _⟩ := res_lst (ds := xs) k1 r1 rfl
    exact ⟨.inl ⟨rfl, _, .inl (.inl ha)⟩, S1, μ1, ρ, _, k1, e.mono s1.same, h1, fun S2 μ2 H2 ws ds k2 s2 r2 h2 => s S2 μ2 H2 _ xs ws ds R Q k2 (r1.mono s2.same) r2 h2 fun S3 μ3 H3 v d k3 s3 r3 h3 => post S3 μ3 H3 v d k3 ((s1.trans s2).trans s3) r3 h3⟩
  | _ => exact False.elim h1
theorem snd_count : SndB K (rCountD K) gCount := by
  intro S μ H x xs vs ds R Q k rx rs q post
  unfold gCount at q
  split at q
  · rename_i y
    obtain ⟨v, rfl, r1⟩ := reps1 rs
    obtain ⟨p1, p2, q⟩ := q
    obtain ⟨a, ws, rfl, ha, _⟩ := res_lst (ds := xs) k rx rfl
    have dl : Dp K H (.ref a) (.list (toPys xs)) := res_dp (d := .lst xs) (n := 20) k rx p1
    have dv : Dp K H v (toPy y) := Dp.same k.sub (r1.dp p2)
    refine ⟨a, v, toPy y, toPys xs, rfl, rfl, dl, dv, pure_shaped (d := .lst xs) p1 (by decide), pure_shaped p2 (by decide), ?_⟩
    rw [toPys_map, List.countP_map]
    exact post S μ H _ _ k .refl (.int _) q
  · exact q.elim
theorem snd_index : SndB K (rIndexD K) gIndex := by
  intro S μ H x xs vs ds R Q k rx rs q post
  unfold gIndex at q
  split at q
  · rename_i y
    obtain ⟨v, rfl, r1⟩ := reps1 rs
    obtain ⟨p1, p2, j, z, hj, hz, hno, q⟩ := q
    obtain ⟨a, ws, rfl, ha, _⟩ := res_lst (ds := xs) k rx rfl
    have dl : Dp K H (.ref a) (.list (toPys xs)) := res_dp (d := .lst xs) (n := 20) k rx p1
    have dv : Dp K H v (toPy y) := Dp.same k.sub (r1.dp p2)
    refine ⟨a, v, toPy y, toPys xs, j, toPy z, rfl, rfl, dl, dv, pure_shaped (d := .lst xs) p1 (by decide), pure_shaped p2 (by decide), by rw [toPys_map, List.getElem?_map, hj]; rfl, hz, fun m z' hm h => ?_, post S μ H _ _ k .refl (.int _) q⟩
    rw [toPys_map, List.getElem?_map] at h
    cases w : xs[m]? with
    | none => rw [w] at h; cases h
    | some u =>
      rw [w] at h
      have := hno m u hm w
      rw [← Option.some.inj h]
      exact this
  · exact q.elim
theorem de_count (hu : X.A.units + 65 < cLine) (ho : DE X o fo) (ha : DA X [e] fa) (hbase : attributeBase o "count" X.env (eval o X.env) = eval o X.env := by rfl)
    (hfew : ((backTo pos (starEach [e] X.env)).all (fun x => !x.1) && (backToKw pos (keywordEach [] X.env)).all (fun x => x.1.isSome)
      && decide ([e].length + ([] : List Keyword).length + (if ([] : List Keyword).isEmpty then 0 else 1) < 30)) = true := by rfl)
    (hline : (apos.endLine == pos.line) = true := by rfl) (hst : starEach [e] X.env = (false, eval e X.env) :: starEach [] X.env := by rfl) : DE X (.Call (.Attribute o "count" apos) [e] [] pos) (rBM gCount fo fa) :=
  pe_imp (pe_bm PySem.F.plainAttrs_list PySem.F.slot_list_count PySem.F.type_list_count (mt_countD hu) ho ha hbase hfew hline hst) (up_bm (T := "list") snd_count)
theorem de_index (hu : X.A.units + 65 < cLine) (ho : DE X o fo) (ha : DA X [e] fa) (hbase : attributeBase o "index" X.env (eval o X.env) = eval o X.env := by rfl)
    (hfew : ((backTo pos (starEach [e] X.env)).all (fun x => !x.1) && (backToKw pos (keywordEach [] X.env)).all (fun x => x.1.isSome)
      && decide ([e].length + ([] : List Keyword).length + (if ([] : List Keyword).isEmpty then 0 else 1) < 30)) = true := by rfl)
    (hline : (apos.endLine == pos.line) = true := by rfl) (hst : starEach [e] X.env = (false, eval e X.env) :: starEach [] X.env := by rfl) : DE X (.Call (.Attribute o "index" apos) [e] [] pos) (rBM gIndex fo fa) :=
  pe_imp (pe_bm PySem.F.plainAttrs_list PySem.F.slot_list_index PySem.F.type_list_index (mt_indexD hu) ho ha hbase hfew hline hst) (up_bm (T := "list") snd_index)
/-- e in a list of data -/
def gIn : G2 := fun x y μ R => match res μ y with
  | .lst ys => pureN 20 (res μ x) = true ∧ pureN 20 (.lst ys) = true ∧ R (.bl (ys.any fun z => deq z (res μ x))) μ
  | _ => False
theorem snd_in : Snd2 K (rInD K) gIn := by
  intro S μ H x y dx dy R Q k rx ry q post
  unfold gIn at q
  cases w : res μ dy with
  | lst ys =>
    rw [w] at q
    obtain ⟨p1, p2, q⟩ := q
    have dl : Dp K H y (.list (toPys ys)) := by
      have := res_dp (n := 20) k ry (by rw [w]; exact p2)
      rw [w] at this
      exact this
    refine ⟨_, toPys ys, res_dp k rx p1, dl, pure_shaped p1 (by decide), pure_shaped (d := .lst ys) p2 (by decide), ?_⟩
    rw [toPys_map, List.any_map]
    exact post S μ H _ _ k .refl (.bl _) q
  | _ => rw [w] at q; exact q.elim
theorem dt_in {a b : Expr} {fa fb : RX} (hu : X.A.units + 65 < cLine) (ha : DE X a fa) (hb : DE X b fb) (hm : behindInMarks .In b = false := by rfl) : DT X (.Compare a [.In] [b] pos) (rB (rOp gIn fa fb)) := dt_cmp (op_inD hu) snd_in ha hb hm
end
/-! ### isinstance of the error that a suite holds -/
def rIsEx (a : Addr) (b : Bool) (fe : RX) : RX := fun ρ μ R => fe ρ μ fun x μ1 => x = .ref a ∧ R (.bl b) μ1
section
variable {X : Cx} {a Dc c : Addr} {oe : Obj} {pn : List (Addr × Obj)} {x : Str} {e : Expr} {fe : RX} {b : Bool} {p p2 pos : Pos}
end
end L3

/-! ## L3r -/
set_option Elab.async false
set_option linter.all false
set_option maxRecDepth 100000
set_option maxHeartbeats 4000000
/-! A def that tells the error that a lambda raises. -/
namespace L3
open PySem PySem.Spec PyProof.Rows L2
theorem repE_any {K : PySem.W.Frag} {S : Hp} : ∀ σ : L2.St, RepE K S σ (List.replicate σ.length none)
  | [] => .nil
  | o :: r => .no (repE_any r)
theorem takes_len {X : Cx} {W : WX} (t : Takes X W) : Takes X (fun cls d σ H => σ.length = X.N.length → W cls d σ H) := fun u s' ⟨a, B, sI, pins, σ, H, cls, d, e, I, nb, up, sky, na, os, ag, w⟩ => t u s' ⟨a, B, sI, pins, σ, H, cls, d, e, I, nb, up, sky, na, os, ag, w I.len⟩
/-- res: what is told of an error -/
def TErr (K : PySem.W.Frag) (res : Addr → List (Str × D) → D → Prop) : (XK → Hp → VK → Prop) → Hp → VK → Prop := fun tl H Q => ∃ S μ R, OK K S μ H ∧ Pst K S μ H R Q ∧
  tl (fun cls d H' => ∃ S' μ' C fs v, OK K S' μ' H' ∧ Stp S μ H S' μ' H' ∧ XRep K S' cls d C fs ∧ res C fs v ∧ R v μ') H (fun _ H' => Q .non H')
/-- the suite, for an error of the class C with the attributes fs: v is told -/
def SuOk (Z : Cx) (i n : Nat) (suite : List Stmt) (C : Addr) (fs : List (Str × D)) (v : D) : Prop := ∀ (a : Addr) (oe : Obj) (d : Option Addr) (pn : List (Addr × Obj)), Zc (.ref C) d oe → (∃ vs, oe.data = .fields vs) → (d = none ↔ fs = []) →
  PSs (Z.suite a ((a, oe) :: pn)) suite fun D σ H => ∃ S μ DD, OK Z.K S μ H ∧ RepE Z.K S σ (st (List.replicate n none) i (.ref a)) ∧ XRep Z.K S (.ref C) d C fs ∧ DD.rt v μ ∧ Lk Z.K S μ H D DD
/-! ### x(lambda: e) -/
/-- what the def at x that tells errors keeps -/
structure ErrD (P : Program) (w : World) (K : PySem.W.Frag) (mg : Str → Option Value) (base : Heap) (x : Str) (res : Addr → List (Str × D) → D → Prop) : Prop where
  ex : ∃ (g : Addr) (pg : Arguments) (bg : List Stmt) (sg : Scope) (dV kV doc pm cdv ct oc : Value) (an od : Option Addr) (osl : Array (Option Value)) (Ng : List Str) (a : Str),
    mg x = some (.ref g) ∧ PySem.W.keepIn K (.ref g) = true ∧ K.lookup g = some ⟨oc, od, .func (PySem.W.fnOf x x pg bg sg dV kV doc pm an cdv ct), osl⟩ ∧ PySem.W.codeIn K cdv x = true ∧ L2.Binds K (PySem.W.fnOf x x pg bg sg dV kV doc pm an cdv ct) [a] [] ∧
    FnScope Ng [a] sg ∧ Ng[0]? = some a ∧ Vis sg a ∧ (a == ("__debug__" : Str)) = false ∧ (a == ("__classdict__" : Str)) = false ∧
    ∀ (X : Cx) (q : Str), X.prog = P → X.w = w → X.K = K → X.mg = mg → X.base = base → X.A.units + 200 < cLine → LamX.GivesTo X Ng x sg g cdv bg a q (TErr K res)
/-- Pt: the table of the maker's code object -/
def rErrOf (Pt : Addr) (q : Str) (res : Addr → List (Str × D) → D → Prop) (f : RXX) : RX := fun ρ μ R => μ Pt = some (.tab q) ∧ f ρ μ (fun _ μ1 => R .non μ1) fun C fs μ1 => ∃ v, res C fs v ∧ R v μ1
open Classical in
/-- the code objects that are known now are data from now on -/
noncomputable def grow (S H1 : Hp) : Hp := fun b => match S b with
  | some o => some o
  | none => if ∃ q, H1 b = some (LamX.CodeO b q) then H1 b else none
theorem grow_sub {S H1 : Hp} {b : Addr} {o : HO} (h : S b = some o) : grow S H1 b = some o := by
  unfold grow
  rw [h]
theorem grow_code {S H1 : Hp} {c : Addr} {q : Str} (h : H1 c = some (LamX.CodeO c q)) (k : ∀ o, S c = some o → H1 c = some o) : grow S H1 c = some (LamX.CodeO c q) := by
  cases w : S c with
  | some o => rw [grow_sub w, ← k o w, h]
  | none =>
    unfold grow
    rw [w]
    dsimp only
    rw [if_pos ⟨q, h⟩, h]
theorem grow_inv {S H1 : Hp} {b : Addr} {o : HO} (h : grow S H1 b = some o) : S b = some o ∨ (S b = none ∧ ∃ q, H1 b = some (LamX.CodeO b q) ∧ o = LamX.CodeO b q) := by
  cases w : S b with
  | some o' => rw [grow_sub w] at h; exact .inl h
  | none =>
    unfold grow at h
    rw [w] at h
    dsimp only at h
    by_cases c : ∃ q, H1 b = some (LamX.CodeO b q)
    · rw [if_pos c] at h
      obtain ⟨q, e⟩ := c
      rw [e] at h
      exact .inr ⟨rfl, q, e, (Option.some.inj h).symm⟩
    · rw [if_neg c] at h; cases h
/-- a lambda is made: the table has grown -/
theorem OK.lam {K : PySem.W.Frag} {S H H1 : Hp} {μ : MH} {Pt : Addr} {q : Str} (k : OK K S μ H) (hm : μ Pt = some (.tab q)) (e : LamX.ExtN H H1) (t : LamX.TabS H1 Pt q) : OK K (grow S H1) μ H1 ∧ Stp S μ H (grow S H1) μ H1 := by
  have keepS : ∀ b o, S b = some o → H1 b = some o := fun b o h => e b o (k.sub b o h) fun ps z => k.nst b ps (by rw [h, z])
  have sm : Same S (grow S H1) := fun b o h => grow_sub h
  refine ⟨⟨fun b o h => ?_, fun a m h => ?_, fun b ps h => ?_, k.one⟩, sm, fun b o h => ?_, fun b o h _ n => e b o h n, fun b m h => .inr ⟨m, h⟩⟩
  · rcases grow_inv h with z | ⟨_, q', z1, z2⟩
    · exact keepS b o z
    · rw [z1, z2]
  · obtain ⟨z1, z2⟩ := k.mts a m h
    have nc : (∀ q', H1 a ≠ some (LamX.CodeO a q')) → grow S H1 a = none := fun n => by
      cases w : grow S H1 a with
      | none => rfl
      | some o =>
        rcases grow_inv w with z | ⟨_, q', y, _⟩
        · rw [z1] at z; cases z
        · exact absurd y (n q')
    cases m with
    | lst ds =>
      obtain ⟨vs, y1, y2⟩ := z2
      have h1 := e a _ y1 (fun _ z => by cases z)
      exact ⟨nc fun q' z => (by rw [h1] at z; unfold LamX.CodeO at z; cases z), vs, h1, y2.mono sm⟩
    | ins C fs =>
      obtain ⟨dx, vfs, y1, y2⟩ := z2
      have h1 := e a _ y1 (fun _ z => by cases z)
      exact ⟨nc fun q' z => (by rw [h1] at z; unfold LamX.CodeO at z; cases z), dx, vfs, h1, y2.mono sm⟩
    | dk kvs =>
      obtain ⟨vs, y1, y2⟩ := z2
      have h1 := e a _ y1 (fun _ z => by cases z)
      exact ⟨nc fun q' z => (by rw [h1] at z; unfold LamX.CodeO at z; cases z), vs, h1, y2.mono sm⟩
    | dct o kvs =>
      obtain ⟨vs, y1, y2⟩ := z2
      have h1 := e a _ y1 (fun _ z => by unfold DctO at z; cases z)
      exact ⟨nc fun q' z => (by rw [h1] at z; exact dctO_ne_code (Option.some.inj z)), vs, h1, y2.mono sm⟩
    | tab q' =>
      have ea := k.one a Pt q' q h hm
      subst ea
      have eq : q' = q := by
        have := h.symm.trans hm
        cases this
        rfl
      subst eq
      obtain ⟨ps, t1, t2, t3⟩ := t
      refine ⟨nc fun q2 z => (by rw [t1] at z; unfold LamX.CodeO at z; cases z), ps, t1, t2, fun pos cv hc => ?_⟩
      obtain ⟨c, c1, c2⟩ := t3 pos cv hc
      exact ⟨c, c1, grow_code c2 (keepS c)⟩
  · rcases grow_inv h with z | ⟨_, q', _, z⟩
    · exact k.nst b ps z
    · unfold LamX.CodeO at z; cases z
  · rcases grow_inv h with z | ⟨_, q', z1, z2⟩
    · exact .inl z
    · exact .inr (.inr ⟨q', z2⟩)
section
variable {X : Cx} {x : Str} {Pt c : Addr} {k : Nat} {res : Addr → List (Str × D) → D → Prop} {f : RXX} {params : Arguments} {body : Expr} {scope : Scope} {p lpos pos : Pos}
theorem de_errOf (F : ErrD X.prog X.w X.K X.mg X.base x res) (hr : Room (k + 2) X.A) (hg : Gl X x) (TB : LamX.TabB X.base X.mg c Pt) (hcode : X.env.code = .ref c) (L : LamX.LamS X.env.scope scope) (hdef : defaultsOf params X.env = ([], []))
    (hbind : ∀ (q : Str) (cl : List (Str × Addr)) (pm cv ctv : Value), bindArgs (PySem.W.kla_fn "<lambda>" q params body scope cl pm cv ctv) ⟨[], []⟩ = pure [])
    (hbody : ∀ (A : Around) (outer : List Env) (s : Shared) (H : Hp) (E : XK) (f0 c' : Addr), Room k (A.deeper (LamX.lamEnv X scope s.heap.objs.size f0 c')) → Takes (LamX.lamCx X A outer s H E scope f0 c') (fun cls d _ H' => E cls d H') → DEX (LamX.lamCx X A outer s H E scope f0 c') (fun cls d _ H' => E cls d H') body f)
    {q : Str} (hq : X.env.qual ++ "<lambda>" = q) (hdb : (x == ("__debug__" : Str)) = false := by decide) : DE X (.Call (.Name x p) [.Lambda params body scope lpos] [] pos) (rErrOf Pt q res f) := by
  subst hq
  obtain ⟨g, pg, bg, sg, dV, kV, doc, pm, cdv, ct, oc, an, od, osl, Ng, a, h1, h2, h3, h4, h5, h6, h7, h8, h9, h10, gv⟩ := F.ex
  refine pe_imp (LamX.pe_lamcall (T := [(Pt, X.env.qual ++ "<lambda>")]) (TT := TErr X.K res) (t := fun E => upX X.K (fun cls d _ H' => E cls d H') f) (k := k) hg h1 h2 h3 h4 h5 h6 h7 h8 (gv X _ rfl rfl rfl rfl rfl (by have := hr.un; omega)) TB hcode (by simp) (fun p hp _ => by
    rcases List.mem_cons.mp hp with rfl | hp
    · rfl
    · exact nomatch hp) hr L hdef hbind (fun A outer s H E f0 c' hr' => hbody A outer s H E f0 c' hr' (takes_of rfl rfl rfl rfl)) hdb h9 h10) fun σ H Q ⟨S, μ, ρ, R, k, e, ⟨hm, h⟩, post⟩ => ?_
  refine ⟨fun p hp => ?_, fun H1 eN T1 => ?_⟩
  · rcases List.mem_cons.mp hp with rfl | hp
    · obtain ⟨_, ps, t1, t2, t3⟩ := k.mts _ _ hm
      refine ⟨ps, t1, t2, fun pos cv hc => ?_⟩
      obtain ⟨c, c1, c2⟩ := t3 pos cv hc
      exact ⟨c, c1, k.sub _ _ c2⟩
    · exact nomatch hp
  · obtain ⟨k1, s1⟩ := k.lam hm eN (T1 (Pt, X.env.qual ++ "<lambda>") (by simp))
    refine ⟨grow S H1, μ, R, k1, fun S2 μ2 H2 v d k2 s2 r2 q2 => post S2 μ2 H2 v d k2 (s1.trans s2) r2 q2, ?_⟩
    refine ⟨grow S H1, μ, ρ, _, _, k1, e.mono s1.same, h, fun S2 μ2 H2 v d k2 s2 r2 q2 => ?_, fun S2 μ2 H2 cls d C fs k2 s2 x2 q2 _ => ?_⟩
    · exact post S2 μ2 H2 .non .non k2 (s1.trans s2) .non q2
    · obtain ⟨v, v1, v2⟩ := q2
      exact ⟨S2, μ2, C, fs, v, k2, s2, x2, v1, v2⟩
end
end L3

/-! ## L3s -/
set_option Elab.async false
set_option linter.all false
set_option maxRecDepth 100000
set_option maxHeartbeats 4000000
/-! The head and the end of a law that makes lambdas: its table of code objects. -/
namespace L3
open PySem PySem.Spec PyProof.Rows L2
/-! ### a def that is one try -/
section
variable {X : Cx} {Ng : List Str} {x a n xe q : Str} {sg : Scope} {g CE : Addr} {cdg : Value} {res : Addr → List (Str × D) → D → Prop} {i : Nat} {s2 b0 : Stmt} {suite : List Stmt} {p1 p2 p3 np pos' pos : Pos}
theorem err_gives (hN : Ng.Nodup) (hi : Ng[i]? = some n) (hln : sg.names.lookup n = some .local) (hge : sg.names.lookup xe = some .globalImplicit) (hme : X.mg xe = some (.ref CE)) (hde : (xe == ("__debug__" : Str)) = false) (h0 : ∀ f : Addr, (L2.start Ng [V.ref f])[0]? = some (some (V.ref f)))
    (exm : ∀ C fs v, res C fs v → PySem.W.exmOne X.K (.ref C) (.ref CE) = some true)
    (d2 : ∀ s H, PS (cxOf C8.CX0 X.prog X.w X.K X.mg X.base Ng x sg g cdg X.A X.stack s H C8.E0).nox s2 (fun D _ H => D.rt .non H))
    (su : ∀ s H C fs v, res C fs v → SuOk (cxOf C8.CX0 X.prog X.w X.K X.mg X.base Ng x sg g cdg X.A X.stack s H C8.E0).nox i Ng.length (b0 :: suite) C fs v) :
    LamX.GivesTo X Ng x sg g cdg [.Try [.Expr (.Call (.Name a p1) [] [] p2) p3] [.ExceptHandler (some (.Name xe np)) (some n) (b0 :: suite) pos'] [] [] pos, s2] a q (TErr X.K res) := by
  rintro f c' s H Q tl act hc ⟨S, μ, R, k, post, h⟩
  have hgl : Gl (cxOf C8.CX0 X.prog X.w X.K X.mg X.base Ng x sg g cdg X.A X.stack s H C8.E0).nox xe := hge
  refine ⟨_, pss_cons (ps_try_as (X := (cxOf C8.CX0 X.prog X.w X.K X.mg X.base Ng x sg g cdg X.A X.stack s H C8.E0).nox) (c := .ref CE) (i := i)
      (tb := fun W D σ H => ∃ Ech : XK, (∀ cls d σ' H', Ech cls d H' → σ'.length = Ng.length → W cls d σ' H') ∧ σ[0]? = some (some (.ref f)) ∧ H c' = some (LamX.CodeO c' q) ∧ tl Ech H (fun _ H' => D.nx σ H'))
      (ts := fun a cls d D σ H => ∃ S μ DD C fs v, OK X.K S μ H ∧ RepE X.K S σ (st (List.replicate Ng.length none) i (.ref a)) ∧ XRep X.K S cls d C fs ∧ res C fs v ∧ DD.rt v μ ∧ Lk X.K S μ H D DD)
      rfl rfl hN hi hln ⟨hgl, hde, .inl hme⟩ LamX.takes0 (fun W pn ex tk _ => ?_) (fun a oe cls d pn hz hf => ?_)) (pss_one (d2 s H)), ?_⟩
  · refine ⟨fun pins s' σ H' D I h' => ?_⟩
    obtain ⟨Ech, hW, h1, h2, h3⟩ := h'
    have hp := act _ pn ex Ech p1 p2 (takes_len tk) fun cls d σ' H' e hl => hW cls d σ' H' e hl
    exact (pss_one (ps_expr (pos := p3) hp)).run pins s' σ H' D I ⟨h1, h2, h3⟩
  · refine ⟨fun pins s' σ H' D I h' => ?_⟩
    obtain ⟨S', μ', DD, C, fs, v, k', e', x', r', q', l'⟩ := h'
    have x2 := x'
    obtain ⟨rfl, hd⟩ := x'
    have hd2 : d = none ↔ fs = [] := by
      rcases hd with ⟨e1, e2⟩ | ⟨dd, vfs, e1, _, _, e2⟩
      · exact ⟨fun _ => e2, fun _ => e1⟩
      · exact ⟨fun z => absurd (e1.symm.trans z) (by simp), fun z => absurd z e2⟩
    exact (su s H C fs v r' a oe d pn hz hf hd2).run pins s' σ H' D I ⟨S', μ', DD, k', e', x2, q', l'⟩
  · refine ⟨fun cls d H' => ∃ S' μ' C fs v, OK X.K S' μ' H' ∧ Stp S μ H S' μ' H' ∧ XRep X.K S' cls d C fs ∧ res C fs v ∧ R v μ', fun cls d σ' H' z hlen => ?_, h0 f, hc, h⟩
    obtain ⟨S', μ', C, fs, v, k', s', x', r', q'⟩ := z
    have x2 := x'
    obtain ⟨rfl, _⟩ := x'
    refine ⟨true, exm C fs v r', fun _ a ha => ?_, fun z => nomatch z⟩
    have re := (repE_any (K := X.K) (S := S') σ').set (.ref a) i
    rw [hlen] at re
    refine ⟨S', μ', ⟨fun _ _ => False, R, fun _ _ => False, fun _ _ => False, fun _ _ _ => False⟩, C, fs, v, k', re, x2, r', q', ⟨fun _ _ _ _ _ _ _ _ z => z.elim, fun S3 μ3 H3 v3 d3 k3 s3 r3 q3 => post S3 μ3 H3 v3 d3 k3 (s'.trans s3) r3 q3, fun _ _ _ _ _ _ _ _ z => z.elim, fun _ _ _ _ _ _ _ _ z => z.elim⟩⟩
end
abbrev lawDf : He.Defn := ("law", none)
/-- the law's code object, its table -/
def lawC (K : PySem.W.Frag) : Addr := (He.cT K lawDf).1
def lawP (K : PySem.W.Frag) : Addr := (He.cT K lawDf).2
theorem codeIn_ref {K : PySem.W.Frag} {v : Value} {q : Str} (h : PySem.W.codeIn K v q = true) : ∃ c, v = .ref c := by
  cases v <;> first | exact ⟨_, rfl⟩ | (exfalso; simp [PySem.W.codeIn] at h)
section
variable {P : Program} {w : World} {K : PySem.W.Frag} {mg : Str → Option Value} {base : Heap}
/-- the law's def: its code object is known -/
theorem fnDL {x qual : Str} {params : Arguments} {bd : List Stmt} {scope : Scope} {dvs : List V} {kws : List (Str × V)} {f : Addr} {fd : FuncData} {N ps : List Str} {k : Nat} {s : GN} {body : RS} (F : FunD K x qual params bd scope dvs kws f fd) (hf : He.fAd K lawDf = f) (Sc : FnScope N ps scope)
    (len : ∀ ds μ R, s ds μ R → ds.length = ps.length)
    (hb : ∀ (A : Around) (outer : List Env) (s0 : Shared) (H : Hp) (E : XK), Room k (A.deeper (envOfC qual scope s0.heap.objs.size f (.ref (lawC K)))) → DSs (cxOf CX0 P w K mg base N qual scope f (.ref (lawC K)) A outer s0 H E).nox bd body)
    (hv : ∀ ds μ R, s ds μ R → body { nx := fun _ μ' => R .non μ', rt := R } (startD N.length ds) μ) : FnOk P w K mg base CX0 (k + 1) f fd ps (spD K s) := by
  obtain ⟨oc, od, dV, kV, doc, pm, an, cdv, ct, osl, rfl, lk, hcd, _, _⟩ := F.ex
  obtain ⟨c, rfl⟩ := codeIn_ref hcd
  have ec : lawC K = c := He.codeOf_eq (by rw [hf]; exact lk) rfl
  rw [ec] at hb
  refine fn_of lk hcd Sc (fun vs H Q E h => ?_) fun A outer s0 H vs Q E hr h => ⟨upS K body, PSs.nox (hb A outer s0 H E hr), ?_⟩
  · obtain ⟨S, μ, ds, R, a, b, c, d⟩ := h
    rw [b.length]
    exact len ds μ R c
  · obtain ⟨S, μ, ds, R, a, b, c, d⟩ := h
    exact ⟨S, μ, _, _, a, repE_start b, hv ds μ R c, ⟨fun S' μ' H' σ' ρ' k' s' e' q' => d S' μ' H' _ _ k' s' .non q', fun S' μ' H' v z k' s' r' q' => d S' μ' H' v z k' s' r' q', fun _ _ _ _ _ _ _ _ q' => False.elim q', fun _ _ _ _ _ _ _ _ q' => False.elim q'⟩⟩
end
/-! ### the law's promise -/
def lawT (Pt : Addr) (q : Str) : GN := fun ds μ R => ∃ ns : List Int, ds = [.scr (ns.map D.int)] ∧ ns.length ≤ 63 ∧ μ Pt = some (.tab q) ∧ ∀ μ', R (.bl true) μ'
def spLawT (K : PySem.W.Frag) (Pt : Addr) : Sp := fun vs H Q _ => ∃ (a : Addr) (ns : List Int), vs = [.ref a] ∧ SqL K H a (ns.map V.int) ∧ ns.length ≤ 63 ∧ H Pt = some (.tbl #[]) ∧ ∀ H', Q (.bl true) H'
theorem law_impT {K : PySem.W.Frag} {Pt : Addr} {qn : Str} : ∀ vs H Q E, spLawT K Pt vs H Q E → spD K (lawT Pt qn) vs H Q E := fun vs H Q E ⟨a, ns, e, h, hl, ht, q⟩ => by
  subst e
  have one : ∀ b m, (if b = Pt then some (MO.tab qn) else none) = some m → b = Pt ∧ m = .tab qn := fun b m z => by
    by_cases w : b = Pt
    · rw [if_pos w] at z
      exact ⟨w, (Option.some.inj z).symm⟩
    · rw [if_neg w] at z; cases z
  refine ⟨noT H, fun b => if b = Pt then some (.tab qn) else none, [.scr (ns.map D.int)], fun d _ => d = .bl true, ⟨noT_sub, fun b m z => ?_, noT_nst, fun a b q r y z => ?_⟩, .cons (.scr (noT_seq h) (reps_ints ns)) .nil, ⟨ns, rfl, hl, if_pos rfl, fun _ => rfl⟩, fun S' μ' H' v d k s r h => ?_⟩
  · obtain ⟨rfl, rfl⟩ := one b m z
    refine ⟨?_, #[], ht, trivial, fun pos cv hc => ?_⟩
    · unfold noT
      rw [ht]
    · obtain ⟨ps, e1, _, e3⟩ := LamX.TabS.nil (q := qn) ht
      have : ps = #[] := by
        rw [ht] at e1
        cases e1
        rfl
      subst this
      obtain ⟨c, e4, e5⟩ := e3 pos cv hc
      have z : codeAmong pos [] = some cv := hc
      simp [codeAmong] at z
  · exact (one a _ y).1.trans (one b _ z).1.symm
  · subst h
    cases r.toBl
    exact q H'
/-! ### the hook -/
/-! ### the end -/
theorem walk_ofTE {l : PySem.W.OpenLaw} {n k : Nat} {q : Program} {loose : List Str} {XP : (Str → Option Value) → Heap → Prop} {YP : World → Heap → Prop} {d : DefRec} {CX : CXT} {x : Str}
    (hn : l.most = some n) (hn2 : n ≤ sizeLine) (hdf : d.params.defaults = []) (hr : Room k callerA)
    (F : ∀ (w : World) (mg : Str → Option Value) (fa : Addr) (h : Heap), YP w h → h.Ns mainGlobals mg → mg d.name = some (.ref fa) →
      ∃ (K : PySem.W.Frag) (fd : FuncData) (c Pt : Addr) (sp : Sp), K.In h ∧ h.get? Pt = some { cls := .none, data := .fields #[] } ∧ K.lookup Pt = none ∧ PySem.W.CodeHd h c Pt ∧ (∀ (s : Shared) (u : Value), BindsTo s fd ⟨[u], []⟩ [(x, u)]) ∧
        (∀ (H : Hp) (a : Addr) (ns : List Int), ns.length ≤ n → H Pt = some (.tbl #[]) → SqL K H a (ns.map V.int) → sp [.ref a] H (fun v _ => v = .bl true) fun _ _ _ => False) ∧
        ∀ base : Heap, K.In base → base.Ns mainGlobals mg → LamX.TabB base mg c Pt → FnOk l.prog w K mg base CX k fa fd [x] sp)
    (hCX : ∀ (H : Hp) (s : Shared) (e : Value) (s' : Shared), CX [] H s (fun _ _ _ => False) e s' → False) :
    PySem.W.WalkO q loose XP YP l.row.toRowW d [] (fun f vs => PySem.call f vs) := by
  refine Att.attach_callB hn hdf fun w s₀ s₁ mg mb fa o pm cd doc a vs ns G Y ho hd hcd hmg hobj hints hlen hbits hg => ?_
  obtain ⟨K, fd, c, Pt, sp, KX, hT, nT, hC, hb, hsp, hF⟩ := F w mg fa _ Y G.T.g hmg
  have all1 : ∀ {Z : Addr × Addr → Prop}, Z (c, Pt) → ∀ p ∈ [(c, Pt)], Z p := fun z p hp => by
    rcases List.mem_cons.mp hp with rfl | hp
    · exact z
    · exact nomatch hp
  exact LamX.law_callTs (cs := [(c, Pt)]) KX G.T.g G.T.b G.T.builtins G.T.nolimit hg (all1 hT) (all1 nT) (all1 hC) G.T.bmain hobj hints (Nat.le_trans hlen hn2) hr (fun base kb nb tb => hF base kb nb (tb (c, Pt) (by simp))) hb (fun H hH hS => hsp H a ns hlen (hH (c, Pt) (by simp)) hS) fun H e s' => hCX H s₁ e s'
/-! ### what K says of an error's class -/
/-- the classes that the law asks for, in its order -/
def errNs : List Str := ["InvalidSpot", "InvalidTurn", "InvalidTimes", "TooFew", "InvalidStroke", "OpenStroke", "InvalidReach", "OutOfReach", "TooMany", "InvalidSize", "InvalidBox", "Contradiction", "BadText", "BadRow", "UnknownName", "InvalidName", "InvalidCode", "UnknownArm", "NotFree", "InvalidOperation"]
def errN (j : Nat) : Str := errNs.getD j ""
/-- C: the j-th of the classes; CE: the base class -/
structure ErrK (K : PySem.W.Frag) (C CE : Addr) (gx : Str → Addr) (m : Nat) : Prop where
  xc : ExcC K C
  ce : PySem.W.exmOne K (.ref C) (.ref CE) = some true
  ve : PySem.W.kitOne K (.ref C) (.type "ValueError") = some true
  ks : ∀ j, j < 20 → PySem.W.kitOne K (.ref C) (.ref (gx (errN j))) = some (decide (j = m))
def errB (K : PySem.W.Frag) (C CE : Addr) (gx : Str → Addr) (m : Nat) : Bool :=
  decide (PySem.W.findIn K (.ref C) "__getattribute__" = some (some (.builtin "BaseException.__getattribute__"))) && (decide (PySem.W.findIn K (.ref C) "__getattr__" = some none) && (decide (PySem.W.subIn K (.ref C) (.type "BaseException") = some true) && (PySem.W.hasDictIn K C &&
  (decide (PySem.W.findIn K (.ref C) "__class__" = some (some (.builtin "object.__class__"))) && (decide (PySem.W.specialIn K (.builtin "object.__class__") "__get__" = some (some (.builtin "getset_descriptor.__get__"))) && (decide (PySem.W.takesIn K (.builtin "object.__class__") = some true) &&
  (decide (PySem.W.mroIn K C (.type "object") = some true) && (decide (PySem.W.exmOne K (.ref C) (.ref CE) = some true) && (decide (PySem.W.kitOne K (.ref C) (.type "ValueError") = some true) &&
  (List.range 20).all fun j => decide (PySem.W.kitOne K (.ref C) (.ref (gx (errN j))) = some (decide (j = m))))))))))))
theorem errB_ok {K : PySem.W.Frag} {C CE : Addr} {gx : Str → Addr} {m : Nat} (h : errB K C CE gx m = true) : ErrK K C CE gx m := by
  unfold errB at h
  simp only [Bool.and_eq_true, decide_eq_true_eq] at h
  obtain ⟨h1, h2, h3, h4, h5, h6, h7, h8, h9, h10, h11⟩ := h
  exact ⟨⟨h1, h2, h3, h4, h5, h6, h7, h8⟩, h9, h10, fun j hj => of_decide_eq_true (List.all_eq_true.mp h11 j (List.mem_range.mpr hj))⟩
def lamQ : Str := "law.<locals>.<lambda>"
structure UR (n : Nat) : Prop where
  units : n + 64 < cLine
  u65 : n + 65 < cLine
/-! ### calls with keywords or defaults that may raise -/
structure FnKX (P : Program) (w : World) (K : PySem.W.Frag) (mg : Str → Option Value) (base : Heap) (k : Nat) (x : Str) (s : GX) (n : Nat) (ks : List Str) (gD : List D → List D → List D) : Prop where
  ex : ∃ f fd ps g gV, FnOk P w K mg base (L2.CX P w) k f fd ps (spX K s) ∧ mg x = some (.ref f) ∧ PySem.W.keepIn K (.ref f) = true ∧ KBn K fd ps n ks g gV ∧
    ∀ (vs zs : List V) (ds es : List D) (S : Hp), Reps K S vs ds → Reps K S zs es → Reps K S (gV vs zs) (gD ds es)
structure FnDX (P : Program) (w : World) (K : PySem.W.Frag) (mg : Str → Option Value) (base : Heap) (k : Nat) (x : Str) (s : GX) (dd : List D) : Prop where
  ex : ∃ f fd ps du dv, FnOk P w K mg base (L2.CX P w) k f fd ps (spX K s) ∧ mg x = some (.ref f) ∧ PySem.W.keepIn K (.ref f) = true ∧ Binds K fd ps du ∧ Vals dv du ∧ ∀ S, Reps K S dv dd
section
variable {X : Cx} {W : WX} {k n m : Nat} {x : Str} {s : GX} {ks : List Str} {gD : List D → List D → List D} {dd : List D} {e : Expr} {es : List Expr} {kws : List Keyword} {fa fk : RA} {p pos : Pos}
end
end L3

/-! ## L3t -/
set_option Elab.async false
set_option linter.all false
set_option maxRecDepth 100000
set_option maxHeartbeats 4000000
/-! list(zip(a, b)), a and b rows. -/
namespace L3
open PySem PySem.Spec PyProof.Rows L2
section
variable {prog : Program} {w : World} {A : Around} {E : Value → Shared → Prop} {s : Shared} {z TI TO i1 i2 T : Addr} {fp1 fp2 : List Addr} {n1 n2 i : Nat} {P1 P2 : Nat → Value → Prop} {St1 St2 : Nat → Heap → Prop} {f : Bool} {oT : Obj}
end
/-! ### the zip as it stands between two turns, the list at L beside it -/
structure ZSt (z TI TO i1 i2 : Addr) (St1 St2 : Nat → Heap → Prop) (L : Addr) (i : Nat) (h : Heap) : Prop where
  pI : IsTupOf2 h TI (.ref i1) (.ref i2)
  b1 : St1 i h
  b2 : St2 i h
  zo : (IsZip h z TI TO .none ∧ ∃ a1 a2, IsTupOf2 h TO a1 a2) ∨ ∃ T f oT, IsZipHeld h z TI TO T f ∧ h.get? T = some oT ∧ T ≠ L ∧ T ≠ z ∧ T ≠ i1 ∧ T ≠ i2
structure ZAp (z TI TO i1 i2 L : Addr) (fp1 fp2 : List Addr) : Prop where
  s : ZipSep2 z TI TO i1 i2 fp1 fp2
  Lz : L ≠ z
  LI : L ≠ TI
  LO : L ≠ TO
  L1 : L ∉ fp1
  L2 : L ∉ fp2
section
variable {prog : Program} {w : World} {A : Around} {E : Value → Shared → Prop} {s : Shared} {z TI TO i1 i2 L : Addr} {fp1 fp2 : List Addr} {n1 n2 i : Nat} {P1 P2 : Nat → Value → Prop} {St1 St2 : Nat → Heap → Prop} {h h' : Heap}
theorem ZSt.kept (a : ZAp z TI TO i1 i2 L fp1 fp2) (D1 : Draws prog w A i1 fp1 n1 P1 St1) (D2 : Draws prog w A i2 fp2 n2 P2 St2) (t : ZSt z TI TO i1 i2 St1 St2 L i h) (k : ∀ c o, c ≠ L → h.get? c = some o → h'.get? c = some o) : ZSt z TI TO i1 i2 St1 St2 L i h' := by
  refine ⟨k _ _ a.LI.symm t.pI, D1.frame _ _ _ t.b1 fun b hb o q => k b o (fun e => a.L1 (e ▸ hb)) q, D2.frame _ _ _ t.b2 fun b hb o q => k b o (fun e => a.L2 (e ▸ hb)) q, ?_⟩
  rcases t.zo with ⟨q1, a1, a2, q2⟩ | ⟨T, f, oT, q1, q2, q3, q4⟩
  · exact .inl ⟨k _ _ a.Lz.symm q1, a1, a2, k _ _ a.LO.symm q2⟩
  · exact .inr ⟨T, f, oT, k _ _ a.Lz.symm q1, k _ _ q3 q2, q3, q4⟩
end
/-- the pairs given out so far, at rising places behind lo -/
structure ZGot (P1 P2 : Nat → Value → Prop) (lo : Addr) (h : Heap) (as : List Addr) : Prop where
  rise : as.Pairwise (· < ·)
  over : ∀ a ∈ as, lo < a
  pair : ∀ (j : Nat) (a : Addr), as[j]? = some a → ∃ x y, P1 j x ∧ P2 j y ∧ IsTupOf2 h a x y
theorem ZGot.there {P1 P2 : Nat → Value → Prop} {lo : Addr} {h : Heap} {as : List Addr} (g : ZGot P1 P2 lo h as) {a : Addr} (m : a ∈ as) : a < h.objs.size := by
  obtain ⟨j, e⟩ := List.mem_iff_getElem?.mp m
  obtain ⟨_, _, _, _, q⟩ := g.pair j a e
  exact Heap.lt_size q
section
variable {prog : Program} {w : World} {A : Around} {s : Shared} {R : Result → Shared → Prop} {z TI TO i1 i2 L : Addr} {fp1 fp2 : List Addr} {n1 n2 : Nat} {P1 P2 : Nat → Value → Prop} {St1 St2 : Nat → Heap → Prop}
end
section
variable {prog : Program} {w : World} {A : Around} {E : Value → Shared → Prop} {s : Shared} {z TI TO i1 i2 L : Addr} {fp1 fp2 : List Addr} {n1 n2 : Nat} {P1 P2 : Nat → Value → Prop} {St1 St2 : Nat → Heap → Prop}
end
/-! ### over the layer -/
def putP : Hp → List Addr → List (V × V) → Hp
  | H, a :: as, p :: ps => putP (upd H a (.tup [p.1, p.2])) as ps
  | H, _, _ => H
section
variable {X : Cx} {e e2 : Expr} {ta : TA} {p p2 zpos pos : Pos}
end
/-! ### as a reading -/
end L3

/-! ## L3v -/
set_option Elab.async false
set_option linter.all false
set_option maxRecDepth 100000
set_option maxHeartbeats 4000000
/-! Errors with attributes: a def that begins with super().__init__(text). -/
namespace L3
open PySem PySem.Spec PyProof.Rows L2
/-- the context of a def that closes over its class, at its entry -/
def cxK (CX : CXT) (P : Program) (w : World) (K : PySem.W.Frag) (mg : Str → Option Value) (base : Heap) (N : List Str) (qual : Str) (scope : Scope) (f : Addr) (cd : Value) (cc : Addr) (A : Around) (outer : List Env) (s : Shared) (H : Hp) (E : XK) : Cx where
  prog := P
  w := w
  K := K
  mg := mg
  base := base
  A := A.deeper (PySem.W.ksEnv qual scope s.heap.objs.size f cd cc)
  N := N
  s_0 := s
  H_0 := H
  env := PySem.W.ksEnv qual scope s.heap.objs.size f cd cc
  outer := outer
  stack := PySem.W.ksEnv qual scope s.heap.objs.size f cd cc :: outer
  ex := []
  calm := true
  fn := fun _ => false
  pn := []
  xe := fun e s' => wpAny (model P w) (A.deeper (PySem.W.ksEnv qual scope s.heap.objs.size f cd cc)) (leaving (PySem.W.ksEnv qual scope s.heap.objs.size f cd cc) e) (fun _ s'' => CX outer H s E e s'') (fun e' s'' => CX outer H s E e' s'') s'
structure ScK (N ps : List Str) (scope : Scope) : Prop where
  nd : N.Nodup
  pre : N.take ps.length = ps
  par : ∀ x ∈ ps, scope.names.lookup x = some .local
  kind : scope.kind = .function
  co : scope.isCoroutine = false
  gen : scope.isGenerator = false
  own : ∀ p ∈ scope.names, p.2 ≠ .cell
  fre : ∀ p ∈ scope.names, p.2 = .free → p.1 = "__class__"
theorem look1 {x : Str} {c cc : Addr} (h : ([(("__class__" : Str), cc)] : List (Str × Addr)).lookup x = some c) : x = "__class__" ∧ c = cc := by
  rw [List.lookup_cons] at h
  cases q : x == ("__class__" : Str) with
  | true => rw [q] at h; exact ⟨eq_of_beq q, (Option.some.inj h).symm⟩
  | false => rw [q] at h; cases h
theorem rev_get {x : Str} {v : Value} : ∀ {P : List Str} {vs : List Value} {i : Nat}, P.Nodup → P[i]? = some x → vs[i]? = some v → (P.zip vs).reverse.lookup x = some v := by
  intro P
  induction P with
  | nil => intro vs i _ h; simp at h
  | cons p P ih =>
    intro vs i nd h1 h2
    cases vs with
    | nil => simp at h2
    | cons w vs =>
      have nd' := List.nodup_cons.mp nd
      rw [List.zip_cons_cons, List.reverse_cons]
      have app : ∀ (l1 l2 : List (Str × Value)), (l1 ++ l2).lookup x = (l1.lookup x).or (l2.lookup x) := by
        intro l1 l2
        induction l1 with
        | nil => rfl
        | cons q l1 ih =>
          obtain ⟨a, b⟩ := q
          rw [List.cons_append, List.lookup_cons, List.lookup_cons]
          cases e : x == a with
          | true => rfl
          | false => exact ih
      rw [app]
      cases i with
      | zero =>
        simp at h1 h2
        subst h1 h2
        have no : (P.zip vs).reverse.lookup p = none := by
          rw [List.lookup_eq_none_iff]
          intro q hq
          obtain ⟨a, b⟩ := q
          have := List.mem_reverse.mp hq
          have m := (List.of_mem_zip this).1
          simp
          intro e
          exact nd'.1 (e ▸ m)
        rw [no]
        simp [List.lookup]
      | succ i =>
        rw [ih nd'.2 (by simpa using h1) (by simpa using h2)]
        rfl
section
variable {CX : CXT} {P : Program} {w : World} {K : PySem.W.Frag} {mg : Str → Option Value} {base : Heap} {N ps : List Str} {qual : Str} {scope : Scope} {f cc : Addr} {cd : Value} {A : Around} {outer : List Env} {s : Shared} {H : Hp} {E : XK} {us : List Value} {vs : List V}
theorem inv_startK {cl ov : Value} {cld : Option Addr} {csl : Array (Option Value)} {h1 : Heap} {tk : Nat} (S : ScK N ps scope) (hd : A.handled = none) (e0 : Env0 P w K mg base A outer s H) (hl : vs.length = ps.length) (r : Vals vs us) (hc : K.lookup cc = some ⟨cl, cld, .cell (some ov), csl⟩)
    (ns : h1.Ns s.heap.objs.size (fun x => (ps.zip us).reverse.lookup x)) (hk : ∀ b o, s.heap.get? b = some o → h1.get? b = some o) : Inv (cxK CX P w K mg base N qual scope f cd cc A outer s H E) [] (start N vs) H { s with heap := h1, toks := tk } := by
  have noA : ∀ b : Addr, b ∉ (cxK CX P w K mg base N qual scope f cd cc A outer s H E).ex := fun b z => absurd (show b ∈ ([] : List Addr) from z) (by simp)
  have cb := e0.mod.kin _ _ hc
  have cz := e0.bs _ _ cb
  refine ⟨⟨e0.mod, S.kind, rfl, rfl, Nat.le_refl _, fun y z c h1 h2 => ?_, fun y hy => ?_, fun y c q h => (nomatch q), fun _ => hd, Around.frames_deeper e0.frames, .inr ⟨rfl, rfl⟩, fun b z => absurd z (noA b), e0.bs, e0.bsz, fun b _ _ => noA b, fun b z => absurd z (noA b), e0.funs, e0.frf⟩,
    rfl, e0.bare, Un.kept hk, ⟨_, ns, fun i y v h1 h2 h3 => ?_⟩, fun y c h => ?_, e0.hok.fresh (Nat.le_refl _), fun y c h => ?_, fun p hp => absurd (show p ∈ ([] : List (Addr × Obj)) from hp) (by simp), e0.hok.kept hk, ?_⟩
  · exact (look1 h1).1.trans (look1 h2).1.symm
  · have hy : scope.names.lookup y = some .cell ∨ scope.names.lookup y = some .free := hy
    rcases hy with hy | hy
    · exact absurd rfl (S.own _ (PySem.mem_of_lookup hy))
    · have e := S.fre _ (PySem.mem_of_lookup hy) rfl
      dsimp only at e
      subst e
      exact ⟨cc, rfl⟩
  · have hi : i < vs.length := by
      unfold L2.start at h2
      by_cases hi : i < vs.length
      · exact hi
      · rw [List.getElem?_append_right (by simpa using hi)] at h2
        rw [List.getElem?_replicate] at h2
        split at h2 <;> cases h2
    have ha : vs[i]? = some v := by
      unfold L2.start at h2
      rw [List.getElem?_append_left (by simpa using hi), List.getElem?_map] at h2
      cases e : vs[i]? with
      | none => rw [e] at h2; cases h2
      | some a => rw [e] at h2; cases h2; rfl
    obtain ⟨u, hu, rv⟩ := r.get ha
    have hp : ps[i]? = some y := by
      rw [← S.pre, List.getElem?_take_of_lt (by omega)]; exact h1
    have ndP : ps.Nodup := by rw [← S.pre]; exact S.nd.sublist (List.take_sublist _ _)
    exact ⟨u, rv, .inl ⟨S.par y (List.mem_of_getElem? hp), rev_get ndP hp hu⟩⟩
  · obtain ⟨rfl, rfl⟩ := look1 h
    exact ⟨some ov, _, hk _ _ cz.1, rfl⟩
  · obtain ⟨rfl, rfl⟩ := look1 h
    exact cz.2
  · unfold L2.start
    show _ = N.length
    have hpl : ps.length ≤ N.length := by have := congrArg List.length S.pre; rw [List.length_take] at this; omega
    rw [List.length_append, List.length_map, List.length_replicate]
    omega
end

/-- what the program and its written part say of a class's __init__ that begins with super().__init__(..): f, the def; cc, its cell -/
structure SupK (P : Program) (K : PySem.W.Frag) (mg : Str → Option Value) (f cc C : Addr) (cd : Value) (x0 : Str) : Prop where
  cell : ∃ cl cld csl, K.lookup cc = some ⟨cl, cld, .cell (some (.ref C)), csl⟩
  code : ∃ cda ccl cdd vs ccs file tf, cd = .ref cda ∧ K.lookup cda = some ⟨ccl, cdd, .fields vs, ccs⟩ ∧ vs[2]? = some (.str file tf) ∧ ((P.main.file : Str) == file) = true
  cls : ∃ cdD, PySem.W.clsIn K C = some cdD
  sub : PySem.W.mroIn K C (.ref C) = some true
  top : (P.main.scope.names.lookup ("super" : Str)).isSome = false
  ms : mg "super" = none
  up : PySem.W.ks_superIn K C C "__init__" = some (some (.builtin "ValueError.__init__"))
  ve : PySem.W.subIn K (.ref C) (.type "ValueError") = some true
  opq : PySem.W.nsIn K cStatics "thirdparty.any" = some none
  oex : OexC K C
section
variable {CX : CXT} {P : Program} {w : World} {K : PySem.W.Frag} {mg : Str → Option Value} {base : Heap} {N : List Str} {qual : Str} {scope : Scope} {f cc C a : Addr} {cd : Value} {A : Around} {outer : List Env} {s : Shared} {H0 H : Hp} {E : XK} {σ : L2.St} {x0 m : Str} {body : List Stmt} {p0 p1 p2 p3 p4 : Pos} {j : Nat} {oc : Value} {od : Option Addr} {osl : Array (Option Value)} {fd : FuncData} {ar : Arg} {E' : Value → Shared → Prop}
theorem super_call {s1 : Shared} {Q : Value → Shared → Prop} (T : SupK P K mg f cc C cd x0) (I : Inv (cxK CX P w K mg base N qual scope f cd cc A outer s H0 E) [] σ H s1) (lk : K.lookup f = some ⟨oc, od, .func fd, osl⟩) (hp : (fd.params.posonlyargs ++ fd.params.args).head? = some ar) (ha0 : ar.arg = x0)
    (hN : N[0]? = some x0) (h0 : σ[0]? = some (some (.ref a))) (hl : scope.names.lookup x0 = some .local) (hg : scope.names.lookup ("super" : Str) = some .globalImplicit) (hfc : scope.names.lookup ("__class__" : Str) = some .free) (hk : scope.kind = .function) (he : H a = some (exo a C none))
    {pl : Sem Bool} (hev : ∀ cd, eval (.Call (.Attribute (.Call (.Name "super" p0) [] [] p1) "__init__" p2) [.Constant (.str m) j p3] [] p4) (PySem.W.ksEnv qual scope s.heap.objs.size f cd cc) = (do
      let ov ← attributeBase (.Call (.Name "super" p0) [] [] p1) "__init__" (PySem.W.ksEnv qual scope s.heap.objs.size f cd cc) (eval (.Call (.Name "super" p0) [] [] p1) (PySem.W.ksEnv qual scope s.heap.objs.size f cd cc))
      standAt p2.atName
      let (g, first) ← holding [ov] (getMethod ov "__init__" pl)
      callWith p4 g first (backTo p4 (starEach [.Constant (.str m) j p3] (PySem.W.ksEnv qual scope s.heap.objs.size f cd cc))) []))
    (hQ : ∀ v s', Inv (cxK CX P w K mg base N qual scope f cd cc A outer s H0 E) [] σ H s' → Q v s') :
    PySem.wpAt (model P w) (A.deeper (PySem.W.ksEnv qual scope s.heap.objs.size f cd cc)) (.func body (PySem.W.ksEnv qual scope s.heap.objs.size f cd cc)) (eval (.Call (.Attribute (.Call (.Name "super" p0) [] [] p1) "__init__" p2) [.Constant (.str m) j p3] [] p4) (PySem.W.ksEnv qual scope s.heap.objs.size f cd cc)) Q E' s1 := by
  obtain ⟨cl, cld, csl, hcell⟩ := T.cell
  obtain ⟨cda, ccl, cdd, vs, ccs, file, tf, rfl, hcode, hvs, hfile⟩ := T.code
  obtain ⟨cdD, hD⟩ := T.cls
  have KX : K.In s1.heap := I.kIn
  obtain ⟨mm, hns, hl0⟩ := I.loc
  obtain ⟨t1, hx⟩ := exo_at I.hok he
  obtain ⟨oD, hD1, hD2⟩ : ∃ oD, s1.heap.get? C = some oD ∧ oD.data = .cls cdD := by
    unfold PySem.W.clsIn at hD
    split at hD
    · rename_i c d cd' sl ho
      cases hD
      exact ⟨_, KX _ _ ho, rfl⟩
    · cases hD
  subst ha0
  have hself : mm ar.arg = some (.ref a) := by
    obtain ⟨u, ru, lo⟩ := hl0 0 ar.arg (.ref a) hN h0 (.inl hl)
    cases ru
    rcases lo with ⟨_, q⟩ | ⟨hk2, c, hc2, _⟩
    · exact q
    · have e := (look1 hc2).1
      rw [e] at hl
      rw [hfc] at hl
      cases hl
  obtain ⟨hh, gg, dd, tk, os⟩ := s1
  have gl : Gl (cxK CX P w K mg base N qual scope f (.ref cda) cc A outer s H0 E) "super" := hg
  refine ks_wpAt_MethodCall (pl := pl) ?_ (hev _)
  refine ks_wpAt_super_base (env := PySem.W.ksEnv qual scope s.heap.objs.size f (.ref cda) cc) hg hfc (by decide) rfl (KX _ _ lk) rfl hp rfl (KX _ _ hcode) rfl hvs hfile T.top ?_
  obtain ⟨mb, hb1, hb2⟩ := I.mod.blt
  refine PySem.W.ks_loadName_global hk hg (Calls.loadGlobal_builtin (env := PySem.W.ksEnv qual scope s.heap.objs.size f (.ref cda) cc) (I.mod.glob.keeps I.bk) T.ms (hb1.keeps I.bk) ((hb2 "super" (by decide)).trans (show bootBuiltins "super" = some (.type "super") by decide +kernel)) ⟨rfl, ?_⟩)
  refine wpAny_loadName_free hk hfc rfl ⟨_, KX _ _ hcell, rfl⟩ ?_
  refine wpAny_loadName_local hk hl hns hself ?_
  refine ks_wpAny_isType_cls hD1 hD2 ⟨rfl, ?_⟩
  refine ks_wpAny_call_super hD1 hD2 hx rfl (fun c e => nomatch e) (PySem.W.looks_mroIn KX T.sub) (fun h1 e k1 => ?_)
  have KX1 : K.In h1 := KX.keeps k1
  have I1 : Inv (cxK CX P w K mg base N qual scope f (.ref cda) cc A outer s H0 E) [] σ H ⟨h1, gg, dd, tk, os⟩ := I.kept (t' := tk) k1
  have hx1 := k1 _ _ hx
  have J1 : PySem.W.InstAt h1 a _ C none := ⟨hx1, rfl, rfl, trivial⟩
  have up := T.up
  unfold PySem.W.ks_superIn at up
  rw [hD] at up
  refine PySem.W.kxs_getMethod PySem.W.kxs_ValueError e (PySem.W.looks_opaque KX1 T.opq) (l₀ := cdD.mro) (fun A Q E s k q => wpAny_bind ((PySem.W.looks_clsIn KX1 hD) A _ E s k (wpAny_pure q))) rfl KX1 up (J1.type.andThen (PySem.W.looks_subIn KX1 T.ve)) (PySem.W.ks_ne KX1 J1 hD) (by decide) ?_
  have k2 : ∀ b o, h1.get? b = some o → (h1.push (PySem.W.kxs_mw "ValueError.__init__" a)).get? b = some o := fun b o q => Heap.get?_push_of_some _ q
  have hu : (h1.push (PySem.W.kxs_mw "ValueError.__init__" a)).get? h1.objs.size = some (PySem.W.kxs_mw "ValueError.__init__" a) := Heap.get?_push_size _ rfl
  have I2 : Inv (cxK CX P w K mg base N qual scope f (.ref cda) cc A outer s H0 E) [] σ H ⟨h1.push (PySem.W.kxs_mw "ValueError.__init__" a), gg, dd, tk + 1 + 1, os⟩ := I1.kept (t' := tk + 1 + 1) k2
  have hx2 := k2 _ _ hx1
  refine PySem.W.kxs_callWith (i := "ValueError.__init__") (u := h1.objs.size) (x := a) rfl ?_
  refine Calls.evalArgs_plain (x := eval (.Constant (.str m) j p3) (PySem.W.ksEnv qual scope s.heap.objs.size f (.ref cda) cc)) (rest := []) ?_
  refine Calls.spliced_cons (Calls.Constant_str (Calls.spliced_nil ⟨hu, ?_⟩))
  obtain ⟨nm, q, Nn, bs, bm, sn, sub, ab, col, dn, k0, k1', k2', k3, k5, hC, hbm⟩ := T.oex.cls
  have hC2 := I2.kIn _ _ hC
  refine wpAny_call (codeAny_of_tree ?_)
  show wpAny _ (A.deeper (PySem.W.ksEnv qual scope s.heap.objs.size f (.ref cda) cc)).in1 (callAny (.ref h1.objs.size) ⟨[.str m (tk + 1)], []⟩) _ _ _
  simp only [callAny]
  refine wpAny_bind (wpAny_load hu ?_)
  simp only [PySem.W.kxs_mw, show (Value.type "method-wrapper" == Value.type "method" || Value.type "method-wrapper" == Value.type "builtin_function_or_method" || Value.type "method-wrapper" == Value.type "method-wrapper") = true by decide, if_true]
  refine PySem.W.KFB.if_so (by decide) ?_
  refine wpAny_bind (PySem.W.check_bound_init F.excBase_ValueError.toExcCallFacts hC2 hx2 rfl ?_)
  refine wpAny_bind (wpAny_pure (wpAny_pure ?_))
  refine ⟨plainId_quiet F.excBase_ValueError.init.plain _, codeAny_builtin F.excBase_ValueError.initEntry ?_⟩
  refine PySem.W.exc_init_tree (cls := .ref C) (t0 := t1) (dv := none) (c2 := .none) (c3 := .none) (b4 := .bool false) hx2 (by show 1 ≤ sizeLine; decide) fun h' kp e' t' => ?_
  have J := I2.write (t' := tk + 1 + 1) (x := a) (e := a) (o := exo a C none) (by rw [he]; exact True.intro) (.inl rfl) kp ⟨_, e'⟩ (exo_ok e')
  have eu : upd H a (exo a C none) = H := by
    funext b
    by_cases hb : b = a
    · rw [hb, upd_same, he]
    · rw [upd_ne hb]
  rw [eu] at J
  exact hQ _ _ J
theorem fn_super {dV kV doc pm ct : Value} {an : Option Addr} {name : Str} {params : Arguments} {rest : List Stmt} {p5 : Pos} {ps : List Str} {k : Nat} {sp : Sp} {pl : Sem Bool}
    (lk : K.lookup f = some ⟨oc, od, .func (PySem.W.ksFn name qual params (.Expr (.Call (.Attribute (.Call (.Name "super" p0) [] [] p1) "__init__" p2) [.Constant (.str m) j p3] [] p4) p5 :: rest) scope dV kV doc pm an cd ct cc), osl⟩) (hcd : PySem.W.codeIn K cd qual = true)
    (S : ScK N ps scope) (T : SupK P K mg f cc C cd x0) (hp : (params.posonlyargs ++ params.args).head? = some ar) (ha0 : ar.arg = x0) (hN : N[0]? = some x0) (hl : scope.names.lookup x0 = some .local) (hg : scope.names.lookup ("super" : Str) = some .globalImplicit) (hfc : scope.names.lookup ("__class__" : Str) = some .free)
    (hev : ∀ (L : Addr) cd, eval (.Call (.Attribute (.Call (.Name "super" p0) [] [] p1) "__init__" p2) [.Constant (.str m) j p3] [] p4) (PySem.W.ksEnv qual scope L f cd cc) = (do
      let ov ← attributeBase (.Call (.Name "super" p0) [] [] p1) "__init__" (PySem.W.ksEnv qual scope L f cd cc) (eval (.Call (.Name "super" p0) [] [] p1) (PySem.W.ksEnv qual scope L f cd cc))
      standAt p2.atName
      let (g, first) ← holding [ov] (getMethod ov "__init__" pl)
      callWith p4 g first (backTo p4 (starEach [.Constant (.str m) j p3] (PySem.W.ksEnv qual scope L f cd cc))) []))
    (hsw : ∀ (L : Addr), swapsWith (.Call (.Attribute (.Call (.Name "super" p0) [] [] p1) "__init__" p2) [.Constant (.str m) j p3] [] p4) none p5.line (PySem.W.ksEnv qual scope L f cd cc) = pure false) (hin : ∀ (L : Addr), interactive (PySem.W.ksEnv qual scope L f cd cc) = false)
    (len : ∀ vs H Q E, sp vs H Q E → vs.length = ps.length)
    (hbody : ∀ (A : Around) (outer : List Env) (s : Shared) (H : Hp) (vs : List V) (Q : VK) (E : XK), Room k (A.deeper (PySem.W.ksEnv qual scope s.heap.objs.size f cd cc)) → sp vs H Q E →
      ∃ a t, (L2.start N vs)[0]? = some (some (.ref a)) ∧ H a = some (exo a C none) ∧ PSs (cxK CX P w K mg base N qual scope f cd cc A outer s H E) rest t ∧ t { nx := fun _ H' => Q .non H', rt := Q } (L2.start N vs) H) :
    FnOk P w K mg base CX (k + 1) f (PySem.W.ksFn name qual params (.Expr (.Call (.Attribute (.Call (.Name "super" p0) [] [] p1) "__init__" p2) [.Constant (.str m) j p3] [] p4) p5 :: rest) scope dV kV doc pm an cd ct cc) ps sp := by
  refine ⟨len, fun A outer s H args us vs Q E hr e0 hb r hsp => ?_⟩
  have hlen := len _ _ _ _ hsp
  have KX : K.In s.heap := e0.mod.kin.keeps fun b o e => (e0.bs b o e).1
  have lim : s.heap.NoLimit := e0.mod.nolimit.keeps fun b o e => (e0.bs b o e).1
  obtain ⟨cl, cld, csl, hcell⟩ := T.cell
  obtain ⟨a, t, h0, ha, ht, hq⟩ := hbody A outer s H vs Q E (hr.deeper _) hsp
  refine ks_codeAny_call_defAt hr.depth (KX _ _ lk) rfl lim (PySem.W.codeRec_of KX hcd) rfl hb S.own (fun y hy => S.par _ (List.of_mem_zip (show (y.1, y.2) ∈ ps.zip us from hy)).1) (fun h1 ns hk => ?_) S.co S.gen S.kind
  have I : Inv (cxK CX P w K mg base N qual scope f cd cc A outer s H E) [] (L2.start N vs) H { s with heap := h1, toks := s.toks + (ps.zip us).length } := inv_startK S hr.hd e0 hlen r hcell ns hk
  refine ks_wpAt_execs_cons ?_
  refine ks_wpAt_Expr_any ?_ (hin _) (hsw _)
  refine super_call (ar := ar) T I lk hp ha0 hN h0 hl hg hfc S.kind ha (hev _) fun v s2 I2 => ?_
  refine wpAt_of_wpAny ?_
  refine wpAny_mono (ht.run [] s2 (L2.start N vs) H _ I2 hq) (fun fl s' hs => ?_) fun e s' hs => hs
  have fin : ∀ {σ' : L2.St} {H' : Hp} {v : V} {u : Value}, Inv (cxK CX P w K mg base N qual scope f cd cc A outer s H E) [] σ' H' s' → L2.RelV v u → Q v H' → CE outer P w H s Q u s' :=
    fun {σ' H' v u} J rv q => ⟨v, H', J.os, J.bare, J.base, J.hok, rv, q⟩
  cases fl with
  | ret u =>
    obtain ⟨v, σ', H', J, rv, q⟩ := hs
    exact fin J rv q
  | next =>
    obtain ⟨σ', H', J, q⟩ := hs
    exact fin (v := V.non) (u := Value.none) J rfl q
  | brk =>
    obtain ⟨_, _, _, q⟩ := hs
    exact False.elim q
  | cont =>
    obtain ⟨_, _, _, q⟩ := hs
    exact False.elim q
end
end L3

/-! ## L3w -/
set_option Elab.async false
set_option linter.all false
set_option maxRecDepth 100000
set_option maxHeartbeats 4000000
/-! Errors with attributes: made, raised, their attributes read in a suite. -/
namespace L3
open PySem PySem.Spec PyProof.Rows L2
theorem upd_upd {H : Hp} {a : Addr} {o u : HO} : upd (upd H a o) a u = upd H a u := by
  funext b
  by_cases e : b = a
  · rw [e, upd_same, upd_same]
  · rw [upd_ne e, upd_ne e, upd_ne e]
theorem upd_comm {H : Hp} {a b : Addr} {o u : HO} (h : a ≠ b) : upd (upd H a o) b u = upd (upd H b u) a o := by
  funext c
  by_cases e : c = b
  · rw [e, upd_same, upd_ne h.symm, upd_same]
  · by_cases e2 : c = a
    · rw [upd_ne e, e2, upd_same, upd_same]
    · rw [upd_ne e, upd_ne e2, upd_ne e2, upd_ne e]
theorem upd_self {H : Hp} {a : Addr} {o : HO} (h : H a = some o) : upd H a o = H := by
  funext b
  by_cases e : b = a
  · rw [e, upd_same, h]
  · rw [upd_ne e]
/-- self.f = x, .. -/
def tStores (K : PySem.W.Frag) : List (Str × Nat) → TS
  | [] => tNext
  | q :: r => tSeq (tOst K q.1 (tVar 0) (tVar q.2)) (tStores K r)
section
variable {K : PySem.W.Frag} {C a dx : Addr} {σ : L2.St} {D : Ends}
theorem stores_old (T : OexC K C) (h0 : σ[0]? = some (some (.ref a))) (ne : dx ≠ a) : ∀ (l : List (Str × Nat × V)) (acc : List (Str × V)) (H : Hp), (∀ q ∈ l, PySem.W.findIn K (.ref C) q.1 = some none ∧ σ[q.2.1]? = some (some q.2.2)) → H a = some (exo a C (some dx)) → H dx = some (exd dx acc) → acc.length + l.length ≤ 900 →
    D.nx σ (upd H dx (exd dx ((l.map fun q => (q.1, q.2.2)).reverse ++ acc))) → tStores K (l.map fun q => (q.1, q.2.1)) D σ H
  | [], acc, H, _, h1, h2, _, q => by
    rw [List.map_nil, List.reverse_nil, List.nil_append, upd_self h2] at q
    exact q
  | p :: l, acc, H, hl, h1, h2, hz, q => by
    obtain ⟨n1, n2⟩ := hl p (List.mem_cons_self ..)
    have hz' : acc.length + (l.length + 1) ≤ 900 := hz
    refine ⟨p.2.2, n2, .ref a, h0, a, C, rfl, T, n1, .inr ⟨dx, acc, h1, h2, by omega, ?_⟩⟩
    refine stores_old T h0 ne l ((p.1, p.2.2) :: acc) _ (fun q hq => hl q (List.mem_cons_of_mem _ hq)) (by rw [upd_ne ne.symm]; exact h1) upd_same (by rw [List.length_cons]; omega) ?_
    rw [upd_upd]
    rw [List.map_cons, List.reverse_cons, List.append_assoc] at q
    exact q
theorem stores_new (T : OexC K C) (h0 : σ[0]? = some (some (.ref a))) (p : Str × Nat × V) (l : List (Str × Nat × V)) (H : Hp) (hl : ∀ q ∈ p :: l, PySem.W.findIn K (.ref C) q.1 = some none ∧ σ[q.2.1]? = some (some q.2.2)) (h1 : H a = some (exo a C none)) (hz : l.length ≤ 800)
    (q : ∀ dx, H dx = none → dx ≠ a → D.nx σ (upd (upd H a (exo a C (some dx))) dx (exd dx ((p :: l).map fun q => (q.1, q.2.2)).reverse))) : tStores K ((p :: l).map fun q => (q.1, q.2.1)) D σ H := by
  obtain ⟨n1, n2⟩ := hl p (List.mem_cons_self ..)
  refine ⟨p.2.2, n2, .ref a, h0, a, C, rfl, T, n1, .inl ⟨h1, fun dx e1 e2 => ?_⟩⟩
  refine stores_old T h0 e2 l [(p.1, p.2.2)] _ (fun q hq => hl q (List.mem_cons_of_mem _ hq)) upd_same (by rw [upd_ne e2]; exact upd_same) (by show 1 + l.length ≤ 900; omega) ?_
  rw [upd_comm e2, upd_upd]
  have := q dx e1 e2
  rw [List.map_cons, List.reverse_cons] at this
  exact this
end
/-- the __init__ of the errors of the class at C: behind it stand the attributes -/
def spI (C : Addr) (names : List Str) : Sp := fun vs H Q _ => ∃ (a : Addr) (ws : List V), vs = .ref a :: ws ∧ ws.length = names.length ∧ H a = some (exo a C none) ∧ ∀ dx, H dx = none → dx ≠ a → Q .non (upd (upd H a (exo a C (some dx))) dx (exd dx (names.zip ws).reverse))
theorem zip3_map {names : List Str} {ws : List V} : ∀ (n : Nat), names.length = ws.length → ((names.zip ((List.range' n names.length).zip ws)).map fun q => (q.1, q.2.2)) = names.zip ws := by
  induction names generalizing ws with
  | nil => intro n _; rfl
  | cons f fs ih =>
    intro n h
    cases ws with
    | nil => simp at h
    | cons w ws =>
      rw [List.length_cons, List.range'_succ, List.zip_cons_cons, List.zip_cons_cons, List.map_cons, ih (n + 1) (by simpa using h), List.zip_cons_cons]
theorem zip3_fst {names : List Str} {ws : List V} : ∀ (n : Nat), names.length = ws.length → ((names.zip ((List.range' n names.length).zip ws)).map fun q => (q.1, q.2.1)) = names.zip (List.range' n names.length) := by
  induction names generalizing ws with
  | nil => intro n _; rfl
  | cons f fs ih =>
    intro n h
    cases ws with
    | nil => simp at h
    | cons w ws =>
      rw [List.length_cons, List.range'_succ, List.zip_cons_cons, List.zip_cons_cons, List.map_cons, ih (n + 1) (by simpa using h), List.zip_cons_cons]
theorem zip3_mem {names : List Str} {ws : List V} {σ : L2.St} : ∀ (n : Nat) (q : Str × Nat × V), (∀ j w, ws[j]? = some w → σ[n + j]? = some (some w)) → q ∈ names.zip ((List.range' n names.length).zip ws) → q.1 ∈ names ∧ σ[q.2.1]? = some (some q.2.2) := by
  induction names generalizing ws with
  | nil => intro n q _ h; simp at h
  | cons f fs ih =>
    intro n q hs h
    cases ws with
    | nil => simp at h
    | cons w ws =>
      rw [List.length_cons, List.range'_succ, List.zip_cons_cons, List.zip_cons_cons] at h
      rcases List.mem_cons.mp h with rfl | h
      · exact ⟨List.mem_cons_self .., hs 0 w rfl⟩
      · obtain ⟨a, b⟩ := ih (n + 1) q (fun j v e => by
          have := hs (j + 1) v (by simpa using e)
          rw [show n + 1 + j = n + (j + 1) by omega]
          exact this) h
        exact ⟨List.mem_cons_of_mem _ a, b⟩
section
variable {CX : CXT} {P : Program} {w : World} {K : PySem.W.Frag} {mg : Str → Option Value} {base : Heap} {N : List Str} {qual : Str} {scope : Scope} {f cc C : Addr} {cd : Value} {x0 m : Str} {p0 p1 p2 p3 p4 p5 : Pos} {j : Nat} {oc : Value} {od : Option Addr} {osl : Array (Option Value)} {ar : Arg}
/-- self.a = a, .. behind super().__init__(..) -/
theorem fn_init {dV kV doc pm ct : Value} {an : Option Addr} {name : Str} {params : Arguments} {rest : List Stmt} {names : List Str} {k : Nat} {pl : Sem Bool}
    (lk : K.lookup f = some ⟨oc, od, .func (PySem.W.ksFn name qual params (.Expr (.Call (.Attribute (.Call (.Name "super" p0) [] [] p1) "__init__" p2) [.Constant (.str m) j p3] [] p4) p5 :: rest) scope dV kV doc pm an cd ct cc), osl⟩) (hcd : PySem.W.codeIn K cd qual = true)
    (S : ScK (x0 :: names) (x0 :: names) scope) (T : SupK P K mg f cc C cd x0) (hp : (params.posonlyargs ++ params.args).head? = some ar) (ha0 : ar.arg = x0) (hl : scope.names.lookup x0 = some .local) (hg : scope.names.lookup ("super" : Str) = some .globalImplicit) (hfc : scope.names.lookup ("__class__" : Str) = some .free)
    (hev : ∀ (L : Addr) cd, eval (.Call (.Attribute (.Call (.Name "super" p0) [] [] p1) "__init__" p2) [.Constant (.str m) j p3] [] p4) (PySem.W.ksEnv qual scope L f cd cc) = (do
      let ov ← attributeBase (.Call (.Name "super" p0) [] [] p1) "__init__" (PySem.W.ksEnv qual scope L f cd cc) (eval (.Call (.Name "super" p0) [] [] p1) (PySem.W.ksEnv qual scope L f cd cc))
      standAt p2.atName
      let (g, first) ← holding [ov] (getMethod ov "__init__" pl)
      callWith p4 g first (backTo p4 (starEach [.Constant (.str m) j p3] (PySem.W.ksEnv qual scope L f cd cc))) []))
    (hsw : ∀ (L : Addr), swapsWith (.Call (.Attribute (.Call (.Name "super" p0) [] [] p1) "__init__" p2) [.Constant (.str m) j p3] [] p4) none p5.line (PySem.W.ksEnv qual scope L f cd cc) = pure false) (hin : ∀ (L : Addr), interactive (PySem.W.ksEnv qual scope L f cd cc) = false)
    (hno : ∀ n ∈ names, PySem.W.findIn K (.ref C) n = some none) (n1 : 1 ≤ names.length) (n2 : names.length ≤ 100)
    (hst : ∀ (A : Around) (outer : List Env) (s : Shared) (H : Hp) (E : XK), PSs (cxK CX P w K mg base (x0 :: names) qual scope f cd cc A outer s H E) rest (tStores K (names.zip (List.range' 1 names.length)))) :
    FnOk P w K mg base CX (k + 1) f (PySem.W.ksFn name qual params (.Expr (.Call (.Attribute (.Call (.Name "super" p0) [] [] p1) "__init__" p2) [.Constant (.str m) j p3] [] p4) p5 :: rest) scope dV kV doc pm an cd ct cc) (x0 :: names) (spI C names) := by
  refine fn_super (N := x0 :: names) lk hcd S T hp ha0 rfl hl hg hfc hev hsw hin (fun vs H Q E h => ?_) fun A outer s H vs Q E hr h => ?_
  · obtain ⟨a, ws, rfl, e, _⟩ := h
    rw [List.length_cons, List.length_cons, e]
  · obtain ⟨a, ws, rfl, e, ha, hq⟩ := h
    have st0 : L2.start (x0 :: names) (.ref a :: ws) = some (.ref a) :: ws.map some := by
      unfold L2.start
      rw [List.map_cons, List.length_cons, List.length_cons, e, Nat.sub_self, List.replicate_zero, List.append_nil]
    refine ⟨a, _, by rw [st0]; rfl, ha, hst A outer s H E, ?_⟩
    have en : names.length = ws.length := e.symm
    rw [← zip3_fst 1 en]
    have z := zip3_map 1 en
    have mm : ∀ q ∈ names.zip ((List.range' 1 names.length).zip ws), PySem.W.findIn K (.ref C) q.1 = some none ∧ (L2.start (x0 :: names) (.ref a :: ws))[q.2.1]? = some (some q.2.2) := fun q hq => by
      obtain ⟨m1, m2⟩ := zip3_mem (σ := L2.start (x0 :: names) (.ref a :: ws)) 1 q (fun j v ej => by
        rw [st0, Nat.add_comm, List.getElem?_cons_succ, List.getElem?_map, ej]
        rfl) hq
      exact ⟨hno _ m1, m2⟩
    cases hz : names.zip ((List.range' 1 names.length).zip ws) with
    | nil =>
      have := congrArg List.length hz
      rw [List.length_zip, List.length_zip, List.length_range', List.length_nil] at this
      omega
    | cons p l =>
      rw [hz] at mm z
      have hlen : l.length ≤ 800 := by
        have := congrArg List.length hz
        rw [List.length_zip, List.length_zip, List.length_range', List.length_cons] at this
        omega
      refine stores_new T.oex (by rw [st0]; rfl) p l H mm ha hlen fun dx e1 e2 => ?_
      rw [z]
      exact hq dx e1 e2
end
/-! ### raise C(e, ..) -/
structure ExcA (P : Program) (w : World) (K : PySem.W.Frag) (mg : Str → Option Value) (base : Heap) (k : Nat) (x : Str) (C : Addr) (names : List Str) : Prop where
  ex : ∃ fI fd ps, OexC K C ∧ PySem.W.findIn K (.ref C) "__init__" = some (some (.ref fI)) ∧ PySem.W.typeIn K (.ref fI) = some (.type "function") ∧ FnOk P w K mg base CX0 k fI fd ps (spI C names) ∧ Binds K fd ps [] ∧ mg x = some (.ref C)
def rRaiseA (C : Addr) (names : List Str) (fa : RA) : RS := fun D ρ μ => fa ρ μ fun ds μ1 => ds.length = names.length ∧ D.ex C (names.zip ds).reverse μ1
theorem repF_app {K : PySem.W.Frag} {S : Hp} : ∀ {a b : List (Str × V)} {c d : List (Str × D)}, RepF K S a c → RepF K S b d → RepF K S (a ++ b) (c ++ d)
  | _, _, _, _, .nil, r => r
  | _, _, _, _, .cons h t, r => .cons h (repF_app t r)
theorem repF_zip {K : PySem.W.Frag} {S : Hp} : ∀ {names : List Str} {ws : List V} {ds : List D}, Reps K S ws ds → RepF K S (names.zip ws).reverse (names.zip ds).reverse
  | [], _, _, _ => by simp; exact .nil
  | f :: fs, _, _, .nil => by simp; exact .nil
  | f :: fs, _, _, .cons h r => by
    rw [List.zip_cons_cons, List.zip_cons_cons, List.reverse_cons, List.reverse_cons]
    exact repF_app (repF_zip r) (.cons h .nil)
section
variable {X : Cx} {W : WX} {k : Nat} {x : Str} {C : Addr} {names : List Str} {e : Expr} {es : List Expr} {fa : RA} {p cpos pos : Pos}
theorem dsx_raiseA (G : ExcA X.prog X.w X.K X.mg X.base k x C names) (n1 : names ≠ []) (n2 : names.length ≤ 1000) (tk : Takes X W) (hr : Room (k + 1) X.A) (hg : Gl X x) (ha : DA X (e :: es) fa) (hdb : (x == ("__debug__" : Str)) = false := by decide) (hc : X.calm = true := by rfl)
    (he : starEach (e :: es) X.env = (false, eval e X.env) :: starEach es X.env := by rfl) (hpl : (backTo cpos (starEach es X.env)).any (·.1) = false := by rfl) : DSX X W (.Raise (some (.Call (.Name x p) (e :: es) [] cpos)) none pos) (rRaiseA C names fa) := by
  obtain ⟨fI, fd, ps, T, iC, tI, F1, hb, hm⟩ := G.ex
  refine ps_imp (ps_raise hc tk (pmk_oex T iC tI F1 hr hb .nil pass0 hg hm ha hdb he hpl)) fun D σ H ⟨S, μ, ρ, DD, k, e, h, l⟩ => ?_
  refine ⟨S, μ, ρ, _, k, e, h, fun S1 μ1 H1 vs ds k1 s1 r1 h1 => ?_⟩
  obtain ⟨hl, h1⟩ := h1
  have lv : vs.length = names.length := by rw [r1.length]; exact hl
  refine ⟨by omega, fun a na => ⟨a, vs, by rw [List.append_nil], lv, upd_same, fun dx e1 e2 => ⟨rfl, dx, _, by rw [upd_ne e2.symm]; exact upd_same, upd_same, ?_, ?_⟩⟩⟩
  · rw [upd_ne e2] at e1
    exact e1
  · have e1 : H1 dx = none := by rw [upd_ne e2] at e1; exact e1
    have eH : upd (del (upd (upd (upd H1 a (exo a C none)) a (exo a C (some dx))) dx (exd dx (names.zip vs).reverse)) a) dx (.xd (names.zip vs).reverse) = upd H1 dx (.xd (names.zip vs).reverse) := by
      funext b
      by_cases q : b = dx
      · rw [q, upd_same, upd_same]
      · rw [upd_ne q, upd_ne q]
        by_cases q2 : b = a
        · rw [q2, del_same, na]
        · rw [del_ne q2, upd_ne q, upd_ne q2, upd_ne q2]
    rw [eH]
    obtain ⟨k2, s2⟩ := k1.alloc (o := .xd (names.zip vs).reverse) e1
    refine l.ex _ _ _ _ _ C (names.zip ds).reverse k2 (s1.trans s2) ⟨rfl, .inr ⟨dx, _, rfl, upd_same, (repF_zip (names := names) r1).mono s2.same, fun z => ?_⟩⟩ h1 σ
    have := congrArg List.length z
    simp at this
    rcases this with h | h
    · exact n1 h
    · rw [h] at hl
      exact n1 (List.length_eq_zero_iff.mp hl.symm)
end
/-! ### a suite that reads attributes -/
/-- what is known of the error's attributes -/
def XF (K : PySem.W.Frag) (d : Option Addr) (fs : List (Str × D)) (S : Hp) : Prop := fs = [] ∨ ∃ dd vfs, d = some dd ∧ S dd = some (.xd vfs) ∧ RepF K S vfs fs
theorem XF.mono {K : PySem.W.Frag} {d : Option Addr} {fs : List (Str × D)} {S S' : Hp} (e : Same S S') (x : XF K d fs S) : XF K d fs S' := x.imp (fun z => z) fun ⟨dd, vfs, a, b, c⟩ => ⟨dd, vfs, a, e _ _ b, c.mono e⟩
def upSF (K : PySem.W.Frag) (d : Option Addr) (fs : List (Str × D)) (f : RS) : TS := fun D σ H => ∃ S μ ρ DD, XF K d fs S ∧ OK K S μ H ∧ RepE K S σ ρ ∧ f DD ρ μ ∧ Lk K S μ H D DD
abbrev DSF (X : Cx) (d : Option Addr) (fs : List (Str × D)) (s : Stmt) (f : RS) : Prop := PS X s (upSF X.K d fs f)
abbrev DSsF (X : Cx) (d : Option Addr) (fs : List (Str × D)) (s : List Stmt) (f : RS) : Prop := PSs X s (upSF X.K d fs f)
section
variable {X : Cx} {d : Option Addr} {fs : List (Str × D)} {a : Stmt} {as bs rest : List Stmt} {f g : RS} {c : Expr} {ft : RT} {pos : Pos}
theorem dsf_no (h : DS X a f) : DSF X d fs a f := ps_imp h fun D σ H ⟨S, μ, ρ, DD, _, k, e, h, l⟩ => ⟨S, μ, ρ, DD, k, e, h, l⟩
theorem dssf_nil : DSsF X d fs [] rNext := pss_imp pss_nil fun D σ H ⟨S, μ, ρ, DD, _, k, e, h, l⟩ => l.nx S μ H σ ρ k .refl e h
theorem dssf_cons (h1 : DSF X d fs a f) (h2 : DSsF X d fs rest g) : DSsF X d fs (a :: rest) (rSeq f g) := pss_imp (pss_cons h1 h2) fun D σ H ⟨S, μ, ρ, DD, x, k, e, h, l⟩ =>
  ⟨S, μ, ρ, _, x, k, e, h, ⟨fun S1 μ1 H1 σ1 ρ1 k1 s1 e1 q1 => ⟨S1, μ1, ρ1, DD, x.mono s1.same, k1, e1, q1, l.stp s1⟩, l.rt, l.bk, l.ct⟩⟩
theorem dssf_one (h1 : DSF X d fs a f) : DSsF X d fs [a] f := pss_one h1
end
theorem xf_i {K : PySem.W.Frag} {d : Option Addr} {fs : List (Str × D)} {S H : Hp} {μ : MH} {σ : L2.St} {ρ : EV} {i : Nat} {a C : Addr} {f : Str} {z : D} (x : XF K d fs S) (k : OK K S μ H) (e : RepE K S σ ρ) (hi : gt ρ i = some (.ref a)) (hl : fs.lookup f = some z) :
    ∃ v, Rep K S v z ∧ ∀ Q : VK, Q v H → tXf a (.ref C) d C f (tVar i) σ H Q := by
  rcases x with rfl | ⟨dd, vfs, rfl, h1, h2⟩
  · cases hl
  · obtain ⟨v, e1, e2⟩ := h2.lookup hl
    obtain ⟨w, g1, g2⟩ := e.get hi
    cases g2.toRef
    exact ⟨v, e2, fun Q q => ⟨.ref a, g1, rfl, rfl, dd, vfs, v, rfl, k.sub _ _ h1, e1, q⟩⟩
/-- return (x, e.f) -/
def rRetA1 (a : Addr) (fs : List (Str × D)) (i : Nat) (f : Str) (fn : RX) : RS := fun D ρ μ => fn ρ μ fun d μ1 => gt ρ i = some (.ref a) ∧ ∃ z, fs.lookup f = some z ∧ D.rt (.tup [d, z]) μ1
/-- return (x, (e.f, e.g)) -/
def rRetA2 (a : Addr) (fs : List (Str × D)) (i : Nat) (f g : Str) (fn : RX) : RS := fun D ρ μ => fn ρ μ fun d μ1 => gt ρ i = some (.ref a) ∧ ∃ z y, fs.lookup f = some z ∧ fs.lookup g = some y ∧ D.rt (.tup [d, .tup [z, y]]) μ1
/-- return (x, (e.f, e.g, e.h)) -/
def rRetA3 (a : Addr) (fs : List (Str × D)) (i : Nat) (f g h : Str) (fn : RX) : RS := fun D ρ μ => fn ρ μ fun d μ1 => gt ρ i = some (.ref a) ∧ ∃ z y x, fs.lookup f = some z ∧ fs.lookup g = some y ∧ fs.lookup h = some x ∧ D.rt (.tup [d, .tup [z, y, x]]) μ1
/-- return (x, e.f if t else y) -/
def rRetAI (a : Addr) (fs : List (Str × D)) (i : Nat) (f : Str) (ft : RT) (fn fy : RX) : RS := fun D ρ μ => fn ρ μ fun d μ1 => ft ρ μ1 fun b μ2 => if b = true then gt ρ i = some (.ref a) ∧ ∃ z, fs.lookup f = some z ∧ D.rt (.tup [d, z]) μ2 else fy ρ μ2 fun z μ3 => D.rt (.tup [d, z]) μ3
/-- what an error's class must have for its attributes to be read -/
structure XfA (K : PySem.W.Frag) (C : Addr) (f : Str) : Prop where
  c : XfC K C
  no : PySem.W.findIn K (.ref C) f = some none
section
variable {X : Cx} {a C : Addr} {oe : Obj} {d : Option Addr} {fs : List (Str × D)} {pn : List (Addr × Obj)} {en ex ex2 ex3 c y : Expr} {fn fy : RX} {ft : RT} {i : Nat} {f g h xe : Str} {tp tp2 : ExprContext → Pos} {pe pe2 pe3 p1 p2 p3 t1 t2 pos : Pos} {k1 k2 : Nat}
theorem two_fit : 2 ≤ sizeLine := by decide
theorem three_fit : 3 ≤ sizeLine := by decide
theorem dsf_A1 (T : XfA X.K C f) (hz : Zc (.ref C) d oe) (hf : ∃ vs, oe.data = .fields vs) (hn : DE (X.suite a ((a, oe) :: pn)) en fn) (hN : X.N[i]? = some xe := by rfl) (hv : Vis X.env.scope xe := by first | exact Or.inl rfl | exact Or.inr (Or.inl rfl))
    (hb : attributeBase (.Name xe pe) f X.env (eval (.Name xe pe) X.env) = eval (.Name xe pe) X.env := by rfl)
    (hs1 : starEach [en, .Attribute (.Name xe pe) f p1] X.env = (false, eval en X.env) :: starEach [.Attribute (.Name xe pe) f p1] X.env := by rfl) (hs2 : starEach [.Attribute (.Name xe pe) f p1] X.env = (false, eval (.Attribute (.Name xe pe) f p1) X.env) :: starEach [] X.env := by rfl)
    (hd1 : (xe == ("__debug__" : Str)) = false := by decide) (hd2 : (xe == ("__classdict__" : Str)) = false := by decide) :
    DSF (X.suite a ((a, oe) :: pn)) d fs (.Return (some (.Tuple [en, .Attribute (.Name xe pe) f p1] k1 t1)) pos) (rRetA1 a fs i f fn) :=
  ps_imp (ps_ret (pe_tup (pa_cons (X := X.suite a ((a, oe) :: pn)) hn (pa_cons (X := X.suite a ((a, oe) :: pn)) (pe_xf T.c T.no hz hf (pe_var (X := X.suite a ((a, oe) :: pn)) (i := i) hN hv hd1 hd2) hb) pa_nil hs2) hs1))) fun D σ H ⟨S, μ, ρ, DD, x, k, e, q, l⟩ => by
    refine ⟨S, μ, ρ, _, k, e, q, fun S1 μ1 H1 v1 d1 k1 s1 r1 q1 => ?_⟩
    obtain ⟨hi, z, hl, q1⟩ := q1
    obtain ⟨v, rv, tx⟩ := xf_i (C := C) (x.mono s1.same) k1 (e.mono s1.same) hi hl
    refine tx _ ⟨two_fit, fun p hp => ?_⟩
    obtain ⟨k2, s2⟩ := k1.alloc (o := .tup [v1, v]) hp
    exact l.rt _ _ _ _ _ k2 (s1.trans s2) (.tup (.of upd_same) (.cons (r1.mono s2.same) (.cons (rv.mono s2.same) .nil))) q1
theorem dsf_A2 (T : XfA X.K C f) (T2 : XfA X.K C g) (hz : Zc (.ref C) d oe) (hf : ∃ vs, oe.data = .fields vs) (hn : DE (X.suite a ((a, oe) :: pn)) en fn) (hN : X.N[i]? = some xe := by rfl) (hv : Vis X.env.scope xe := by first | exact Or.inl rfl | exact Or.inr (Or.inl rfl))
    (hb : attributeBase (.Name xe pe) f X.env (eval (.Name xe pe) X.env) = eval (.Name xe pe) X.env := by rfl) (hb2 : attributeBase (.Name xe pe2) g X.env (eval (.Name xe pe2) X.env) = eval (.Name xe pe2) X.env := by rfl)
    (hs1 : starEach [en, .Tuple [.Attribute (.Name xe pe) f p1, .Attribute (.Name xe pe2) g p2] k2 t2] X.env = (false, eval en X.env) :: starEach [.Tuple [.Attribute (.Name xe pe) f p1, .Attribute (.Name xe pe2) g p2] k2 t2] X.env := by rfl)
    (hs2 : starEach [.Tuple [.Attribute (.Name xe pe) f p1, .Attribute (.Name xe pe2) g p2] k2 t2] X.env = (false, eval (.Tuple [.Attribute (.Name xe pe) f p1, .Attribute (.Name xe pe2) g p2] k2 t2) X.env) :: starEach [] X.env := by rfl)
    (hs3 : starEach [.Attribute (.Name xe pe) f p1, .Attribute (.Name xe pe2) g p2] X.env = (false, eval (.Attribute (.Name xe pe) f p1) X.env) :: starEach [.Attribute (.Name xe pe2) g p2] X.env := by rfl) (hs4 : starEach [.Attribute (.Name xe pe2) g p2] X.env = (false, eval (.Attribute (.Name xe pe2) g p2) X.env) :: starEach [] X.env := by rfl)
    (hd1 : (xe == ("__debug__" : Str)) = false := by decide) (hd2 : (xe == ("__classdict__" : Str)) = false := by decide) :
    DSF (X.suite a ((a, oe) :: pn)) d fs (.Return (some (.Tuple [en, .Tuple [.Attribute (.Name xe pe) f p1, .Attribute (.Name xe pe2) g p2] k2 t2] k1 t1)) pos) (rRetA2 a fs i f g fn) :=
  ps_imp (ps_ret (pe_tup (pa_cons (X := X.suite a ((a, oe) :: pn)) hn (pa_cons (X := X.suite a ((a, oe) :: pn)) (pe_tup (pa_cons (X := X.suite a ((a, oe) :: pn)) (pe_xf T.c T.no hz hf (pe_var (X := X.suite a ((a, oe) :: pn)) (i := i) hN hv hd1 hd2) hb) (pa_cons (X := X.suite a ((a, oe) :: pn)) (pe_xf T2.c T2.no hz hf (pe_var (X := X.suite a ((a, oe) :: pn)) (i := i) hN hv hd1 hd2) hb2) pa_nil hs4) hs3)) pa_nil hs2) hs1))) fun D σ H ⟨S, μ, ρ, DD, x, k, e, q, l⟩ => by
    refine ⟨S, μ, ρ, _, k, e, q, fun S1 μ1 H1 v1 d1 k1 s1 r1 q1 => ?_⟩
    obtain ⟨hi, z, y, hl, hl2, q1⟩ := q1
    obtain ⟨v, rv, tx⟩ := xf_i (C := C) (x.mono s1.same) k1 (e.mono s1.same) hi hl
    obtain ⟨v2, rv2, tx2⟩ := xf_i (C := C) (x.mono s1.same) k1 (e.mono s1.same) hi hl2
    dsimp only [tCons, tTup, tNil]
    refine tx _ ?_
    refine tx2 _ ?_
    refine ⟨two_fit, fun p hp => ⟨two_fit, fun p2 hp2 => ?_⟩⟩
    obtain ⟨k2, s2⟩ := k1.alloc (o := .tup [v, v2]) hp
    obtain ⟨k3, s3⟩ := k2.alloc (o := .tup [v1, .ref p]) hp2
    have s23 := s2.same.trans s3.same
    exact l.rt _ _ _ _ _ k3 ((s1.trans s2).trans s3) (.tup (.of upd_same) (.cons (r1.mono s23) (.cons (.tup (.of (s3.same _ _ upd_same)) (.cons (rv.mono s23) (.cons (rv2.mono s23) .nil))) .nil))) q1
theorem dsf_A3 (T : XfA X.K C f) (T2 : XfA X.K C g) (T3 : XfA X.K C h) (hz : Zc (.ref C) d oe) (hf : ∃ vs, oe.data = .fields vs) (hn : DE (X.suite a ((a, oe) :: pn)) en fn) (hN : X.N[i]? = some xe := by rfl) (hv : Vis X.env.scope xe := by first | exact Or.inl rfl | exact Or.inr (Or.inl rfl))
    (hb : attributeBase (.Name xe pe) f X.env (eval (.Name xe pe) X.env) = eval (.Name xe pe) X.env := by rfl) (hb2 : attributeBase (.Name xe pe2) g X.env (eval (.Name xe pe2) X.env) = eval (.Name xe pe2) X.env := by rfl) (hb3 : attributeBase (.Name xe pe3) h X.env (eval (.Name xe pe3) X.env) = eval (.Name xe pe3) X.env := by rfl)
    (hs1 : starEach [en, .Tuple [.Attribute (.Name xe pe) f p1, .Attribute (.Name xe pe2) g p2, .Attribute (.Name xe pe3) h p3] k2 t2] X.env = (false, eval en X.env) :: starEach [.Tuple [.Attribute (.Name xe pe) f p1, .Attribute (.Name xe pe2) g p2, .Attribute (.Name xe pe3) h p3] k2 t2] X.env := by rfl)
    (hs2 : starEach [.Tuple [.Attribute (.Name xe pe) f p1, .Attribute (.Name xe pe2) g p2, .Attribute (.Name xe pe3) h p3] k2 t2] X.env = (false, eval (.Tuple [.Attribute (.Name xe pe) f p1, .Attribute (.Name xe pe2) g p2, .Attribute (.Name xe pe3) h p3] k2 t2) X.env) :: starEach [] X.env := by rfl)
    (hs3 : starEach [.Attribute (.Name xe pe) f p1, .Attribute (.Name xe pe2) g p2, .Attribute (.Name xe pe3) h p3] X.env = (false, eval (.Attribute (.Name xe pe) f p1) X.env) :: starEach [.Attribute (.Name xe pe2) g p2, .Attribute (.Name xe pe3) h p3] X.env := by rfl)
    (hs4 : starEach [.Attribute (.Name xe pe2) g p2, .Attribute (.Name xe pe3) h p3] X.env = (false, eval (.Attribute (.Name xe pe2) g p2) X.env) :: starEach [.Attribute (.Name xe pe3) h p3] X.env := by rfl) (hs5 : starEach [.Attribute (.Name xe pe3) h p3] X.env = (false, eval (.Attribute (.Name xe pe3) h p3) X.env) :: starEach [] X.env := by rfl)
    (hd1 : (xe == ("__debug__" : Str)) = false := by decide) (hd2 : (xe == ("__classdict__" : Str)) = false := by decide) :
    DSF (X.suite a ((a, oe) :: pn)) d fs (.Return (some (.Tuple [en, .Tuple [.Attribute (.Name xe pe) f p1, .Attribute (.Name xe pe2) g p2, .Attribute (.Name xe pe3) h p3] k2 t2] k1 t1)) pos) (rRetA3 a fs i f g h fn) :=
  ps_imp (ps_ret (pe_tup (pa_cons (X := X.suite a ((a, oe) :: pn)) hn (pa_cons (X := X.suite a ((a, oe) :: pn)) (pe_tup (pa_cons (X := X.suite a ((a, oe) :: pn)) (pe_xf T.c T.no hz hf (pe_var (X := X.suite a ((a, oe) :: pn)) (i := i) hN hv hd1 hd2) hb) (pa_cons (X := X.suite a ((a, oe) :: pn)) (pe_xf T2.c T2.no hz hf (pe_var (X := X.suite a ((a, oe) :: pn)) (i := i) hN hv hd1 hd2) hb2) (pa_cons (X := X.suite a ((a, oe) :: pn)) (pe_xf T3.c T3.no hz hf (pe_var (X := X.suite a ((a, oe) :: pn)) (i := i) hN hv hd1 hd2) hb3) pa_nil hs5) hs4) hs3)) pa_nil hs2) hs1))) fun D σ H ⟨S, μ, ρ, DD, x, k, e, q, l⟩ => by
    refine ⟨S, μ, ρ, _, k, e, q, fun S1 μ1 H1 v1 d1 k1 s1 r1 q1 => ?_⟩
    obtain ⟨hi, z, y, w, hl, hl2, hl3, q1⟩ := q1
    obtain ⟨v, rv, tx⟩ := xf_i (C := C) (x.mono s1.same) k1 (e.mono s1.same) hi hl
    obtain ⟨v2, rv2, tx2⟩ := xf_i (C := C) (x.mono s1.same) k1 (e.mono s1.same) hi hl2
    obtain ⟨v3, rv3, tx3⟩ := xf_i (C := C) (x.mono s1.same) k1 (e.mono s1.same) hi hl3
    dsimp only [tCons, tTup, tNil]
    refine tx _ ?_
    refine tx2 _ ?_
    refine tx3 _ ?_
    refine ⟨three_fit, fun p hp => ⟨two_fit, fun p2 hp2 => ?_⟩⟩
    obtain ⟨k2, s2⟩ := k1.alloc (o := .tup [v, v2, v3]) hp
    obtain ⟨k3, s3⟩ := k2.alloc (o := .tup [v1, .ref p]) hp2
    have s23 := s2.same.trans s3.same
    exact l.rt _ _ _ _ _ k3 ((s1.trans s2).trans s3) (.tup (.of upd_same) (.cons (r1.mono s23) (.cons (.tup (.of (s3.same _ _ upd_same)) (.cons (rv.mono s23) (.cons (rv2.mono s23) (.cons (rv3.mono s23) .nil)))) .nil))) q1
theorem dsf_AI (T : XfA X.K C f) (hz : Zc (.ref C) d oe) (hf : ∃ vs, oe.data = .fields vs) (hn : DE (X.suite a ((a, oe) :: pn)) en fn) (hc : DT (X.suite a ((a, oe) :: pn)) c ft) (hy : DE (X.suite a ((a, oe) :: pn)) y fy) (hN : X.N[i]? = some xe := by rfl) (hv : Vis X.env.scope xe := by first | exact Or.inl rfl | exact Or.inr (Or.inl rfl))
    (hb : attributeBase (.Name xe pe) f X.env (eval (.Name xe pe) X.env) = eval (.Name xe pe) X.env := by rfl)
    (hs1 : starEach [en, .IfExp c (.Attribute (.Name xe pe) f p1) y p2] X.env = (false, eval en X.env) :: starEach [.IfExp c (.Attribute (.Name xe pe) f p1) y p2] X.env := by rfl)
    (hs2 : starEach [.IfExp c (.Attribute (.Name xe pe) f p1) y p2] X.env = (false, eval (.IfExp c (.Attribute (.Name xe pe) f p1) y p2) X.env) :: starEach [] X.env := by rfl)
    (hd1 : (xe == ("__debug__" : Str)) = false := by decide) (hd2 : (xe == ("__classdict__" : Str)) = false := by decide) :
    DSF (X.suite a ((a, oe) :: pn)) d fs (.Return (some (.Tuple [en, .IfExp c (.Attribute (.Name xe pe) f p1) y p2] k1 t1)) pos) (rRetAI a fs i f ft fn fy) :=
  ps_imp (ps_ret (pe_tup (pa_cons (X := X.suite a ((a, oe) :: pn)) hn (pa_cons (X := X.suite a ((a, oe) :: pn)) (pe_ifExp (X := X.suite a ((a, oe) :: pn)) hc (pe_xf T.c T.no hz hf (pe_var (X := X.suite a ((a, oe) :: pn)) (i := i) hN hv hd1 hd2) hb) hy) pa_nil hs2) hs1))) fun D σ H ⟨S, μ, ρ, DD, x, k, e, q, l⟩ => by
    refine ⟨S, μ, ρ, _, k, e, q, fun S1 μ1 H1 v1 d1 k1 s1 r1 q1 => ?_⟩
    refine ⟨S1, μ1, ρ, _, k1, e.mono s1.same, q1, fun S2 μ2 H2 b k2 s2 q2 => ?_⟩
    have fin : ∀ {S3 H3 : Hp} {μ3 : MH} {v : V} {z : L3.D}, OK X.K S3 μ3 H3 → Stp S2 μ2 H2 S3 μ3 H3 → Rep X.K S3 v z → DD.rt (.tup [d1, z]) μ3 → (2 ≤ sizeLine ∧ ∀ p, H3 p = none → D.rt (.ref p) (upd H3 p (.tup [v1, v]))) := fun {S3 H3 μ3 v z} k3 s3 rv q3 => ⟨two_fit, fun p hp => by
      obtain ⟨k4, s4⟩ := k3.alloc (o := .tup [v1, v]) hp
      exact l.rt _ _ _ _ _ k4 (((s1.trans s2).trans s3).trans s4) (.tup (.of upd_same) (.cons ((r1.mono (s2.same.trans s3.same)).mono s4.same) (.cons (rv.mono s4.same) .nil))) q3⟩
    cases b with
    | true =>
      rw [if_pos rfl] at q2
      obtain ⟨hi, z, hl, q2⟩ := q2
      obtain ⟨v, rv, tx⟩ := xf_i (C := C) (x.mono (s1.same.trans s2.same)) k2 (e.mono (s1.same.trans s2.same)) hi hl
      show tXf a (.ref C) d C f (tVar i) σ H2 _
      refine tx _ ?_
      exact fin k2 .refl rv q2
    | false =>
      rw [if_neg Bool.false_ne_true] at q2
      show up X.K fy σ H2 _
      exact ⟨S2, μ2, ρ, _, k2, e.mono (s1.same.trans s2.same), q2, fun S3 μ3 H3 v z k3 s3 rv q3 => fin k3 s3 rv q3⟩
end
/-- the suite of a def that tells errors, the error's attributes known -/
theorem suOk_ofF {Z : Cx} {i n : Nat} {suite : List Stmt} {C : Addr} {fs : List (Str × D)} {v : D} {rd : Addr → RS} (h : ∀ (a : Addr) (oe : Obj) (d : Option Addr) (pn : List (Addr × Obj)), Zc (.ref C) d oe → (∃ vs, oe.data = .fields vs) → (d = none ↔ fs = []) → DSsF (Z.suite a ((a, oe) :: pn)) d fs suite (rd a))
    (hv : ∀ (a : Addr) (μ : MH) (DD : Ed), DD.rt v μ → rd a DD (st (List.replicate n none) i (.ref a)) μ) : SuOk Z i n suite C fs v := fun a oe d pn hz hf hd =>
  pss_imp (h a oe d pn hz hf hd) fun D σ H ⟨S, μ, DD, k, e, x, q, l⟩ => ⟨S, μ, _, DD, x.2.imp (fun z => z.2) fun ⟨dd, vfs, a1, a2, a3, _⟩ => ⟨dd, vfs, a1, a2, a3⟩, k, e, hv a μ DD q, l⟩
end L3

/-! ## L3x -/
set_option Elab.async false
set_option linter.all false
set_option maxRecDepth 100000
set_option maxHeartbeats 4000000
/-! isinstance of an error that has attributes, and the rules of a suite that asks it. -/
namespace PySem.W
open PySem PySem.Spec PySem.Calls PyProof.Rows
section
variable {prog : Program} {w : World} {A : Around} {E : Value → Shared → Prop} {s : Shared} {K : Frag} {x D : Addr} {ox : Obj} {od : Option Obj}
theorem findObj_dataD {C : Addr} {name : Str} {a g : Value} (hc : (clsIn K C).isSome = true) (ha : findIn K (.ref C) name = some (some a)) (hg : specialIn K a "__get__" = some (some g)) (ht : takesIn K a = some true) : findObj K C od name = some (.bind g a) := by
  obtain ⟨cd, hc⟩ := Option.isSome_iff_exists.mp hc
  unfold findObj
  rw [hc, Option.bind_some, ha, Option.bind_some]
  simp [hg, ht]
theorem kin_classD {Q : Option Value → Shared → Prop} (C : L2.ExcC K D) (X : K.In s.heap) (I : InstAt s.heap x ox D od) (h : Q (some (.ref D)) { s with toks := s.toks + 1 }) : wpAny (model prog w) A (getAttr? (.ref x) "__class__") Q E s := by
  obtain ⟨hga, hgt, hsub, hdct, ha, hn, htk, hm⟩ := C
  have hf : findObj K D od "__class__" = some (.bind (.builtin "getset_descriptor.__get__") (.builtin "object.__class__")) := findObj_dataD (by obtain ⟨cd, hc, _⟩ := any_some hdct; rw [hc]; rfl) ha hn htk
  obtain ⟨hp, gg, dd, tk, os⟩ := s
  have T0 := I.type (M := model prog w)
  have T1 := looks_findIn (M := model prog w) X hga
  have T2 := looks_findIn (M := model prog w) X hgt
  have T3 := looks_find (M := model prog w) X I hf
  have sub : Looks (model prog w) hp (isInstance (.ref x) (.type "BaseException")) true := T0.andThen (looks_subIn X hsub)
  have y0 : (false && onTheHeap (Value.builtin "BaseException.__getattribute__")) = false := rfl
  have y2 : (Value.builtin "BaseException.__getattribute__" == Value.builtin "object.__getattribute__") = false := by decide +kernel
  have y1 : (onTheHeap (Value.ref D) && Value.builtin "BaseException.__getattribute__" == Value.builtin "object.__getattribute__") = false := by rw [y2]; rfl
  unfold getAttr? getAttrBy? getAttrBy
  refine wpAny_bind (wpAny_mkText (wpAny_bind (wpAny_attempt (wpAny_holding (wpAny_bind (T0.at (wpAny_bind (T1.at ?_))))))))
  show wpAny _ _ (if (onTheHeap (Value.ref D) && Value.builtin "BaseException.__getattribute__" == Value.builtin "object.__getattribute__") = true then _ else _) _ _ _
  rw [y1, if_neg Bool.false_ne_true]
  unfold getAttrByItsOwn hookBefore
  refine wpAny_bind ?_
  rw [if_pos (show onTheHeap (Value.ref D) = true from rfl)]
  refine T2.at ?_
  refine wpAny_bind (wpAny_attempt (wpAny_holding ?_))
  unfold callGetattribute
  rw [y0, if_neg Bool.false_ne_true]
  unfold boundAndCalled
  rw [PySem.F.excAttr_ValueError.ga.bind (.ref x)]
  refine wpAny_bind (wpAny_pure ?_)
  show wpAny _ _ (call (.builtin "BaseException.__getattribute__") [.ref x, .str "__class__" tk]) _ _ _
  refine wpAny_call (codeAny_call_builtin PySem.F.excAttr_ValueError.ga.plain PySem.F.entry_bexc_ga ?_)
  refine @check_slot (model prog w) _ _ ⟨hp, gg, dd, tk + 1, os⟩ "BaseException.__getattribute__" "BaseException" "__getattribute__" (.ref x) [.str "__class__" tk] [] _ (by decide +kernel) (by decide +kernel) sub (PySem.F.args_bexc_ga (.ref x) (.str "__class__" tk)) ?_
  unfold Builtin.«object.__getattribute__»
  refine wpAny_bind (wpAny_of_eq (a := ((Value.ref x : Value), [Value.str "__class__" tk])) (by first | rfl | (simp only [slotArgs]; rfl)) ?_)
  refine wpAny_bind (wpAny_pure (wpAny_bind (T0.at (wpAny_bind (T3.at ?_)))))
  show wpAny _ _ (holding [Value.builtin "object.__class__"] (call (.builtin "getset_descriptor.__get__") [.builtin "object.__class__", .ref x, .ref D]) >>= ret) _ _ _
  refine wpAny_bind (wpAny_holding (wpAny_call (class_get (s := ⟨hp, gg, dd, tk + 1, os⟩) (ox := ox) (od := od) X I hm ?_)))
  refine wpAny_pure ?_
  show wpAny _ _ (handedOut (.ref D)) _ _ _
  rw [handedOut_of (v := .ref D) rfl]
  first
    | exact wpAny_pure (wpAny_pure h)
    | exact wpAny_pure h
    | exact wpAny_pure (wpAny_bind (wpAny_pure (wpAny_pure h)))
theorem kitx_excD (C : L2.ExcC K D) : KitX K (.ref x) (.ref D) (fun h => ∃ od, InstAt h x ox D od) where
  ty := fun _ _ _ ⟨_, I⟩ => I.type
  it := fun _ _ X _ => by
    obtain ⟨cdD, hcD, _⟩ := any_some C.hd
    unfold clsIn at hcD
    split at hcD
    · rename_i c' d' cd' sl' ho
      intro A' Q' E' s' k q
      unfold isType loadHead
      exact wpAny_bind (wpAny_loadPart (k _ _ (X _ _ ho)) (wpAny_pure q))
    · cases hcD
  ne := fun h tp dd its n sl X htp => by
    obtain ⟨cdD, hcD, _⟩ := any_some C.hd
    refine Bool.eq_false_iff.mpr fun q => ?_
    have e : D = tp := Value.ref.inj (beq_iff_eq.mp q)
    subst e
    unfold clsIn at hcD
    split at hcD
    · rename_i c' d' cd' sl' ho
      have z := (X _ _ ho).symm.trans htp
      cases z
    · cases hcD
  ca := fun X ⟨_, I⟩ k => kin_classD C X I k
end
end PySem.W
namespace L3
open PySem PySem.Spec PyProof.Rows L2
/-- isinstance(e, c), the error's attributes known to be there -/
def rIsEd (K : PySem.W.Frag) (Dc a : Addr) (d : Option Addr) : List V → Hp → VK → Prop := fun xs H Q => ∃ (c : V) (cv : Value) (b : Bool), xs = [.ref a, c] ∧ (∀ u, L2.RelV c u → u = cv) ∧ PySem.W.kitOne K (.ref Dc) cv = some b ∧ (∀ dd, d = some dd → ∃ fs, H dd = some (.xd fs)) ∧ Q (.bl b) H
theorem call_isEd {X : Cx} {a Dc : Addr} {oe : Obj} {d : Option Addr} {pn : List (Addr × Obj)} (C : ExcC X.K Dc) (hz : Zc (.ref Dc) d oe) (hf : ∃ vs, oe.data = .fields vs) : CallR (X.suite a ((a, oe) :: pn)) (.builtin "isinstance") (rIsEd X.K Dc a d) := by
  intro pins s σ H xs us Q I r h
  obtain ⟨c, cv, b, rfl, hcv, e, hd, q⟩ := h
  cases r with
  | cons rx rr =>
    cases rr with
    | cons rt rr =>
      cases rr
      cases rx
      have ec := hcv _ rt
      subst ec
      obtain ⟨hget, _⟩ := I.pin (a, oe) (List.mem_append.mpr (.inl List.mem_cons_self))
      obtain ⟨vs, hv⟩ := hf
      have J : ∃ od, PySem.W.InstAt s.heap a oe Dc od := by
        obtain ⟨oc, ods, oda, osl⟩ := oe
        obtain ⟨h1, h2⟩ := hz
        dsimp only at h1 h2 hv
        subst h1 h2 hv
        cases ods with
        | none => exact ⟨none, hget, rfl, rfl, trivial⟩
        | some dd =>
          obtain ⟨fs, hx⟩ := hd dd rfl
          have y : ObjOk X.prog X.w H s.heap dd (.xd fs) := I.hok dd _ hx
          obtain ⟨mA, ⟨o, _, _, ho, _⟩, _⟩ := y
          exact ⟨some o, hget, rfl, rfl, ho⟩
      exact PySem.W.kia_one (PySem.W.kitx_excD C) I.kIn J e (fun z => nomatch z) fun tk => ⟨.bl b, H, I.kept (t' := tk) fun _ _ z => z, rfl, q⟩
/-! ### expressions that lean on the attributes -/
def upF (K : PySem.W.Frag) (d : Option Addr) (fs : List (Str × D)) (f : RX) : TE := fun σ H Q => ∃ S μ ρ R, XF K d fs S ∧ OK K S μ H ∧ RepE K S σ ρ ∧ f ρ μ R ∧ Pst K S μ H R Q
def upTF (K : PySem.W.Frag) (d : Option Addr) (fs : List (Str × D)) (f : RT) : TT := fun σ H Q => ∃ S μ ρ R, XF K d fs S ∧ OK K S μ H ∧ RepE K S σ ρ ∧ f ρ μ R ∧ ∀ S' μ' H' b, OK K S' μ' H' → Stp S μ H S' μ' H' → R b μ' → Q b H'
def upAF (K : PySem.W.Frag) (d : Option Addr) (fs : List (Str × D)) (f : RA) : TA := fun σ H Q => ∃ S μ ρ R, XF K d fs S ∧ OK K S μ H ∧ RepE K S σ ρ ∧ f ρ μ R ∧ ∀ S' μ' H' vs ds, OK K S' μ' H' → Stp S μ H S' μ' H' → Reps K S' vs ds → R ds μ' → Q vs H'
abbrev DEF (X : Cx) (d : Option Addr) (fs : List (Str × D)) (e : Expr) (f : RX) : Prop := PE X e (upF X.K d fs f)
abbrev DTF (X : Cx) (d : Option Addr) (fs : List (Str × D)) (e : Expr) (f : RT) : Prop := PT X e (upTF X.K d fs f)
abbrev DWF (X : Cx) (d : Option Addr) (fs : List (Str × D)) (e : Expr) (f : RT) : Prop := PW X e (upTF X.K d fs f)
abbrev DAF (X : Cx) (d : Option Addr) (fs : List (Str × D)) (es : List Expr) (f : RA) : Prop := PA X es (upAF X.K d fs f)
section
variable {X : Cx} {d : Option Addr} {fs : List (Str × D)} {e a b c : Expr} {es rest : List Expr} {fe fa fb : RX} {fr : RA} {ta tb ft : RT} {st0 : Stmt} {as bs : List Stmt} {f g : RS} {pos p p2 : Pos}
theorem def_no (h : DE X e fe) : DEF X d fs e fe := pe_imp h fun σ H Q ⟨S, μ, ρ, R, _, k, e, h, post⟩ => ⟨S, μ, ρ, R, k, e, h, post⟩
theorem dtf_no (h : DT X e ft) : DTF X d fs e ft := pt_imp h fun σ H Q ⟨S, μ, ρ, R, _, k, e, h, post⟩ => ⟨S, μ, ρ, R, k, e, h, post⟩
theorem daf_nil : DAF X d fs [] rNil := pa_imp pa_nil fun σ H Q ⟨S, μ, ρ, R, _, k, e, h, post⟩ => post S μ H [] [] k .refl .nil h
theorem daf_cons (ha : DEF X d fs e fe) (hr : DAF X d fs es fr) (hs : starEach (e :: es) X.env = (false, eval e X.env) :: starEach es X.env := by rfl) : DAF X d fs (e :: es) (rCons fe fr) := pa_imp (pa_cons ha hr hs) fun σ H Q ⟨S, μ, ρ, R, x, k, e, h, post⟩ => by
  refine ⟨S, μ, ρ, _, x, k, e, h, fun S1 μ1 H1 v1 d1 k1 s1 r1 h1 => ?_⟩
  exact ⟨S1, μ1, ρ, _, x.mono s1.same, k1, e.mono s1.same, h1, fun S2 μ2 H2 vs ds k2 s2 r2 h2 => post S2 μ2 H2 _ _ k2 (s1.trans s2) (.cons (r1.mono s2.same) r2) h2⟩
theorem def_lst (h : DAF X d fs es fr) : DEF X d fs (.List es pos) (rLst fr) := pe_imp (pe_lst h) fun σ H Q ⟨S, μ, ρ, R, x, k, e, h, post⟩ => by
  refine ⟨S, μ, ρ, _, x, k, e, h, fun S1 μ1 H1 vs ds k1 s1 r1 h1 => ⟨by rw [r1.length]; exact h1.1, fun p hp => ?_⟩⟩
  obtain ⟨k2, s2⟩ := k1.alloc (o := .lst vs) hp
  exact post _ _ _ _ _ k2 (s1.trans s2) (.lst upd_same (r1.mono s2.same)) h1.2
theorem def_op {op : Operator} {r : R2} {g : G2} (ho : OpR X (binaryOp op) r) (s : Snd2 X.K r g) (ha : DEF X d fs a fa) (hb : DEF X d fs b fb) : DEF X d fs (.BinOp a op b pos) (rOp g fa fb) := pe_imp (pe_op ho ha hb) fun σ H Q ⟨S, μ, ρ, R, x, k, e, h, post⟩ => by
  refine ⟨S, μ, ρ, _, x, k, e, h, fun S1 μ1 H1 v1 d1 k1 s1 r1 h1 => ?_⟩
  refine ⟨S1, μ1, ρ, _, x.mono s1.same, k1, e.mono s1.same, h1, fun S2 μ2 H2 v2 d2 k2 s2 r2 h2 => ?_⟩
  exact s S2 μ2 H2 v1 v2 d1 d2 R Q k2 (r1.mono s2.same) r2 h2 fun S3 μ3 H3 v d k3 s3 r3 h3 => post S3 μ3 H3 v d k3 ((s1.trans s2).trans s3) r3 h3
theorem def_add (ha : DEF X d fs a fa) (hb : DEF X d fs b fb) : DEF X d fs (.BinOp a .Add b pos) (rOp gAdd fa fb) := def_op (op_add.or (op_add_str.or (op_catA.or op_cat))) snd_add ha hb
theorem dtf_val (h : DEF X d fs a fa) (he : ∀ whole, isTrue a X.env whole = (do let v ← whole; standAt a.pos; holding [v] (truthy v)) := by intro _; rfl) : DTF X d fs a (rB fa) := pt_imp (pt_val h he) fun σ H Q ⟨S, μ, ρ, R, x, k, e, h, post⟩ => by
  refine ⟨S, μ, ρ, _, x, k, e, h, fun S1 μ1 H1 v1 d1 k1 s1 r1 h1 => ?_⟩
  cases d1 <;> first | exact False.elim h1 | skip
  exact ⟨_, r1.toBl, post S1 μ1 H1 _ k1 s1 h1⟩
theorem dtf_not (ha : DTF X d fs a ta) : DTF X d fs (.UnaryOp .Not a pos) (rNot ta) := pt_imp (pt_not ha) fun σ H Q ⟨S, μ, ρ, R, x, k, e, h, post⟩ =>
  ⟨S, μ, ρ, _, x, k, e, h, fun S1 μ1 H1 b1 k1 s1 h1 => post S1 μ1 H1 _ k1 s1 h1⟩
theorem dwf_or1 (ha : DTF X d fs a ta) : DWF X d fs (.BoolOp .Or [a] pos) ta := pw_or1 ha
theorem dwf_or (ha : DTF X d fs a ta) (hb : DWF X d fs (.BoolOp .Or (b :: rest) pos) tb) : DWF X d fs (.BoolOp .Or (a :: b :: rest) pos) (rOr ta tb) := pw_imp (pw_or ha hb) fun σ H Q ⟨S, μ, ρ, R, x, k, e, h, post⟩ => by
  refine ⟨S, μ, ρ, _, x, k, e, h, fun S1 μ1 H1 b1 k1 s1 h1 => ?_⟩
  cases b1 with
  | true => rw [if_pos rfl] at h1 ⊢; exact post S1 μ1 H1 _ k1 s1 h1
  | false => rw [if_neg Bool.false_ne_true] at h1 ⊢; exact ⟨S1, μ1, ρ, _, x.mono s1.same, k1, e.mono s1.same, h1, fun S2 μ2 H2 b2 k2 s2 h2 => post S2 μ2 H2 b2 k2 (s1.trans s2) h2⟩
theorem dtf_w (h : DWF X d fs a ta) : DTF X d fs a ta := PW.pt h
theorem dsf_ifF (hc : DTF X d fs c ft) (ha : DSsF X d fs as f) (hb : DSsF X d fs bs g) : DSF X d fs (.If c as bs pos) (rIf ft f g) := ps_imp (ps_if hc ha hb) fun D σ H ⟨S, μ, ρ, DD, x, k, e, h, l⟩ => by
  refine ⟨S, μ, ρ, _, x, k, e, h, fun S1 μ1 H1 b1 k1 s1 h1 => ?_⟩
  cases b1 with
  | true => rw [if_pos rfl] at h1 ⊢; exact ⟨S1, μ1, ρ, DD, x.mono s1.same, k1, e.mono s1.same, h1, l.stp s1⟩
  | false => rw [if_neg Bool.false_ne_true] at h1 ⊢; exact ⟨S1, μ1, ρ, DD, x.mono s1.same, k1, e.mono s1.same, h1, l.stp s1⟩
theorem dsf_set {i : Nat} {x : Str} {pos' : Pos} (hN : X.N.Nodup) (he : DEF X d fs e fe) (hi : X.N[i]? = some x := by rfl) (hx : Loc X.env.scope x := by first | exact Or.inl rfl | exact Or.inr rfl) (hs : swapsWith e (some (.Name x pos')) pos.line X.env = pure false := by rfl)
    (hf : X.fn x = true ∨ X.env.scope.names.lookup x = some .local := by first | exact .inl rfl | exact .inr rfl) : DSF X d fs (.Assign [.Name x pos'] e pos) (rAsg fe (rGN i)) := ps_imp (ps_set hN hi hx he hs hf) fun D σ H ⟨S, μ, ρ, DD, x, k, e, h, l⟩ =>
  ⟨S, μ, ρ, _, x, k, e, h, fun S1 μ1 H1 v d k1 s1 r1 q1 => l.nx S1 μ1 H1 _ _ k1 s1 ((e.mono s1.same).set r1 i) q1⟩
end
section
variable {X : Cx} {a Dc c : Addr} {oe : Obj} {d : Option Addr} {fs : List (Str × D)} {pn : List (Addr × Obj)} {x : Str} {e : Expr} {fe : RX} {b : Bool} {p p2 pos : Pos}
theorem XF.dict {K : PySem.W.Frag} {S H : Hp} {μ : MH} (hd : d = none ↔ fs = []) (x : XF K d fs S) (k : OK K S μ H) : ∀ dd, d = some dd → ∃ fs, H dd = some (.xd fs) := fun dd e => by
  rcases x with x | ⟨dd', vfs, e2, h1, _⟩
  · rw [hd.mpr x] at e; cases e
  · rw [e2] at e
    cases e
    exact ⟨vfs, k.sub _ _ h1⟩
theorem def_isE (hd2 : d = none ↔ fs = []) (hm : X.mg "isinstance" = none) (hg : Gl X "isinstance") (C : ExcC X.K Dc) (hz : Zc (.ref Dc) d oe) (hf : ∃ vs, oe.data = .fields vs) (gC : X.mg x = some (.ref c)) (hk : PySem.W.kitOne X.K (.ref Dc) (.ref c) = some b) (hgx : Gl X x)
    (ha : DE (X.suite a ((a, oe) :: pn)) e fe) (hd : (x == ("__debug__" : Str)) = false := by decide)
    (he : starEach [e, .Name x p2] X.env = (false, eval e X.env) :: starEach [.Name x p2] X.env := by rfl) (he2 : starEach [.Name x p2] X.env = (false, eval (.Name x p2) X.env) :: starEach [] X.env := by rfl) (hpl : (backTo pos (starEach [.Name x p2] X.env)).any (·.1) = false := by rfl) :
    DEF (X.suite a ((a, oe) :: pn)) d fs (.Call (.Name "isinstance" p) [e, .Name x p2] [] pos) (rIsEx a b fe) :=
  pe_imp (pe_callB (X := X.suite a ((a, oe) :: pn)) (call_isEd C hz hf) hg hm (by decide +kernel) (pa_cons ha (pa_cons (pe_glob (v := .ref c) hgx gC rfl hd) pa_nil he2) he) (by decide) (by decide) he hpl) fun σ H Q ⟨S, μ, ρ, R, y, k, e, h, post⟩ => by
    refine ⟨S, μ, ρ, _, k, e, h, fun S1 μ1 H1 v1 d1 k1 s1 r1 h1 => ?_⟩
    obtain ⟨rfl, h1⟩ := h1
    cases r1.toRef
    exact ⟨.ref c, .ref c, b, rfl, fun u ru => ru, hk, (y.mono s1.same).dict hd2 k1, post S1 μ1 H1 _ _ k1 s1 (.bl b) h1⟩
theorem def_isEV {n : String} (hd2 : d = none ↔ fs = []) (hm : X.mg "isinstance" = none) (hg : Gl X "isinstance") (C : ExcC X.K Dc) (hz : Zc (.ref Dc) d oe) (hf : ∃ vs, oe.data = .fields vs) (gC : X.mg x = none) (hv : bootBuiltins x = some (.type n)) (hk : PySem.W.kitOne X.K (.ref Dc) (.type n) = some b) (hgx : Gl X x)
    (ha : DE (X.suite a ((a, oe) :: pn)) e fe) (hd : (x == ("__debug__" : Str)) = false := by decide) (hn : x ≠ "__name__" := by decide)
    (he : starEach [e, .Name x p2] X.env = (false, eval e X.env) :: starEach [.Name x p2] X.env := by rfl) (he2 : starEach [.Name x p2] X.env = (false, eval (.Name x p2) X.env) :: starEach [] X.env := by rfl) (hpl : (backTo pos (starEach [.Name x p2] X.env)).any (·.1) = false := by rfl) :
    DEF (X.suite a ((a, oe) :: pn)) d fs (.Call (.Name "isinstance" p) [e, .Name x p2] [] pos) (rIsEx a b fe) :=
  pe_imp (pe_callB (X := X.suite a ((a, oe) :: pn)) (call_isEd C hz hf) hg hm (by decide +kernel) (pa_cons ha (pa_cons (de_ty (X := X.suite a ((a, oe) :: pn)) hgx gC hv hn hd) pa_nil he2) he) (by decide) (by decide) he hpl) fun σ H Q ⟨S, μ, ρ, R, y, k, e, h, post⟩ => by
    refine ⟨S, μ, ρ, _, k, e, h, fun S1 μ1 H1 v1 d1 k1 s1 r1 h1 => ?_⟩
    obtain ⟨rfl, h1⟩ := h1
    cases r1.toRef
    refine ⟨S1, μ1, ρ, fun d μ' => d = .ty n ∧ μ' = μ1, k1, e.mono s1.same, ⟨rfl, rfl⟩, fun S2 μ2 H2 v d k2 s2 r2 h2 => ?_⟩
    obtain ⟨rfl, rfl⟩ := h2
    have ev : v = .ty n := by cases r2; rfl
    subst ev
    exact ⟨.ty n, .type n, b, rfl, fun u ru => ru, hk, (y.mono (s1.same.trans s2.same)).dict hd2 k2, post S2 μ2 H2 _ _ k2 (s1.trans s2) (.bl b) h1⟩
end
end L3

/-! ## L3y -/
set_option Elab.async false
set_option linter.all false
set_option maxRecDepth 100000
set_option maxHeartbeats 4000000
/-! The head's look at classes of errors with attributes. -/
namespace L3
open PySem PySem.Spec PyProof.Rows L2
structure FnY where
  cls : Str
  qual : Str
  params : Arguments
  body : List Stmt
  scope : Scope
  file : Str
  names : List Str
def FnY.C (K : PySem.W.Frag) (d : FnY) : Addr := He.ga K d.cls
def FnY.f (K : PySem.W.Frag) (d : FnY) : Addr := He.ma K (d.C K) "__init__"
abbrev FyV : Type := Option ((Str × Str × Scope) × (Arguments × FuncBody) × (Addr × Addr) × List Str)
def fyOf (fd : FuncData) : FyV := some ((fd.name, fd.qualname, fd.scope), (fd.params, fd.body), (fd.globals, fd.builtins), fd.closure.map (·.1))
def FnY.obs (K : PySem.W.Frag) (d : FnY) : FyV := (K.lookup (d.f K)).bind fun o => match o with
  | ⟨_, _, .func fd, _⟩ => fyOf fd
  | _ => none
def FnY.val (d : FnY) : FyV := some (("__init__", d.qual, d.scope), (d.params, .stmts d.body), (mainGlobals, builtinsNs), ["__class__"])
def cellOf (K : PySem.W.Frag) (f : Addr) : Addr := match K.lookup f with
  | some ⟨_, _, .func fd, _⟩ => (match fd.closure with
    | (_, c) :: _ => c
    | _ => 0)
  | _ => 0
def codeFile (K : PySem.W.Frag) (v : Value) (file : Str) : Bool := match v with
  | .ref cda => (match K.lookup cda with
    | some ⟨_, _, .fields vs, _⟩ => (match (vs[2]? : Option Value) with
      | some (.str x _) => file == x
      | _ => false)
    | _ => false)
  | _ => false
theorem codeFile_ok {K : PySem.W.Frag} {v : Value} {file : Str} (h : codeFile K v file = true) : ∃ cda ccl cdd vs ccs x tf, v = .ref cda ∧ K.lookup cda = some ⟨ccl, cdd, .fields vs, ccs⟩ ∧ vs[2]? = some (.str x tf) ∧ (file == x) = true := by
  unfold codeFile at h
  split at h
  · rename_i cda
    split at h
    · rename_i ccl cdd vs ccs e
      split at h
      · rename_i x tf e2
        exact ⟨cda, _, _, vs, _, x, tf, rfl, e, e2, h⟩
      · cases h
    · cases h
  · cases h
def oexB (K : PySem.W.Frag) (C : Addr) : Bool := (match K.lookup C with
  | some ⟨.type "type", _, .cls cd, sl⟩ => (match cd.mro, sl.toList with
    | .ref C' :: bm, [_, _, _, _, some (.builtin n), _] => C' == C && (n == "ValueError.__new__" && (!cd.hasDel && (cd.hasDict && PySem.HandSPX.refsVE bm)))
    | _, _ => false)
  | _ => false) && (decide (PySem.W.findIn K (.ref C) "__setattr__" = some (some (.builtin "object.__setattr__"))) && (decide (PySem.W.subIn K (.ref C) (.type "BaseException") = some true) && (decide (PySem.W.typeIn K (.ref C) = some (.type "type")) && PySem.W.keepIn K (.ref C))))
theorem oexB_ok {K : PySem.W.Frag} {C : Addr} (h : oexB K C = true) : OexC K C := by
  unfold oexB at h
  simp only [Bool.and_eq_true, decide_eq_true_eq] at h
  obtain ⟨h1, h2, h3, h4, h5⟩ := h
  refine ⟨?_, h2, h3, h4, h5⟩
  split at h1
  · rename_i dd cd sl ho
    split at h1
    · rename_i C' bm k0 k1 k2 k3 n k5 hm hs
      simp only [Bool.and_eq_true, beq_iff_eq, Bool.not_eq_true'] at h1
      obtain ⟨rfl, rfl, hdel, hdct, ht⟩ := h1
      obtain ⟨nm, bs, mro, ns, qn, hd, sn, sub, ab, col, del⟩ := cd
      dsimp only at hm hdel hdct
      subst hm hdel hdct
      have hsl : sl = #[k0, k1, k2, k3, some (.builtin "ValueError.__new__"), k5] := by
        obtain ⟨l⟩ := sl
        simp only at hs
        rw [hs]
      subst hsl
      exact ⟨nm, qn, ns, bs, bm, sn, sub, ab, col, dd, k0, k1, k2, k3, k5, ho, ht⟩
    · cases h1
  · cases h1
def FnY.ok (K : PySem.W.Frag) (d : FnY) : Bool :=
  (match K.lookup (d.f K) with
    | some ⟨_, _, .func fd, _⟩ => PySem.W.codeIn K fd.code d.qual && (codeFile K fd.code d.file && decide (fd.defaults = .none))
    | _ => false) && ((match K.lookup (cellOf K (d.f K)) with
    | some ⟨_, _, .cell (some v), _⟩ => decide (v = .ref (d.C K))
    | _ => false) && ((PySem.W.clsIn K (d.C K)).isSome && (decide (PySem.W.mroIn K (d.C K) (.ref (d.C K)) = some true) && (decide (PySem.W.ks_superIn K (d.C K) (d.C K) "__init__" = some (some (.builtin "ValueError.__init__"))) &&
  (decide (PySem.W.subIn K (.ref (d.C K)) (.type "ValueError") = some true) && (decide (PySem.W.nsIn K cStatics "thirdparty.any" = some none) && (oexB K (d.C K) && (decide (PySem.W.findIn K (.ref (d.C K)) "__init__" = some (some (.ref (d.f K)))) && (decide (PySem.W.typeIn K (.ref (d.f K)) = some (.type "function")) &&
  d.names.all fun n => decide (PySem.W.findIn K (.ref (d.C K)) n = some none))))))))))
/-- what the head says of the class -/
structure GotY (P : Program) (K : PySem.W.Frag) (mg : Str → Option Value) (d : FnY) : Prop where
  lk : ∃ oc od osl kV doc pm an cd ct, K.lookup (d.f K) = some ⟨oc, od, .func (PySem.W.ksFn "__init__" d.qual d.params d.body d.scope .none kV doc pm an cd ct (cellOf K (d.f K))), osl⟩ ∧ PySem.W.codeIn K cd d.qual = true ∧ SupK P K mg (d.f K) (cellOf K (d.f K)) (d.C K) cd "self"
  init : PySem.W.findIn K (.ref (d.C K)) "__init__" = some (some (.ref (d.f K)))
  typ : PySem.W.typeIn K (.ref (d.f K)) = some (.type "function")
  no : ∀ n ∈ d.names, PySem.W.findIn K (.ref (d.C K)) n = some none
theorem FnY.got {P : Program} {K : PySem.W.Frag} {mg : Str → Option Value} {d : FnY} (e : d.obs K = d.val) (c : d.ok K = true) (hP : P.main.file = d.file) (ht : (P.main.scope.names.lookup ("super" : Str)).isSome = false) (ms : mg "super" = none) : GotY P K mg d := by
  obtain ⟨o, ho, hv⟩ := Option.bind_eq_some_iff.mp e
  unfold FnY.ok at c
  rw [ho] at c
  obtain ⟨oc, od, dt, sl⟩ := o
  cases dt <;> first | (exfalso; cases hv; done) | skip
  rename_i fd
  simp only [Bool.and_eq_true, decide_eq_true_eq, List.all_eq_true] at c
  obtain ⟨⟨c1, c2, c3⟩, c4, c5, c6, c7, c8, c9, c10, c11, c12, c13⟩ := c
  have z : fyOf fd = d.val := hv
  unfold fyOf FnY.val at z
  simp only [Option.some.injEq, Prod.mk.injEq] at z
  obtain ⟨⟨z1, z2, z3⟩, ⟨z4, z5⟩, ⟨z6, z7⟩, z8⟩ := z
  have hcl : fd.closure = [(("__class__" : Str), cellOf K (d.f K))] := by
    unfold cellOf
    rw [ho]
    dsimp only
    cases hc : fd.closure with
    | nil => rw [hc] at z8; cases z8
    | cons p r =>
      rw [hc] at z8
      obtain ⟨a, b⟩ := p
      rw [List.map_cons] at z8
      injection z8 with y1 y2
      have : r = [] := List.map_eq_nil_iff.mp y2
      subst this
      dsimp only at y1
      subst y1
      rfl
  obtain ⟨cda, ccl, cdd, vs, ccs, x, tf, q1, q2, q3, q4⟩ := codeFile_ok c2
  refine ⟨⟨oc, od, sl, fd.kwdefaults, fd.doc, fd.pyModule, fd.annotations, fd.code, fd.closureTuple, ?_, c1, ?_, ⟨cda, ccl, cdd, vs, ccs, x, tf, q1, q2, q3, by rw [hP]; exact q4⟩, Option.isSome_iff_exists.mp c5, c6, ht, ms, c7, c8, c9, oexB_ok c10⟩, c11, c12, c13⟩
  · rw [ho]
    obtain ⟨nm, qn, pr, bd, sc, gl, cl, df, kd, dc, pm, an, cd, ct, bl⟩ := fd
    simp only at z1 z2 z3 z4 z5 z6 z7 hcl c3
    subst z1 z2 z3 z4 z5 z6 z7 c3
    rw [hcl]
  · split at c4
    · rename_i a b v s q
      have : v = .ref (d.C K) := of_decide_eq_true c4
      subst this
      exact ⟨_, _, _, q⟩
    · cases c4
theorem GotY.binds {P : Program} {K : PySem.W.Frag} {mg : Str → Option Value} {d : FnY} {ps : List Str} {kV doc pm cd ct : Value} {an : Option Addr} {cc : Addr}
    (h : ∀ us : List Value, us.length = ps.length → bindArgs (PySem.W.ksFn "__init__" d.qual d.params d.body d.scope .none kV doc pm an cd ct cc) ⟨us, []⟩ = pure (ps.zip us)) : L2.Binds K (PySem.W.ksFn "__init__" d.qual d.params d.body d.scope .none kV doc pm an cd ct cc) ps [] := .all h
/-! ### what the module's names reach, each once: the seen addresses are the bits of a number -/
def newM : List Addr → Nat → List Addr → List Addr × Nat
  | [], m, acc => (acc, m)
  | a :: r, m, acc => match Nat.beq (Nat.mod (Nat.shiftRight m a) 2) 1 with
    | true => newM r m acc
    | false => newM r (Nat.lor m (Nat.shiftLeft 1 a)) (a :: acc)
def layM (g : Addr → Option Obj) : Nat → List Addr → Nat → List Addr → List Addr
  | 0, _, _, all => all
  | n + 1, front, m, all => match newM (front.flatMap fun a => match g a with
      | some o => He.refsD o
      | none => []) m [] with
    | (nw, m2) => layM g n nw m2 (all ++ nw)
def asM (g : Addr → Option Obj) (n : Nat) : List Addr := layM g n [mainGlobals] (Nat.shiftLeft 1 mainGlobals) [mainGlobals]
/-! ### the hook with such classes -/
abbrev AlU : Type := (AlX × Bool) × Bool × List FyV
/-- the head's part of the heap, the interpreter's own table among it -/
def frU (n : Nat) (g : Addr → Option Obj) : PySem.W.Frag := He.frT g (cStatics :: asM g n)
def obsXU (xb : List (PySem.W.Frag → Bool)) (fa : List He.Fa) (fn : List He.DefD) (fx : List FnX) (fy : List FnY) (n : Nat) (g : Addr → Option Obj) : AlU := ((obsX xb fa fn fx (frU n g), He.tabsB g [lawDf] (frU n g)), fy.all (fun d => d.ok (frU n g)), fy.map fun d => d.obs (frU n g))
def valXU (fn : List He.DefD) (fx : List FnX) (fy : List FnY) : AlU := ((valX fn fx, true), true, fy.map FnY.val)
/-- what is said of K -/
def SaysU (xb : List (PySem.W.Frag → Bool)) (fa : List He.Fa) (fn : List He.DefD) (fx : List FnX) (fy : List FnY) (K : PySem.W.Frag) : Prop := obsX xb fa fn fx K = valX fn fx ∧ (∀ d ∈ fy, d.ok K = true ∧ d.obs K = d.val)
def hookXU (n : Nat) (xb : List (PySem.W.Frag → Bool)) (fa : List He.Fa) (fn : List He.DefD) (fx : List FnX) (fy : List FnY) : PySem.W.Hook where
  α := AlU
  obs := fun s => obsXU xb fa fn fx fy n s.heap.get?
  val := fun _ => valXU fn fx fy
  says := fun _ h => ∃ K : PySem.W.Frag, K.In h ∧ SaysU xb fa fn fx fy K ∧ PySem.W.codeHdIn K (lawC K) (lawP K) = true ∧ K.lookup (lawP K) = none ∧ h.get? (lawP K) = some { cls := .none, data := .fields #[] }
  of := fun w s e => by
    have e1 : obsX xb fa fn fx (frU n s.heap.get?) = valX fn fx := congrArg (fun z : AlU => z.1.1) e
    have e2 : He.tabsB s.heap.get? [lawDf] (frU n s.heap.get?) = true := congrArg (fun z : AlU => z.1.2) e
    have e3 : fy.all (fun d => d.ok (frU n s.heap.get?)) = true := congrArg (fun z : AlU => z.2.1) e
    have e4 : (fy.map fun d => d.obs (frU n s.heap.get?)) = fy.map FnY.val := congrArg (fun z : AlU => z.2.2) e
    refine ⟨_, He.frT_in, ⟨e1, fun d hd => ⟨List.all_eq_true.mp e3 d hd, ?_⟩⟩, ?_⟩
    · obtain ⟨i, hi⟩ := List.mem_iff_getElem?.mp hd
      have e5 : (fy.map fun d => d.obs (frU n s.heap.get?))[i]? = (fy.map FnY.val)[i]? := by rw [e4]
      rw [List.getElem?_map, List.getElem?_map, hi] at e5
      exact Option.some.inj e5
    · obtain ⟨h3, h4⟩ := Bool.and_eq_true_iff.mp (List.all_eq_true.mp e2 lawDf (by simp))
      refine ⟨h3, ?_⟩
      cases q : s.heap.get? (He.cT (frU n s.heap.get?) lawDf).2 with
      | none => rw [q] at h4; cases h4
      | some o =>
        rw [q] at h4
        exact ⟨He.frT_none q h4, by unfold lawP; rw [show (He.frT s.heap.get? (cStatics :: asM s.heap.get? n)) = frU n s.heap.get? from rfl, q, He.emptyTab_eq h4]⟩
  keeps := fun _ _ _ ⟨K, hK, c, h1, h2, h3⟩ k => ⟨K, hK.keeps k, c, h1, h2, k _ _ h3⟩
theorem obsXU_eq {n : Nat} {xb : List (PySem.W.Frag → Bool)} {fa : List He.Fa} {fn : List He.DefD} {fx : List FnX} {fy : List FnY} (s : PySem.W.SharedT) : obsXU xb fa fn fx fy n (HandSHeadRun.getT s) = (hookXU n xb fa fn fx fy).obs s.abs := by
  have e : HandSHeadRun.getT s = s.abs.heap.get? := funext (HandSHeadRun.getT_eq s)
  rw [e]
  rfl
/-! ### what is told of errors -/
def attrNs : Nat → List Str
  | 4 => ["index"]
  | 7 => ["arm", "stroke", "part"]
  | 12 => ["row", "word"]
  | 13 => ["row", "reason"]
  | 16 => ["place"]
  | 19 => ["place"]
  | _ => []
def attrAll : List Str := ["index", "arm", "stroke", "part", "row", "word", "reason", "place"]
structure ErrA (K : PySem.W.Frag) (C CE : Addr) (gx : Str → Addr) (m : Nat) : Prop where
  k : ErrK K C CE gx m
  xf : XfC K C
  no : ∀ f ∈ attrAll, PySem.W.findIn K (.ref C) f = some none
theorem ErrA.at {K : PySem.W.Frag} {C CE : Addr} {gx : Str → Addr} {m : Nat} (e : ErrA K C CE gx m) (f : Str) (h : f ∈ attrAll) : XfA K C f := ⟨e.xf, e.no f h⟩
def errAB (K : PySem.W.Frag) (C CE : Addr) (gx : Str → Addr) (m : Nat) : Bool := errB K C CE gx m && (xfB K C && attrAll.all fun f => decide (PySem.W.findIn K (.ref C) f = some none))
theorem errAB_ok {K : PySem.W.Frag} {C CE : Addr} {gx : Str → Addr} {m : Nat} (h : errAB K C CE gx m = true) : ErrA K C CE gx m := by
  unfold errAB at h
  simp only [Bool.and_eq_true, List.all_eq_true, decide_eq_true_eq] at h
  exact ⟨errB_ok h.1, xfB_ok h.2.1, h.2.2⟩
end L3

/-! ## L4h -/
set_option Elab.async false
set_option linter.all false
/-! The head's run in three looks, joined. -/
namespace L3
open PySem PySem.W PySem.Spec PyProof.Rows L2
theorem map3 {S A B C : Type} {a : S → A} {b : S → B} {c : S → C} {x : A} {y : B} {z : C} : ∀ {o : Option S}, o.map a = some x → o.map b = some y → o.map c = some z → o.map (fun s => (a s, b s, c s)) = some (x, y, z)
  | none, h, _, _ => nomatch h
  | some s, h1, h2, h3 => by
    cases h1
    cases h2
    cases h3
    rfl
def Look1 (r : OpenRow) (M : Nat) (w : World) : Prop := ∀ os : OsState, (HandSHeadRun.endF (HandSHeadRun.stepQ (HandSHeadRun.denQ HandSHeadRun.tabQ) r.prog w) M r.prog w os).map (fun s => HandSHeadRun.looksF r.prog (boot_heap w.params) s.abs) = some true
def Look2 (r : OpenRow) (q : Program) (M : Nat) (loose : List PySem.Str) (w : World) : Prop := ∀ os : OsState, (HandSHeadRun.endF (HandSHeadRun.stepQ (HandSHeadRun.denQ HandSHeadRun.tabQ) r.prog w) M r.prog w os).map (fun s => HandSHeadRun.seenQ q loose (importedModules r.prog.main.body) (fun s => xlAt q [] s && recOk r.toRowW.records s) s.abs) = some (openGood q loose)
def Look3 (r : OpenRow) (H : Hook) (ob : SharedT → H.α) (M : Nat) (w : World) : Prop := ∀ os : OsState, (HandSHeadRun.endF (HandSHeadRun.stepQ (HandSHeadRun.denQ HandSHeadRun.tabQ) r.prog w) M r.prog w os).map (fun s => ob s) = some (H.val w)
theorem runEq_of {r : OpenRow} {q : Program} {H : Hook} {ob : SharedT → H.α} {M : Nat} {loose : List PySem.Str} {w : World} (h1 : Look1 r M w) (h2 : Look2 r q M loose w) (h3 : Look3 r H ob M w) : HandSHeadRun.RunEq r q H ob M loose w := fun os => map3 (h1 os) (h2 os) (h3 os)
end L3

/-! ## H_k14 -/
set_option Elab.async false
set_option linter.all false
set_option maxRecDepth 100000
set_option maxHeartbeats 0
namespace L3.K14
open PySem PySem.Spec PyProof.Rows L2
def top (i : Nat) : Stmt := PySem.Challenge.pw_copyarms_k14_areas.main.body.getD i (.Pass ⟨0, 0, 0, 0⟩)
def d_law_random : He.DefD := ⟨("_law_random", none), "_law_random", "_law_random", defArgs (top 37), defBody (top 37), defScope (top 37), [], []⟩
def d_law_below : He.DefD := ⟨("_law_below", none), "_law_below", "_law_below", defArgs (top 38), defBody (top 38), defScope (top 38), [], []⟩
def d_law_step : He.DefD := ⟨("_law_step", none), "_law_step", "_law_step", defArgs (top 39), defBody (top 39), defScope (top 39), [], []⟩
def d_law_common : He.DefD := ⟨("_law_common", none), "_law_common", "_law_common", defArgs (top 40), defBody (top 40), defScope (top 40), [], []⟩
def d_law_lowest : He.DefD := ⟨("_law_lowest", none), "_law_lowest", "_law_lowest", defArgs (top 41), defBody (top 41), defScope (top 41), [], []⟩
def d_law_spotT : He.DefD := ⟨("_law_spot", none), "_law_spot", "_law_spot", defArgs (top 42), defBody (top 42), defScope (top 42), [], []⟩
def d_law_strokeH : He.DefD := ⟨("_law_stroke", none), "_law_stroke", "_law_stroke", defArgs (top 43), defBody (top 43), defScope (top 43), [], []⟩
def d_is_int : He.DefD := ⟨("is_int", none), "is_int", "is_int", defArgs (top 23), defBody (top 23), defScope (top 23), [], []⟩
def d_common_divisor : He.DefD := ⟨("common_divisor", none), "common_divisor", "common_divisor", defArgs (top 24), defBody (top 24), defScope (top 24), [], []⟩
def d_lowest : He.DefD := ⟨("lowest", none), "lowest", "lowest", defArgs (top 27), defBody (top 27), defScope (top 27), [], []⟩
def d_is_number : He.DefD := ⟨("is_number", none), "is_number", "is_number", defArgs (top 28), defBody (top 28), defScope (top 28), [], []⟩
def d_common_multiple : He.DefD := ⟨("common_multiple", none), "common_multiple", "common_multiple", defArgs (top 25), defBody (top 25), defScope (top 25), [], []⟩
def d_scaled : He.DefD := ⟨("scaled", none), "scaled", "scaled", defArgs (top 34), defBody (top 34), defScope (top 34), [], []⟩
def d_ratio : He.DefD := ⟨("ratio", none), "ratio", "ratio", defArgs (top 26), defBody (top 26), defScope (top 26), [], []⟩
def d_law_times : He.DefD := ⟨("_law_times", none), "_law_times", "_law_times", defArgs (top 45), defBody (top 45), defScope (top 45), [], []⟩
def d_law_over : He.DefD := ⟨("_law_over", none), "_law_over", "_law_over", defArgs (top 46), defBody (top 46), defScope (top 46), [], []⟩
def d_law_plus : He.DefD := ⟨("_law_plus", none), "_law_plus", "_law_plus", defArgs (top 47), defBody (top 47), defScope (top 47), [], []⟩
def d_check_spot : He.DefD := ⟨("check_spot", none), "check_spot", "check_spot", defArgs (top 30), defBody (top 30), defScope (top 30), [], []⟩
def d_check_stroke : He.DefD := ⟨("check_stroke", none), "check_stroke", "check_stroke", defArgs (top 33), defBody (top 33), defScope (top 33), [], []⟩
def d_area : He.DefD := ⟨("area", none), "area", "area", defArgs (top 35), defBody (top 35), defScope (top 35), [], []⟩
def d_law_equal : He.DefD := ⟨("_law_equal", none), "_law_equal", "_law_equal", defArgs (top 48), defBody (top 48), defScope (top 48), [], []⟩
def d_law_turnT : He.DefD := ⟨("_law_turn", none), "_law_turn", "_law_turn", defArgs (top 49), defBody (top 49), defScope (top 49), [], []⟩
def d_law_toldT : He.DefD := ⟨("_law_told", none), "_law_told", "_law_told", defArgs (top 50), defBody (top 50), defScope (top 50), [], []⟩
def d_law_carried : He.DefD := ⟨("_law_carried", none), "_law_carried", "_law_carried", defArgs (top 51), defBody (top 51), defScope (top 51), [], []⟩
def d_law_ratio : He.DefD := ⟨("_law_ratio", none), "_law_ratio", "_law_ratio", defArgs (top 52), defBody (top 52), defScope (top 52), [], []⟩
def d_law_size : He.DefD := ⟨("_law_size", none), "_law_size", "_law_size", defArgs (top 53), defBody (top 53), defScope (top 53), [], []⟩
def d_law : He.DefD := ⟨("law", none), "law", "law", defArgs (top 54), defBody (top 54), defScope (top 54), [], []⟩
def d_law_error_of : He.DefD := ⟨("_law_error_of", none), "_law_error_of", "_law_error_of", defArgs (top 44), defBody (top 44), defScope (top 44), [], []⟩
def fn : List He.DefD := [d_law_random, d_law_below, d_law_step, d_law_common, d_law_lowest, d_law_spotT, d_law_strokeH, d_is_int, d_common_divisor, d_lowest, d_is_number, d_common_multiple, d_scaled, d_ratio, d_law_times, d_law_over, d_law_plus, d_check_spot, d_check_stroke, d_area, d_law_equal, d_law_turnT, d_law_toldT, d_law_carried, d_law_ratio, d_law_size, d_law, d_law_error_of]
def fx : List FnX := []
def y_InvalidStroke : FnY := ⟨"InvalidStroke", "InvalidStroke.__init__", defArgs (inClass (top 6) 0), defBody (inClass (top 6) 0), defScope (inClass (top 6) 0), "/claim/cut.py", ["index"]⟩
def fy : List FnY := [y_InvalidStroke]
def fa : List (He.Fa) := ([.free "abs", .free "len", .free "range", .free "bool", .free "int", .free "isinstance", .free "all", .free "tuple", .int "MAX_SPOTS" 12, .free "any", .free "zip", .free "list", .free "str", .glo "InvalidSpot", .exc "InvalidSpot", .glo "CopyError", .glo "OpenStroke", .exc "OpenStroke", .free "ValueError", .glo "BadRow", .glo "BadText", .glo "Contradiction", .glo "InvalidBox", .glo "InvalidCode", .glo "InvalidName", .glo "InvalidOperation", .glo "InvalidReach", .glo "InvalidSize", .glo "InvalidStroke", .glo "InvalidTimes"] : List (He.Fa)) ++ ([.glo "InvalidTurn", .glo "NotFree", .glo "OutOfReach", .glo "TooFew", .glo "TooMany", .glo "UnknownArm", .glo "UnknownName", .glo "_law_random", .glo "_law_below", .glo "_law_step", .glo "_law_common", .glo "_law_lowest", .glo "_law_spot", .glo "_law_stroke", .glo "is_int", .glo "common_divisor", .glo "lowest", .glo "is_number", .glo "common_multiple", .glo "scaled", .glo "ratio", .glo "_law_times", .glo "_law_over", .glo "_law_plus", .glo "check_spot", .glo "check_stroke", .glo "area", .glo "_law_equal", .glo "_law_turn", .glo "_law_told"] : List (He.Fa)) ++ ([.glo "_law_carried", .glo "_law_ratio", .glo "_law_size", .glo "law", .glo "_law_error_of", .free "super"] : List (He.Fa))
def xb : List (PySem.W.Frag → Bool) := ([(fun K => errAB K (He.ga K "InvalidStroke") (He.ga K "CopyError") (fun s => He.ga K s) 4), (fun K => errAB K (He.ga K "OpenStroke") (He.ga K "CopyError") (fun s => He.ga K s) 5), (fun K => decide (PySem.W.exmOne K (.ref (He.ga K "InvalidSpot")) (.ref (He.ga K "CopyError")) = some true))] : List (PySem.W.Frag → Bool))
def names : List (PySem.Str) := (["CopyError", "InvalidSpot", "InvalidTurn", "InvalidTimes", "TooFew", "InvalidStroke", "OpenStroke", "InvalidReach", "OutOfReach", "TooMany", "InvalidSize", "InvalidBox", "Contradiction", "BadText", "BadRow", "UnknownName", "InvalidName", "InvalidCode", "UnknownArm", "NotFree", "InvalidOperation", "is_int", "common_divisor", "common_multiple", "ratio", "lowest", "is_number", "check_spot", "MAX_SPOTS", "check_stroke"] : List (PySem.Str)) ++ (["scaled", "area", "_law_random", "_law_below", "_law_step", "_law_common", "_law_lowest", "_law_spot", "_law_stroke", "_law_error_of", "_law_times", "_law_over", "_law_plus", "_law_equal", "_law_turn", "_law_told", "_law_carried", "_law_ratio", "_law_size"] : List (PySem.Str))
abbrev R : PySem.W.OpenRow := PySem.W.OpenLaw.row PySem.Challenge.rw_copyarms_k14_areas
abbrev qv : Program := PySem.W.view R.prog [54]
abbrev hk : PySem.W.Hook := hookXU 6 xb fa fn fx fy
def ob (s : PySem.W.SharedT) : AlU := obsXU xb fa fn fx fy 6 (HandSHeadRun.getT s)
theorem ob_eq (s : PySem.W.SharedT) : ob s = hk.obs s.abs := obsXU_eq s
theorem run1 (w : World) : Look1 R 12000 w := by
  intro os
  kernel_rfl
theorem run2 (w : World) : Look2 R qv 12000 names w := by
  intro os
  kernel_rfl
theorem run3 (w : World) : Look3 R hk ob 12000 w := by
  intro os
  kernel_rfl
theorem run (w : World) : HandSHeadRun.RunEq R qv hk ob 12000 names w := runEq_of (run1 w) (run2 w) (run3 w)

end L3.K14

/-! ## L3z -/
set_option Elab.async false
set_option linter.all false
set_option maxRecDepth 100000
set_option maxHeartbeats 4000000
/-! list(range(..)), o[i] by an own __getitem__, x not in a list, == with what is of another kind. -/
theorem L2.Room.u65 {k : Nat} {A : PySem.Around} (r : L2.Room k A) : A.units + 65 < PySem.cLine := by have := r.un; omega
namespace L3
open PySem PySem.Spec PyProof.Rows L2
section
variable {X : Cx} {a b : Expr} {fa fb : RX} {p p2 rpos pos : Pos}
end
/-! ### == with what is of another kind -/
section
variable {X : Cx} {k : Nat} {C g : Addr} {okc : Addr → Prop} {s : GN} {a b : Expr} {fa fb : RX} {pos : Pos}
end
/-! ### a list or a tuple walked -/
def iSeqX (K : PySem.W.Frag) (tl : TE) : TI := fun σ H R => tl σ H fun x H1 => ∃ a, x = .ref a ∧ (((∃ xs, SqL K H1 a xs) ∧ R (Itl K a) H1) ∨ ((∃ xs, SqT K H1 a xs) ∧ R (Itt K a) H1))
theorem pi_seq {X : Cx} {tg l : Expr} {tl : TE} (hl : PE X l tl) : PI X tg l (iSeqX X.K tl) := by
  refine ⟨fun pins s σ H R I h => ?_⟩
  refine thn (hl.run pins s σ H _ I h) fun v s1 ⟨x, H1, I1, r1, q1⟩ => ?_
  obtain ⟨a, e, q⟩ := q1
  subst e
  cases r1
  rcases q with ⟨⟨xs, hq⟩, q⟩ | ⟨⟨xs, hq⟩, q⟩
  · obtain ⟨its, rv, p, hz⟩ := I1.list hq
    refine wpAny_pyIter_list p.isList ?_
    refine ⟨s1.heap.objs.size, [s1.heap.objs.size], _, _, H1, rfl, I1.kept (t' := s1.toks) fun b o e => Heap.get?_push_of_some _ e, turn_list a _, ⟨_, Heap.get?_push_size _ rfl, rfl, rfl⟩, fun b hb => ?_, q⟩
    have e : b = s1.heap.objs.size := by simpa using hb
    subst e
    exact I1.fpOk (Nat.le_refl _) (I1.hok.fresh (Nat.le_refl _))
  · obtain ⟨its, rv, p, hz⟩ := I1.tuple hq
    refine wpAny_pyIter_tuple (show s1.heap.IsTuple a its.toArray from p) ?_
    refine ⟨s1.heap.objs.size, [s1.heap.objs.size], _, _, H1, rfl, I1.kept (t' := s1.toks) fun b o e => Heap.get?_push_of_some _ e, turn_tuple a _, ⟨_, Heap.get?_push_size _ rfl, rfl, rfl⟩, fun b hb => ?_, q⟩
    have e : b = s1.heap.objs.size := by simpa using hb
    subst e
    exact I1.fpOk (Nat.le_refl _) (I1.hok.fresh (Nat.le_refl _))
def rISeq (f : RX) : RI := fun ρ μ R => f ρ μ fun d μ1 => match d with
  | .lst ds => R ds tru μ1
  | .scr ds => R ds tru μ1
  | .tup ds => R ds tru μ1
  | .ref p => (match μ1 p with
    | some (.lst ds) => R ds (fun μ => μ p = some (.lst ds)) μ1
    | _ => False)
  | _ => False
theorem di_seq {X : Cx} {tg e : Expr} {fe : RX} (h : DE X e fe) : DI X tg e (rISeq fe) := pi_imp (pi_seq h) fun σ H R ⟨S, μ, ρ, RR, k, e, h, post⟩ => by
  refine ⟨S, μ, ρ, _, k, e, h, fun S1 μ1 H1 v d k1 s1 r1 q1 => ?_⟩
  cases d with
  | lst ds =>
    cases r1 with
    | lst a r =>
      exact ⟨_, rfl, .inl ⟨⟨_, .of (k1.sub _ _ a)⟩, post S1 μ1 H1 _ ds tru k1 s1 (itok_list (vs := []) fun S2 μ2 H2 k2 e2 _ => ⟨_, .of (k2.sub _ _ (e2 _ _ a)), r.mono e2⟩) q1⟩⟩
  | scr ds =>
    cases r1 with
    | scr a r =>
      exact ⟨_, rfl, .inl ⟨⟨_, sqL_same k1.sub a⟩, post S1 μ1 H1 _ ds tru k1 s1 (itok_list (vs := []) fun S2 μ2 H2 k2 e2 _ => ⟨_, sqL_same k2.sub (sqL_same e2 a), r.mono e2⟩) q1⟩⟩
  | tup ds =>
    obtain ⟨a, vs, rfl, h2, r2⟩ := r1.toTup
    exact ⟨a, rfl, .inr ⟨⟨vs, sqT_same k1.sub h2⟩, post S1 μ1 H1 _ ds tru k1 s1 (itok_tup h2 r2) q1⟩⟩
  | ref p =>
    cases r1.toRef
    cases q : μ1 p with
    | none =>
      have q1 : (match μ1 p with | some (.lst ds) => RR ds (fun μ => μ p = some (.lst ds)) μ1 | _ => False) := q1
      rw [q] at q1; exact q1.elim
    | some m =>
      have q1 : (match μ1 p with | some (.lst ds) => RR ds (fun μ => μ p = some (.lst ds)) μ1 | _ => False) := q1
      rw [q] at q1
      cases m with
      | ins _ _ => exact q1.elim
      | tab _ => exact q1.elim
      | dk _ => exact q1.elim
      | dct _ _ => exact q1.elim
      | lst ds =>
        obtain ⟨_, vs, h2, r2⟩ := k1.mts p _ q
        exact ⟨p, rfl, .inl ⟨⟨vs, .of h2⟩, post S1 μ1 H1 _ ds _ k1 s1 (itok_list (vs := []) fun S2 μ2 H2 k2 e2 c2 => by
          obtain ⟨_, vs', h3, r3⟩ := k2.mts p _ c2
          exact ⟨vs', .of h3, r3⟩) q1⟩⟩
  | _ => exact False.elim q1
end L3

/-! ## L4a -/
set_option Elab.async false
set_option linter.all false
set_option maxRecDepth 100000
set_option maxHeartbeats 4000000
/-! == of two tuples of instances with an own __eq__. -/
namespace L3
open PySem PySem.Spec PyProof.Rows L2
section
variable {prog : Program} {w : World} {A : Around} {R : Result → Shared → Prop} {E : Value → Shared → Prop} {s : Shared}
end
/-! ### over data -/
section
variable {X : Cx} {k : Nat} {C g : Addr} {s : GN} {a b : Expr} {fa fb : RX} {pos : Pos}
end
/-! ### what one object holds -/
end L3

/-! ## L4b -/
set_option Elab.async false
set_option linter.all false
set_option maxRecDepth 100000
set_option maxHeartbeats 4000000
/-! Instances made, own operators and calls of instances that may raise. -/
namespace L3
open PySem PySem.Spec PyProof.Rows L2 StX
section
variable {K : PySem.W.Frag} {S H : Hp} {μ : MH} {C : Addr} {s : GX}
theorem OK.del (k : OK K S μ H) (p : Addr) : OK K S (delM μ p) H ∧ Stp S μ H S (delM μ p) H := by
  have ne : ∀ c m, delM μ p c = some m → μ c = some m := fun c m e => by
    by_cases z : c = p
    · rw [z, delM_same] at e; cases e
    · rw [delM_ne z] at e; exact e
  exact ⟨⟨k.sub, fun a m e => k.mts a m (ne a m e), k.nst, fun a b q r ea eb => k.one a b q r (ne a _ ea) (ne b _ eb)⟩, fun _ _ h => h, fun _ _ h => .inl h, fun _ _ h _ _ => h, fun b m e => .inr ⟨m, ne b m e⟩⟩
end
structure MkGX (P : Program) (w : World) (K : PySem.W.Frag) (mg : Str → Option Value) (base : Heap) (k : Nat) (x : Str) (C : Addr) (s : GX) : Prop where
  ex : ∃ f fd ps, FnOk P w K mg base (L2.CX P w) k f fd ps (spX K s) ∧ mg x = some (.ref C) ∧ Mk K C f ∧ Binds K fd ps []
structure MkKX (P : Program) (w : World) (K : PySem.W.Frag) (mg : Str → Option Value) (base : Heap) (k : Nat) (x : Str) (C : Addr) (s : GX) (n : Nat) (ks : List Str) (gD : List D → List D → List D) : Prop where
  ex : ∃ f fd ps g gV, FnOk P w K mg base (L2.CX P w) k f fd ps (spX K s) ∧ mg x = some (.ref C) ∧ Mk K C f ∧ KBn K fd ps (n + 1) ks g gV ∧
    ∀ (y : V) (b : D) (vs zs : List V) (ds es : List D) (S : Hp), Rep K S y b → Reps K S vs ds → Reps K S zs es → Reps K S (gV (y :: vs) zs) (b :: gD ds es)
structure MkDX (P : Program) (w : World) (K : PySem.W.Frag) (mg : Str → Option Value) (base : Heap) (k : Nat) (x : Str) (C : Addr) (s : GX) (dd : List D) : Prop where
  ex : ∃ f fd ps ds dvs, FnOk P w K mg base (L2.CX P w) k f fd ps (spX K s) ∧ mg x = some (.ref C) ∧ Mk K C f ∧ Binds K fd ps ds ∧ Vals dvs ds ∧ ∀ S, Reps K S dvs dd
structure MkSX (P : Program) (w : World) (K : PySem.W.Frag) (mg : Str → Option Value) (base : Heap) (k : Nat) (x : Str) (C : Addr) (s : GX) : Prop where
  ex : ∃ f, FnR P w K mg base (L2.CX P w) k f (starSp (spX K s)) ∧ mg x = some (.ref C) ∧ Mk K C f
section
variable {X : Cx} {W : WX} {k n m : Nat} {C : Addr} {x : Str} {s : GX} {ks : List Str} {gD : List D → List D → List D} {dd : List D} {e : Expr} {es : List Expr} {kws : List Keyword} {fe : RX} {fa fk : RA} {p pos sp_ : Pos}
end
section
variable {P : Program} {w : World} {K : PySem.W.Frag} {mg : Str → Option Value} {base : Heap}
end
/-! ### own operators and calls of instances -/
theorem MtGX.raw {P : Program} {w : World} {K : PySem.W.Frag} {mg : Str → Option Value} {base : Heap} {k : Nat} {C f : Addr} {s : GX} (F : MtGX P w K mg base k C f s) : FnR P w K mg base (L2.CX P w) k f (spX K s) := by
  obtain ⟨fd, ps, a, b⟩ := F.ex
  have z := a.raw b (dvs := []) .nil
  simp only [List.append_nil] at z
  exact z
section
variable {X : Cx} {W : WX} {k : Nat} {C g : Addr} {s : GX} {a b o e : Expr} {es : List Expr} {fa fb fo : RX} {fes : RA} {pos : Pos}
end
end L3

/-! ## L7b -/
set_option Elab.async false
set_option linter.all false
set_option maxRecDepth 100000
set_option maxHeartbeats 4000000
/-! x not in a list of instances with an own __eq__. -/
namespace L3
open PySem PySem.Spec PyProof.Rows L2
open AutoSeq1 (wpAny_loadPart')
open MeetsSeq MeetsSeq2 MeetsSeq3 SeqRoads2 SeqAt
section
variable {prog : Program} {w : World} {A : Around} {R : Result → Shared → Prop} {E : Value → Shared → Prop}
end
section
variable {X : Cx} {k : Nat} {C g : Addr} {s : GN} {a b : Expr} {fa fb : RX} {pos : Pos}
end
end L3

/-! ## L8a -/
set_option Elab.async false
set_option linter.all false
set_option maxRecDepth 100000
set_option maxHeartbeats 4000000
/-! sorted(xs, key=lambda p: (p[0] * (sc // p[2]), p[1] * (sc // p[2]))): spots in the order of their places. -/
namespace L3
open PySem PySem.Spec PySem.Calls PyProof.Rows L2
/-! ### expressions of ints that change nothing -/
/-- what the lambda's body sees: the spot at a, the scale in the cell c -/
structure KeyI (env : Env) (p : Str) (a c : Addr) (x y d S : Int) (h : Heap) : Prop where
  loc : ∃ m, h.Ns env.locals m ∧ m p = some (.ref a)
  tup : ∃ t1 t2 t3, IsTup h a #[.int x t1, .int y t2, .int d t3]
  cell : ∃ t, h.IsCell c (some (.int S t))
section
variable {prog : Program} {w : World} {A : Around} {env : Env} {p sc : Str} {a c : Addr} {x y d S : Int} {e1 e2 : Expr} {n m : Int} {pos p1 p2 : Pos} {k : Nat}
end
/-! ### the key of a spot -/
/-- the scope of the lambda -/
structure KeySc (p sc : Str) (scope : Scope) : Prop where
  kind : scope.kind = .function
  co : scope.isCoroutine = false
  gen : scope.isGenerator = false
  nc : ∀ y ∈ scope.names, y.2 ≠ .cell
  pl : scope.names.lookup p = some .local
  fr : scope.names.lookup sc = some .free
  all : ∀ y ∈ scope.names, y.2 = .free → y.1 = sc
/-! ### the lambda is called -/
section
variable {prog : Program} {w : World} {A : Around} {p sc qual : Str} {params : Arguments} {body : Expr} {scope : Scope} {cl : List (Str × Addr)} {pm ctv : Value} {f c' a c : Addr} {x y d S : Int} {s : Shared} {E : Value → Shared → Prop}
end
/-! ### sorted(xs, key=lambda ..) -/
section
variable {X : Cx} {i j k : Nat} {xs sc p : Str} {c Pt : Addr} {params : Arguments} {body : Expr} {scope : Scope} {p1 p2 lpos pos kpos : Pos}
end
/-! ### over data -/
section
variable {X : Cx} {i j k : Nat} {xs sc p : Str} {c Pt : Addr} {params : Arguments} {body : Expr} {scope : Scope} {p1 p2 lpos pos kpos : Pos}
end
end L3
namespace L3
open PySem PySem.Spec PySem.Calls PyProof.Rows L2
end L3

/-! ## L8b -/
set_option Elab.async false
set_option linter.all false
set_option maxRecDepth 100000
set_option maxHeartbeats 4000000
/-! The head and the end of a law whose lambda is the one of "ascending". -/
namespace L3
open PySem PySem.Spec PyProof.Rows L2
def ascQ : Str := "ascending.<locals>.<lambda>"
section
variable {P : Program} {w : World} {K : PySem.W.Frag} {mg : Str → Option Value} {base : Heap}
end
end L3

/-! ## L3u -/
set_option Elab.async false
set_option linter.all false
set_option maxRecDepth 100000
set_option maxHeartbeats 4000000
/-! max, min of two ints; a list many times. -/
namespace L3
open PySem PySem.Spec PyProof.Rows L2
section
variable {K : PySem.W.Frag} {X : Cx}
end
end L3

/-! ## NM -/
set_option maxHeartbeats 1000000
set_option linter.all false
/-! Numbers of two parts: lowest terms, sums, products, by their values in Rat. Plain Lean. -/
namespace NM

structure Num where
  x : Int
  y : Int
  d : Int
  deriving DecidableEq

def gz (a b : Int) : Int := ((Int.gcd a b : Nat) : Int)
/-- the program's: sign * v // g -/
def low (x y d : Int) : Num :=
  let g := gz (gz x y) d
  let s : Int := if 0 < d then 1 else -1
  ⟨(s * x).fdiv g, (s * y).fdiv g, (s * d).fdiv g⟩
/-- the law's: v // (+-g) -/
def lowL (x y d : Int) : Num :=
  let g := gz (gz x y) d
  let g2 := if 0 < d then g else 0 - g
  ⟨x.fdiv g2, y.fdiv g2, d.fdiv g2⟩
/-- in lowest terms, d positive -/
def Can (z : Num) : Prop := 0 < z.d ∧ gz (gz z.x z.y) z.d = 1

theorem gz_dl (a b : Int) : gz a b ∣ a := Int.gcd_dvd_left ..
theorem gz_dr (a b : Int) : gz a b ∣ b := Int.gcd_dvd_right ..
theorem gz_pos {a b : Int} (h : b ≠ 0) : 0 < gz a b := by
  have : Int.gcd a b ≠ 0 := fun e => h (Int.gcd_eq_zero_iff.mp e).2
  unfold gz; omega
theorem dvd_gz {k a b : Int} (h1 : k ∣ a) (h2 : k ∣ b) : k ∣ gz a b := Int.dvd_coe_gcd h1 h2
theorem g3_x (x y d : Int) : gz (gz x y) d ∣ x := Int.dvd_trans (gz_dl _ _) (gz_dl _ _)
theorem g3_y (x y d : Int) : gz (gz x y) d ∣ y := Int.dvd_trans (gz_dl _ _) (gz_dr _ _)
theorem g3_d (x y d : Int) : gz (gz x y) d ∣ d := gz_dr _ _
theorem fdiv_mul' {g k : Int} (h : g ≠ 0) : (g * k).fdiv g = k := by
  rw [Int.fdiv_eq_ediv_of_dvd (Int.dvd_mul_right ..)]
  exact Int.mul_ediv_cancel_left _ h
/-- low as a quotient: v = k * part -/
theorem gz_mul_g (s v : Int) : ∀ k l, s = gz s v * k → v = gz s v * l → 0 < gz s v → Nat.Coprime k.natAbs l.natAbs := by
  intro k l hk hl hg
  have e : Int.gcd (gz s v * k) (gz s v * l) = (gz s v).natAbs * Int.gcd k l := Int.gcd_mul_left ..
  rw [← hk, ← hl] at e
  have e2 : (gz s v).natAbs = Int.gcd s v := by unfold gz; exact Int.natAbs_natCast _
  rw [e2] at e
  have pos : 0 < Int.gcd s v := by rw [← e2]; omega
  have : Int.gcd s v * 1 = Int.gcd s v * Int.gcd k l := by rw [Nat.mul_one]; exact e
  exact (Nat.eq_of_mul_eq_mul_left pos this).symm
theorem low_spec {x y d : Int} (h : d ≠ 0) : ∃ k : Int, k ≠ 0 ∧ x = k * (low x y d).x ∧ y = k * (low x y d).y ∧ d = k * (low x y d).d ∧ 0 < (low x y d).d ∧ k.natAbs = (gz (gz x y) d).natAbs := by
  have hg : 0 < gz (gz x y) d := gz_pos h
  obtain ⟨a, ha⟩ := g3_x x y d
  obtain ⟨b, hb⟩ := g3_y x y d
  obtain ⟨c, hc⟩ := g3_d x y d
  have hgn : gz (gz x y) d ≠ 0 := by omega
  unfold low
  generalize gz (gz x y) d = g at *
  by_cases hd : 0 < d
  · simp only [if_pos hd]
    refine ⟨g, hgn, ?_, ?_, ?_, ?_, rfl⟩
    · rw [Int.one_mul, ha, fdiv_mul' hgn]
    · rw [Int.one_mul, hb, fdiv_mul' hgn]
    · rw [Int.one_mul, hc, fdiv_mul' hgn]
    · rw [Int.one_mul, hc, fdiv_mul' hgn]
      rw [hc] at hd
      exact Int.pos_of_mul_pos_right hd hg
  · simp only [if_neg hd]
    refine ⟨-g, by omega, ?_, ?_, ?_, ?_, by omega⟩
    · rw [ha, show -1 * (g * a) = g * (-a) by grind, fdiv_mul' hgn]; grind
    · rw [hb, show -1 * (g * b) = g * (-b) by grind, fdiv_mul' hgn]; grind
    · rw [hc, show -1 * (g * c) = g * (-c) by grind, fdiv_mul' hgn]; grind
    · rw [hc, show -1 * (g * c) = g * (-c) by grind, fdiv_mul' hgn]
      have : 0 < g * (-c) := by rw [hc] at hd h; grind
      exact Int.pos_of_mul_pos_right this hg
theorem low_can {x y d : Int} (h : d ≠ 0) : Can (low x y d) := by
  obtain ⟨k, hk, ex, ey, ed, hp, hkg⟩ := low_spec (x := x) (y := y) h
  refine ⟨hp, ?_⟩
  generalize low x y d = z at *
  -- k * g' divides all, so it divides g
  have h1 : k * gz (gz z.x z.y) z.d ∣ gz (gz x y) d := by
    refine dvd_gz (dvd_gz ?_ ?_) ?_
    · rw [ex]; exact Int.mul_dvd_mul_left _ (g3_x ..)
    · rw [ey]; exact Int.mul_dvd_mul_left _ (g3_y ..)
    · rw [ed]; exact Int.mul_dvd_mul_left _ (g3_d ..)
  have hg' : 0 < gz (gz z.x z.y) z.d := gz_pos (by omega)
  have h2 := Int.natAbs_dvd_natAbs.mpr h1
  rw [Int.natAbs_mul, ← hkg] at h2
  have hk' : 0 < k.natAbs := by omega
  have h3 : (gz (gz z.x z.y) z.d).natAbs ∣ 1 := by
    obtain ⟨c, hc⟩ := h2
    refine ⟨c, ?_⟩
    have : k.natAbs * 1 = k.natAbs * ((gz (gz z.x z.y) z.d).natAbs * c) := by rw [Nat.mul_one, ← Nat.mul_assoc]; exact hc
    exact Nat.eq_of_mul_eq_mul_left hk' this
  have h4 := Nat.dvd_one.mp h3
  omega
/-- two canonical numbers of one value are one -/
theorem can_ext {a b : Num} (ha : Can a) (hb : Can b) (h1 : a.x * b.d = b.x * a.d) (h2 : a.y * b.d = b.y * a.d) : a = b := by
  obtain ⟨pa, ga⟩ := ha
  obtain ⟨pb, gb⟩ := hb
  -- a.d divides b.d: a.d divides b.d * a.x, b.d * a.y, b.d * a.d
  have key : ∀ (p q : Num), 0 < p.d → gz (gz p.x p.y) p.d = 1 → p.x * q.d = q.x * p.d → p.y * q.d = q.y * p.d → p.d ∣ q.d := by
    intro p q pp gp e1 e2
    have d1 : p.d ∣ p.x * q.d := ⟨q.x, by rw [e1]; exact Int.mul_comm ..⟩
    have d2 : p.d ∣ p.y * q.d := ⟨q.y, by rw [e2]; exact Int.mul_comm ..⟩
    have d3 : p.d ∣ p.d * q.d := ⟨q.d, rfl⟩
    have e : ((Int.gcd (((Int.gcd p.x p.y : Nat) : Int)) p.d : Nat) : Int) = 1 := gp
    have e' : Int.gcd (((Int.gcd p.x p.y : Nat) : Int)) p.d = 1 := by omega
    have m1 : p.d ∣ ((Int.gcd (p.x * q.d) (p.y * q.d) : Nat) : Int) := Int.dvd_coe_gcd d1 d2
    rw [Int.gcd_mul_right] at m1
    have m2 : p.d ∣ ((Int.gcd p.x p.y : Nat) : Int) * q.d := by
      have : (((Int.gcd p.x p.y) * q.d.natAbs : Nat) : Int) = ((Int.gcd p.x p.y : Nat) : Int) * (q.d.natAbs : Int) := by simp
      rw [this] at m1
      rcases Int.natAbs_eq q.d with h | h
      · rw [h]; exact m1
      · rw [h, Int.mul_neg]; exact Int.dvd_neg.mpr m1
    have m3 : p.d ∣ ((Int.gcd (((Int.gcd p.x p.y : Nat) : Int) * q.d) (p.d * q.d) : Nat) : Int) := Int.dvd_coe_gcd m2 d3
    rw [Int.gcd_mul_right, e', Nat.one_mul] at m3
    exact Int.dvd_natAbs.mp m3
  have k1 := key a b pa ga h1 h2
  have k2 := key b a pb gb h1.symm h2.symm
  have ed : a.d = b.d := Int.dvd_antisymm (by omega) (by omega) k1 k2
  have hd : a.d ≠ 0 := by omega
  have ex : a.x = b.x := by
    rw [← ed] at h1
    exact Int.eq_of_mul_eq_mul_right hd h1
  have ey : a.y = b.y := by
    rw [← ed] at h2
    exact Int.eq_of_mul_eq_mul_right hd h2
  cases a; cases b
  simp only at ex ey ed
  subst ex ey ed
  rfl
theorem low_eq {x y d x' y' d' : Int} (h : d ≠ 0) (h' : d' ≠ 0) (h1 : x * d' = x' * d) (h2 : y * d' = y' * d) : low x y d = low x' y' d' := by
  obtain ⟨k, hk, ex, ey, ed, _⟩ := low_spec (x := x) (y := y) h
  obtain ⟨l, hl, fx, fy, fd, _⟩ := low_spec (x := x') (y := y') h'
  refine can_ext (low_can h) (low_can h') ?_ ?_
  · generalize low x y d = z at *
    generalize low x' y' d' = w at *
    have : (k * l) * (z.x * w.d) = (k * l) * (w.x * z.d) := by rw [ex, fd, fx, ed] at h1; grind
    exact Int.eq_of_mul_eq_mul_left (Int.mul_ne_zero hk hl) this
  · generalize low x y d = z at *
    generalize low x' y' d' = w at *
    have : (k * l) * (z.y * w.d) = (k * l) * (w.y * z.d) := by rw [ey, fd, fy, ed] at h2; grind
    exact Int.eq_of_mul_eq_mul_left (Int.mul_ne_zero hk hl) this
theorem low_self {z : Num} (h : Can z) : low z.x z.y z.d = z := by
  have hd : z.d ≠ 0 := by have := h.1; omega
  obtain ⟨k, hk, ex, ey, ed, _⟩ := low_spec (x := z.x) (y := z.y) hd
  refine can_ext (low_can hd) h ?_ ?_ <;> grind
theorem lowL_eq {x y d : Int} (h : d ≠ 0) : lowL x y d = low x y d := by
  have hg : 0 < gz (gz x y) d := gz_pos h
  obtain ⟨a, ha⟩ := g3_x x y d
  obtain ⟨b, hb⟩ := g3_y x y d
  obtain ⟨c, hc⟩ := g3_d x y d
  have hgn : gz (gz x y) d ≠ 0 := by omega
  unfold low lowL
  generalize gz (gz x y) d = g at *
  by_cases hd : 0 < d
  · simp only [if_pos hd, Int.one_mul]
  · simp only [if_neg hd]
    have n : ∀ k : Int, (g * k).fdiv (0 - g) = (-1 * (g * k)).fdiv g := fun k => by
      rw [show g * k = (0 - g) * (-k) by grind, fdiv_mul' (by omega), show -1 * ((0 - g) * -k) = g * (-k) by grind, fdiv_mul' hgn]
    rw [ha, hb, hc, n, n, n]

/-! ### values -/
def re (z : Num) : Rat := (z.x : Rat) / (z.d : Rat)
def im (z : Num) : Rat := (z.y : Rat) / (z.d : Rat)
theorem cast_ne {a : Int} (h : a ≠ 0) : (a : Rat) ≠ 0 := fun e => h (by exact_mod_cast e)
theorem re_low {x y d : Int} (h : d ≠ 0) : re (low x y d) = (x : Rat) / (d : Rat) := by
  obtain ⟨k, hk, ex, ey, ed, hp, _⟩ := low_spec (x := x) (y := y) h
  generalize low x y d = z at *
  unfold re
  have h1 : ((z.d : Int) : Rat) ≠ 0 := cast_ne (by omega)
  have h2 : ((k : Int) : Rat) ≠ 0 := cast_ne hk
  have e1 : (x : Rat) = (k : Rat) * (z.x : Rat) := by rw [ex]; simp [Rat.intCast_mul]
  have e2 : (d : Rat) = (k : Rat) * (z.d : Rat) := by rw [ed]; simp [Rat.intCast_mul]
  rw [e1, e2]
  grind
theorem im_low {x y d : Int} (h : d ≠ 0) : im (low x y d) = (y : Rat) / (d : Rat) := by
  obtain ⟨k, hk, ex, ey, ed, hp, _⟩ := low_spec (x := x) (y := y) h
  generalize low x y d = z at *
  unfold im
  have h1 : ((z.d : Int) : Rat) ≠ 0 := cast_ne (by omega)
  have h2 : ((k : Int) : Rat) ≠ 0 := cast_ne hk
  have e1 : (y : Rat) = (k : Rat) * (z.y : Rat) := by rw [ey]; simp [Rat.intCast_mul]
  have e2 : (d : Rat) = (k : Rat) * (z.d : Rat) := by rw [ed]; simp [Rat.intCast_mul]
  rw [e1, e2]
  grind
theorem ext {a b : Num} (ha : Can a) (hb : Can b) (h1 : re a = re b) (h2 : im a = im b) : a = b := by
  have na : ((a.d : Int) : Rat) ≠ 0 := cast_ne (by have := ha.1; omega)
  have nb : ((b.d : Int) : Rat) ≠ 0 := cast_ne (by have := hb.1; omega)
  unfold re at h1
  unfold im at h2
  refine can_ext ha hb ?_ ?_
  · have : (a.x : Rat) * (b.d : Rat) = (b.x : Rat) * (a.d : Rat) := by grind
    exact_mod_cast this
  · have : (a.y : Rat) * (b.d : Rat) = (b.y : Rat) * (a.d : Rat) := by grind
    exact_mod_cast this

/-! ### the operations -/
def zero : Num := ⟨0, 0, 1⟩
def one : Num := ⟨1, 0, 1⟩
def add (a b : Num) : Num := low (a.x * b.d + b.x * a.d) (a.y * b.d + b.y * a.d) (a.d * b.d)
def opp (a : Num) : Num := ⟨0 - a.x, 0 - a.y, a.d⟩
def mul (a b : Num) : Num := low (a.x * b.x - a.y * b.y) (a.x * b.y + a.y * b.x) (a.d * b.d)
def ovr (a : Num) : Num := ⟨a.x, 0 - a.y, a.d⟩
def inv (a : Num) : Num := low (a.x * a.d) (0 - a.y * a.d) (a.x * a.x + a.y * a.y)
def sub (a b : Num) : Num := add a (opp b)
theorem ne_d {a : Num} (h : Can a) : a.d ≠ 0 := by have := h.1; omega
theorem dd {a b : Num} (ha : Can a) (hb : Can b) : a.d * b.d ≠ 0 := Int.mul_ne_zero (ne_d ha) (ne_d hb)
theorem can_zero : Can zero := ⟨by decide, by decide⟩
theorem can_one : Can one := ⟨by decide, by decide⟩
theorem can_add {a b : Num} (ha : Can a) (hb : Can b) : Can (add a b) := low_can (dd ha hb)
theorem can_mul {a b : Num} (ha : Can a) (hb : Can b) : Can (mul a b) := low_can (dd ha hb)
theorem gz_neg (a b : Int) : gz (0 - a) b = gz a b := by unfold gz; rw [Int.zero_sub, Int.neg_gcd]
theorem gz_neg' (a b : Int) : gz a (0 - b) = gz a b := by unfold gz; rw [Int.zero_sub, Int.gcd_neg]
theorem can_opp {a : Num} (ha : Can a) : Can (opp a) := by
  refine ⟨ha.1, ?_⟩
  show gz (gz (0 - a.x) (0 - a.y)) a.d = 1
  rw [gz_neg, gz_neg']
  exact ha.2
theorem can_ovr {a : Num} (ha : Can a) : Can (ovr a) := by
  refine ⟨ha.1, ?_⟩
  show gz (gz a.x (0 - a.y)) a.d = 1
  rw [gz_neg']
  exact ha.2
theorem can_sub {a b : Num} (ha : Can a) (hb : Can b) : Can (sub a b) := can_add ha (can_opp hb)
theorem sq_nn (a : Int) : 0 ≤ a * a := by
  rcases Int.le_total 0 a with h | h
  · exact Int.mul_nonneg h h
  · have := Int.mul_nonneg (a := -a) (b := -a) (by omega) (by omega)
    rwa [Int.neg_mul_neg] at this
theorem sq_ne {a : Num} (hz : ¬ (a.x = 0 ∧ a.y = 0)) : a.x * a.x + a.y * a.y ≠ 0 := by
  intro h
  have h1 : 0 ≤ a.x * a.x := sq_nn _
  have h2 : 0 ≤ a.y * a.y := sq_nn _
  have e1 : a.x * a.x = 0 := by omega
  have e2 : a.y * a.y = 0 := by omega
  exact hz ⟨by rcases Int.mul_eq_zero.mp e1 with h | h <;> exact h, by rcases Int.mul_eq_zero.mp e2 with h | h <;> exact h⟩
/-- not 0 -/
def NZ (a : Num) : Prop := ¬ (a.x = 0 ∧ a.y = 0)
theorem can_inv {a : Num} (hz : NZ a) : Can (inv a) := low_can (sq_ne hz)
section
variable {a b : Num}
theorem rat_d (h : Can a) : ((a.d : Int) : Rat) ≠ 0 := cast_ne (ne_d h)
theorem re_add (ha : Can a) (hb : Can b) : re (add a b) = re a + re b := by
  unfold add
  rw [re_low (dd ha hb)]
  have n1 := rat_d ha
  have n2 := rat_d hb
  unfold re
  simp only [Rat.intCast_add, Rat.intCast_mul]
  grind
theorem im_add (ha : Can a) (hb : Can b) : im (add a b) = im a + im b := by
  unfold add
  rw [im_low (dd ha hb)]
  have n1 := rat_d ha
  have n2 := rat_d hb
  unfold im
  simp only [Rat.intCast_add, Rat.intCast_mul]
  grind
theorem re_opp : re (opp a) = - re a := by
  unfold re opp
  simp only [Rat.intCast_sub, Int.zero_sub, Rat.intCast_neg]
  grind
theorem im_opp : im (opp a) = - im a := by
  unfold im opp
  simp only [Rat.intCast_sub, Int.zero_sub, Rat.intCast_neg]
  grind
theorem re_sub (ha : Can a) (hb : Can b) : re (sub a b) = re a - re b := by
  unfold sub; rw [re_add ha (can_opp hb), re_opp]; grind
theorem im_sub (ha : Can a) (hb : Can b) : im (sub a b) = im a - im b := by
  unfold sub; rw [im_add ha (can_opp hb), im_opp]; grind
theorem re_mul (ha : Can a) (hb : Can b) : re (mul a b) = re a * re b - im a * im b := by
  unfold mul
  rw [re_low (dd ha hb)]
  have n1 := rat_d ha
  have n2 := rat_d hb
  unfold re im
  simp only [Rat.intCast_sub, Rat.intCast_mul]
  grind
theorem im_mul (ha : Can a) (hb : Can b) : im (mul a b) = re a * im b + im a * re b := by
  unfold mul
  rw [im_low (dd ha hb)]
  have n1 := rat_d ha
  have n2 := rat_d hb
  unfold re im
  simp only [Rat.intCast_add, Rat.intCast_mul]
  grind
theorem re_ovr : re (ovr a) = re a := rfl
theorem im_ovr : im (ovr a) = - im a := by
  unfold im ovr
  simp only [Int.zero_sub, Rat.intCast_neg]
  grind
/-- the square of the size -/
def nrm (a : Num) : Rat := re a * re a + im a * im a
theorem nz_iff (ha : Can a) : NZ a ↔ nrm a ≠ 0 := by
  have n1 := rat_d ha
  unfold NZ nrm re im
  constructor
  · intro h e
    have h2 : ((a.x * a.x + a.y * a.y : Int) : Rat) = 0 := by
      simp only [Rat.intCast_add, Rat.intCast_mul]
      grind
    exact sq_ne h (by exact_mod_cast h2)
  · intro h ⟨e1, e2⟩
    apply h
    rw [e1, e2]
    have z : ((0 : Int) : Rat) = 0 := rfl
    rw [z]
    grind
theorem re_inv (ha : Can a) (hz : NZ a) : re (inv a) = re a / nrm a := by
  unfold inv
  rw [re_low (sq_ne hz)]
  have n1 := rat_d ha
  have n2 : ((a.x * a.x + a.y * a.y : Int) : Rat) ≠ 0 := cast_ne (sq_ne hz)
  simp only [Rat.intCast_add, Rat.intCast_mul] at n2 ⊢
  unfold nrm re im
  grind
theorem im_inv (ha : Can a) (hz : NZ a) : im (inv a) = - im a / nrm a := by
  unfold inv
  rw [im_low (sq_ne hz)]
  have n1 := rat_d ha
  have n2 : ((a.x * a.x + a.y * a.y : Int) : Rat) ≠ 0 := cast_ne (sq_ne hz)
  simp only [Rat.intCast_add, Rat.intCast_mul, Int.zero_sub, Rat.intCast_neg] at n2 ⊢
  unfold nrm re im
  grind
end
theorem re_zero : re zero = 0 := by decide +kernel
theorem im_zero : im zero = 0 := by decide +kernel
theorem re_one : re one = 1 := by decide +kernel
theorem im_one : im one = 0 := by decide +kernel
end NM

/-! ## SP -/
set_option Elab.async false
set_option linter.all false
set_option maxRecDepth 100000
set_option maxHeartbeats 4000000
/-! What each def is worth: specs over data. -/
namespace L3
open PySem NM L2

structure CL where
  Copy : Addr
  Drawing : Addr
  Arm : Addr
  Chain : Addr
  Reader : Addr
  /-- the law's table of code objects -/
  tab : Addr
  /-- the classes of errors -/
  gx : Str → Addr

def numD (z : Num) : D := .tup [.int z.x, .int z.y, .int z.d]
def c_ZERO : D := .tup [.int 0, .int 0, .int 1]
def c_ONE : D := .tup [.int 1, .int 0, .int 1]
/-- sizes of a number -/
def Sz (n : Nat) (z : Num) : Prop := Bt n z.x ∧ Bt n z.y ∧ Bt n z.d
theorem Bt.mono {n m : Nat} {i : Int} (h : Bt n i) (l : n ≤ m) : Bt m i := Nat.lt_of_lt_of_le h (Nat.pow_le_pow_right (by decide) l)
theorem Bt.mul {n m : Nat} {i j : Int} (h : Bt n i) (l : Bt m j) : Bt (n + m) (i * j) := wide_lt h l
theorem Bt.add {n : Nat} {i j : Int} (h : Bt n i) (l : Bt n j) : Bt (n + 1) (i + j) := by
  unfold Bt at *
  rw [Nat.pow_succ]
  omega
theorem Bt.sub {n : Nat} {i j : Int} (h : Bt n i) (l : Bt n j) : Bt (n + 1) (i - j) := by
  unfold Bt at *
  rw [Nat.pow_succ]
  omega
theorem Bt.neg {n : Nat} {i : Int} (h : Bt n i) : Bt n (0 - i) := by
  unfold Bt at *
  omega
theorem Bt.le {n : Nat} {i j : Int} (h : Bt n i) (l : j.natAbs ≤ i.natAbs) : Bt n j := Nat.lt_of_le_of_lt l h
theorem Sz.mono {n m : Nat} {z : Num} (h : Sz n z) (l : n ≤ m) : Sz m z := ⟨h.1.mono l, h.2.1.mono l, h.2.2.mono l⟩
theorem low_sz {n : Nat} {x y d : Int} (h : d ≠ 0) (hx : Bt n x) (hy : Bt n y) (hd : Bt n d) : Sz n (low x y d) := by
  obtain ⟨k, hk, ex, ey, ed, _⟩ := low_spec (x := x) (y := y) h
  have le : ∀ a : Int, a.natAbs ≤ (k * a).natAbs := fun a => by
    rw [Int.natAbs_mul]
    exact Nat.le_mul_of_pos_left _ (by omega)
  refine ⟨hx.le ?_, hy.le ?_, hd.le ?_⟩
  · conv => rhs; rw [ex]
    exact le _
  · conv => rhs; rw [ey]
    exact le _
  · conv => rhs; rw [ed]
    exact le _
theorem Sz.add {n m : Nat} {a b : Num} (ha : Can a) (hb : Can b) (h : Sz n a) (l : Sz m b) : Sz (n + m + 1) (NM.add a b) :=
  low_sz (dd ha hb) ((h.1.mul l.2.2).add ((l.1.mul h.2.2).mono (by omega))) ((h.2.1.mul l.2.2).add ((l.2.1.mul h.2.2).mono (by omega))) ((h.2.2.mul l.2.2).mono (by omega))
theorem Sz.mul {n m : Nat} {a b : Num} (ha : Can a) (hb : Can b) (h : Sz n a) (l : Sz m b) : Sz (n + m + 1) (NM.mul a b) :=
  low_sz (dd ha hb) ((h.1.mul l.1).sub (h.2.1.mul l.2.1)) ((h.1.mul l.2.1).add (h.2.1.mul l.1)) ((h.2.2.mul l.2.2).mono (by omega))
theorem Sz.inv {n : Nat} {a : Num} (hz : NZ a) (h : Sz n a) : Sz (n + n + 1) (NM.inv a) :=
  low_sz (sq_ne hz) ((h.1.mul h.2.2).mono (by omega)) ((h.2.1.mul h.2.2).neg.mono (by omega)) ((h.1.mul h.1).add (h.2.1.mul h.2.1))
theorem Sz.ovr {n : Nat} {a : Num} (h : Sz n a) : Sz n (NM.ovr a) := ⟨h.1, h.2.1.neg, h.2.2⟩
theorem Sz.opp {n : Nat} {a : Num} (h : Sz n a) : Sz n (NM.opp a) := ⟨h.1.neg, h.2.1.neg, h.2.2⟩

/-! ### numbers -/
def sp_is_int (Γ : CL) : GN := fun ds μ R => match ds with
  | [.int _] => R (.bl true) μ
  | [.bl _] => R (.bl false) μ
  | [.non] => R (.bl false) μ
  | [.str _] => R (.bl false) μ
  | [.tup _] => R (.bl false) μ
  | [.lst _] => R (.bl false) μ
  | _ => False
def sp_common_divisor (Γ : CL) : GN := fun ds μ R => match ds with
  | [.int a, .int b] => R (.int (gz a b)) μ
  | _ => False
def ratD (n d : Int) : D := .tup [.int (n.fdiv (gz n d)), .int (d.fdiv (gz n d))]
def sp_ratio (Γ : CL) : GN := fun ds μ R => match ds with
  | [.int a, .int b] => b ≠ 0 ∧ Bt big b ∧ R (ratD a b) μ
  | _ => False
def sp_lowest (Γ : CL) : GN := fun ds μ R => match ds with
  | [.int x, .int y, .int d] => d ≠ 0 ∧ Bt big x ∧ Bt big y ∧ Bt big d ∧ R (numD (low x y d)) μ
  | _ => False
/-- data whose kind is known -/
def okD : D → Bool
  | .non => true
  | .bl _ => true
  | .int _ => true
  | .str _ => true
  | .tup _ => true
  | .lst _ => true
  | _ => false
def isNumD : D → Bool
  | .tup [.int x, .int y, .int d] => decide (0 < d) && decide (low x y d = ⟨x, y, d⟩)
  | _ => false
def numOk (d : D) : Prop := okD d = true ∧ ∀ ds, d = .tup ds → ds.all okD = true ∧ ∀ x y z, ds = [.int x, .int y, .int z] → Bt big x ∧ Bt big y ∧ Bt big z
def sp_is_number (Γ : CL) : GN := fun ds μ R => match ds with
  | [d] => numOk d ∧ R (.bl (isNumD d)) μ
  | _ => False
abbrev half : Nat := 2000
def sp_added (Γ : CL) : GN := fun ds μ R => match ds with
  | [.tup [.int x, .int y, .int d], .tup [.int u, .int v, .int w]] => d ≠ 0 ∧ w ≠ 0 ∧ Sz half ⟨x, y, d⟩ ∧ Sz half ⟨u, v, w⟩ ∧ R (numD (add ⟨x, y, d⟩ ⟨u, v, w⟩)) μ
  | _ => False
def sp_multiplied (Γ : CL) : GN := fun ds μ R => match ds with
  | [.tup [.int x, .int y, .int d], .tup [.int u, .int v, .int w]] => d ≠ 0 ∧ w ≠ 0 ∧ Sz half ⟨x, y, d⟩ ∧ Sz half ⟨u, v, w⟩ ∧ R (numD (mul ⟨x, y, d⟩ ⟨u, v, w⟩)) μ
  | _ => False
def sp_turned_over (Γ : CL) : GN := fun ds μ R => match ds with
  | [.tup [.int x, .int y, .int d]] => R (numD (ovr ⟨x, y, d⟩)) μ
  | _ => False
/-! ### copies -/
def sp_check_spot (Γ : CL) : GN := fun ds μ R => match ds with
  | [.tup [.int x, .int y, .int d]] => Can ⟨x, y, d⟩ ∧ Sz big ⟨x, y, d⟩ ∧ R .non μ
  | _ => False
/-- a copy -/
structure Cp where
  t : Num
  s : Num
  m : Bool
  deriving DecidableEq
def copyFs (c : Cp) : List (Str × D) := [("turn", numD c.t), ("shift", numD c.s), ("mirrored", .bl c.m), ("key", .tup [numD c.t, numD c.s, .bl c.m])]
def copyD (Γ : CL) (c : Cp) : D := .ins Γ.Copy (copyFs c)
/-- one that can be -/
def Cp.ok (c : Cp) : Prop := Can c.t ∧ NZ c.t ∧ Can c.s
def Cp.sz (n : Nat) (c : Cp) : Prop := Sz n c.t ∧ Sz n c.s
def Cp.at (c : Cp) (z : Num) : Num := add (mul c.t (if c.m then ovr z else z)) c.s
def Cp.comp (a b : Cp) : Cp := ⟨mul b.t (if b.m then ovr a.t else a.t), b.at a.s, a.m != b.m⟩
def Cp.inv (a : Cp) : Cp :=
  let back := NM.inv (if a.m then ovr a.t else a.t)
  ⟨back, opp (mul back (if a.m then ovr a.s else a.s)), a.m⟩
abbrev quart : Nat := 900
/-! ### the law's own source of numbers -/
/-- the source: a list of ints, the first not negative, the second too -/
def RL (ds : List D) : Prop := ∃ (s p : Int) (r : List Int), ds = .int s :: .int p :: r.map D.int ∧ 0 ≤ s ∧ s < 2147483648 ∧ 0 ≤ p ∧ ∀ x ∈ r, 0 ≤ x
def sp_law_random (Γ : CL) : GN := fun ds μ R => ∃ (ns : List Int) (salt : Int), ds = [.scr (ns.map D.int), .int salt] ∧ 0 ≤ salt ∧ salt < 1000 ∧ ns.length ≤ 63 ∧ ∀ g xs, μ g = none → RL xs → R (.ref g) (updM μ g (.lst xs))
def sp_law_below (Γ : CL) : GN := fun ds μ R => ∃ g n xs, ds = [.ref g, .int n] ∧ 0 < n ∧ n < 1000 ∧ μ g = some (.lst xs) ∧ RL xs ∧ ∀ r ys, 0 ≤ r → r < n → RL ys → R (.int r) (updM μ g (.lst ys))
/-- a small number in lowest terms -/
def Small (z : Num) : Prop := Can z ∧ Sz 5 z
def toldD (c : Cp) : D := .tup [numD c.t, numD c.s, .bl c.m]
def Cp.small (c : Cp) : Prop := Small c.t ∧ NZ c.t ∧ Small c.s
def sp_law_common (Γ : CL) : GN := sp_common_divisor Γ
def sp_law_lowest (Γ : CL) : GN := sp_lowest Γ
def sp_law_plus (Γ : CL) : GN := sp_added Γ
def sp_law_times (Γ : CL) : GN := sp_multiplied Γ
def sp_law_over (Γ : CL) : GN := sp_turned_over Γ
def sp_law_carried (Γ : CL) : GN := fun ds μ R => ∃ c z, ds = [toldD c, numD z] ∧ c.ok ∧ c.sz quart ∧ Can z ∧ Sz quart z ∧ R (numD (c.at z)) μ
mutual
def same : D → D → Bool
  | .non, .non => true
  | .bl a, .bl b => a == b
  | .int a, .int b => a == b
  | .str a, .str b => a == b
  | .tup as, .tup bs => sames as bs
  | .lst as, .lst bs => sames as bs
  | _, _ => false
def sames : List D → List D → Bool
  | [], [] => true
  | a :: as, b :: bs => same a b && sames as bs
  | _, _ => false
end
/-- pure data no deeper than n, no row too long -/
def okq : Nat → D → Bool
  | _, .non => true
  | _, .bl _ => true
  | _, .int _ => true
  | _, .str x => PyData.strOk x
  | n + 1, .tup ds => decide (ds.length ≤ 1000000) && ds.all (okq n)
  | n + 1, .lst ds => decide (ds.length ≤ 1000000) && ds.all (okq n)
  | _, _ => false
def eqSp (n : Nat) : GN := fun ds μ R => match ds with
  | [a, e] => okq n a = true ∧ okq n e = true ∧ R (.bl (same a e)) μ
  | _ => False
def sp_law_equal (Γ : CL) : Nat → GN
  | 0 => fun _ _ _ => False
  | n + 1 => eqSp n
/-! ### spots that are kept -/
def szN (z : Num) : Num := low (z.x * z.x + z.y * z.y) 0 (z.d * z.d)
def lineOf (a b c : Int) : Int × Int × Int := if a ≠ 0 then ((low c b a).d, (low c b a).y, (low c b a).x) else (0, (low c 0 b).d, (low c 0 b).x)
inductive Kp where
  | all
  | none
  | spot (z : Num)
  | line (a b c : Int)
  deriving DecidableEq
def img : Num := ⟨0, 1, 1⟩
def Kp.D : Kp → L3.D
  | .all => .tup [.str "all"]
  | .none => .tup [.str "none"]
  | .spot z => .tup [.str "spot", numD z]
  | .line a b c => .tup [.str "line", .int a, .int b, .int c]
/-! ### copies done several times -/
def Cp.id : Cp := ⟨one, zero, false⟩
def Cp.pow (c : Cp) : Nat → Cp
  | 0 => Cp.id
  | n + 1 => (c.pow n).comp c
def Cp.stp (c : Cp) (i : Int) : Cp := if i < 0 then c.inv else c
/-! ### arms and chains -/
structure Am where
  p : Num
  t : Num
  lo : Int
  hi : Int
  m : Bool
  deriving DecidableEq
def Am.ok (a : Am) : Prop := Can a.p ∧ Can a.t ∧ NZ a.t ∧ 0 ≤ a.lo ∧ a.lo ≤ a.hi ∧ a.hi ≤ 1000
def Am.sz (n : Nat) (a : Am) : Prop := Sz n a.p ∧ Sz n a.t
def Am.small (a : Am) : Prop := Small a.p ∧ Small a.t ∧ NZ a.t ∧ 0 ≤ a.lo ∧ a.lo ≤ 2 ∧ a.lo ≤ a.hi ∧ a.hi ≤ 101
def aboutC (p t : Num) (m : Bool) : Cp := ⟨t, sub p (mul t (if m then ovr p else p)), m⟩
def Am.eff (a : Am) : Cp := aboutC a.p a.t a.m
def effFrom : Cp → List Am → Cp
  | c, [] => c
  | c, a :: r => effFrom (c.comp a.eff) r
def effAll (as : List Am) : Cp := effFrom Cp.id as
def sp_law_step (Γ : CL) : GN := fun ds μ R => ∃ g n xs, ds = [.ref g, .int n] ∧ 0 < n ∧ n ≤ 10 ∧ μ g = some (.lst xs) ∧ RL xs ∧ ∀ x y ys, -n ≤ x → x ≤ n → -n ≤ y → y ≤ n → RL ys → R (numD ⟨x, y, 1⟩) (updM μ g (.lst ys))
/-! ### zones -/
/-- a fraction, told as a number without second part -/
def frD (z : Num) : D := .tup [.int z.x, .int z.d]
structure Rg where
  c : Num
  lo : Num
  hi : Num
  deriving DecidableEq
def rgD (r : Rg) : D := .tup [numD r.c, frD r.lo, frD r.hi]
def zoneOf (c : Cp) (a : Am) : Rg := ⟨c.inv.at a.p, low (a.lo * a.lo * (szN c.t).d) 0 (szN c.t).x, low (a.hi * a.hi * (szN c.t).d) 0 (szN c.t).x⟩
def zonesL : Cp → List Am → List Rg
  | _, [] => []
  | c, a :: r => zoneOf c a :: zonesL (c.comp a.eff) r
def sp_law_ratio (Γ : CL) : GN := fun ds μ R => match ds with
  | [.int p, .int q] => q ≠ 0 ∧ Bt big p ∧ Bt big q ∧ R (frD (low p 0 q)) μ
  | _ => False
def sp_law_size (Γ : CL) : GN := fun ds μ R => match ds with
  | [.tup [.int x, .int y, .int d]] => d ≠ 0 ∧ Sz half ⟨x, y, d⟩ ∧ R (frD (szN ⟨x, y, d⟩)) μ
  | _ => False
/-! ### poles -/
def pairD (p : Num × Num) : D := .tup [numD p.1, numD p.2]
end L3

/-! ## RB -/
set_option Elab.async false
set_option linter.all false
set_option maxRecDepth 100000
set_option maxHeartbeats 4000000
namespace L3
open PySem NM L2
/-- is_int(value) : 0 value -/
def rd_is_int (Γ : CL) : RS := (rRet (rAndV (rCl gIsi (rCons (rVar 0) (rCons (rC (.ty "int")) rNil))) (rNotV (rCl gIsi (rCons (rVar 0) (rCons (rC (.ty "bool")) rNil))))))
/-- common_divisor(one, other) : 0 one, 1 other -/
def rd_common_divisor (Γ : CL) : RS := (rSeq (rPar 0 1 (rCons (rCl gAbs (rCons (rVar 0) rNil)) (rCons (rCl gAbs (rCons (rVar 1) rNil)) rNil)))
 (rSeq (rWhile (rB (rOp gGt (rVar 1) (rC (.int 0)))) (rPar 0 1 (rCons (rVar 1) (rCons (rOp gMod (rVar 0) (rVar 1)) rNil))))
 (rRet (rVar 0))))
/-- ratio(numerator, denominator) : 0 numerator, 1 denominator, 2 divisor -/
def rd_ratio (Γ : CL) : RS := (rSeq (rAsg (rCl (sp_common_divisor Γ) (rCons (rVar 0) (rCons (rVar 1) rNil))) (rGN 2))
 (rRet (rTup (rCons (rOp gDiv (rVar 0) (rVar 2)) (rCons (rOp gDiv (rVar 1) (rVar 2)) rNil)))))
/-- lowest(x, y, d) : 0 x, 1 y, 2 d, 3 divisor, 4 sign -/
def rd_lowest (Γ : CL) : RS := (rSeq (rAsg (rCl (sp_common_divisor Γ) (rCons (rCl (sp_common_divisor Γ) (rCons (rVar 0) (rCons (rVar 1) rNil))) (rCons (rVar 2) rNil))) (rGN 3))
 (rSeq (rAsg (rIfE (rB (rOp gGt (rVar 2) (rC (.int 0)))) (rC (.int 1)) (rUn (gU fun i => .int (-i)) (rC (.int 1)))) (rGN 4))
 (rRet (rTup (rCons (rOp gDiv (rOp gMul (rVar 4) (rVar 0)) (rVar 3)) (rCons (rOp gDiv (rOp gMul (rVar 4) (rVar 1)) (rVar 3)) (rCons (rOp gDiv (rOp gMul (rVar 4) (rVar 2)) (rVar 3)) rNil)))))))
/-- is_number(value) : 0 value, 1 part -/
def rd_is_number (Γ : CL) : RS := (rSeq (rIf (rOr (rNot (rB (rCl gIsi (rCons (rVar 0) (rCons (rC (.ty "tuple")) rNil))))) (rOr (rB (rOp gNe (rCl gLen (rCons (rVar 0) rNil)) (rC (.int 3)))) (rNot (rB (rCl gAll (rCons (rLc (rITup (rVar 0)) (rGN 1) rTrue (rCl (sp_is_int Γ) (rCons (rVar 1) rNil)) [1]) rNil))))))
 (rRet (rC (.bl false)))
 rNext)
 (rRet (rAndV (rOp gGt (rOp gIx (rVar 0) (rC (.int 2))) (rC (.int 0))) (rOp gEq (rCl (sp_lowest Γ) (rStar (rVar 0) rNil)) (rVar 0)))))
/-- turned_over(one) : 0 one -/
def rd_turned_over (Γ : CL) : RS := (rRet (rTup (rCons (rOp gIx (rVar 0) (rC (.int 0))) (rCons (rOp gSub (rC (.int 0)) (rOp gIx (rVar 0) (rC (.int 1)))) (rCons (rOp gIx (rVar 0) (rC (.int 2))) rNil)))))
/-- check_spot(value) : 0 value -/
def rd_check_spot (Γ : CL) : RS := (rIf (rNot (rB (rCl (sp_is_number Γ) (rCons (rVar 0) rNil))))
 rNever
 rNext)
/-- _law_random(_law_script, _law_salt) : 0 _law_script, 1 _law_salt, 2 _law_seed, 3 _law_cell -/
def rd_law_random (Γ : CL) : RS := (rSeq (rAsg (rVar 1) (rGN 2))
 (rSeq (rFor (rILst (rVar 0)) (rGN 3)
 (rAsg (rOp gMod (rOp gAdd (rOp gMul (rVar 2) (rC (.int 31))) (rCl gAbs (rCons (rVar 3) rNil))) (rC (.int 2147483647))) (rGN 2)))
 (rRet (rOp gAddM (rLst (rCons (rVar 2) (rCons (rC (.int 0)) rNil))) (rLc (rILst (rVar 0)) (rGN 3) (rB (rOp gGe (rVar 3) (rOp gPow (rC (.int 10)) (rC (.int 18))))) (rVar 3) [3])))))
/-- _law_below(_law_d, _law_limit) : 0 _law_d, 1 _law_limit, 2 _law_result -/
def rd_law_below (Γ : CL) : RS := (rSeq (rIf (rAnd (rB (rOp gEq (rOp gIx (rVar 0) (rC (.int 1))) (rC (.int 0)))) (rB (rOp gGt (rCl gLen (rCons (rVar 0) rNil)) (rC (.int 2)))))
 (rSetIx (rMut (rVar 0) (rCons (rC (.int 2)) rNil) gPopAt) (rVar 0) (rC (.int 1)))
 rNext)
 (rSeq (rIf (rB (rOp gGt (rOp gIx (rVar 0) (rC (.int 1))) (rC (.int 0))))
 (rSeq (rAsg (rOp gMod (rOp gIx (rVar 0) (rC (.int 1))) (rVar 1)) (rGN 2))
 (rSeq (rSetIx (rOp gDiv (rOp gIx (rVar 0) (rC (.int 1))) (rVar 1)) (rVar 0) (rC (.int 1)))
 (rRet (rVar 2))))
 rNext)
 (rSeq (rSetIx (rOp gMod (rOp gAdd (rOp gMul (rOp gIx (rVar 0) (rC (.int 0))) (rC (.int 48271))) (rC (.int 11))) (rC (.int 2147483647))) (rVar 0) (rC (.int 0)))
 (rRet (rOp gMod (rOp gDiv (rOp gIx (rVar 0) (rC (.int 0))) (rC (.int 64))) (rVar 1))))))
/-- _law_common(_law_one, _law_other) : 0 _law_one, 1 _law_other -/
def rd_law_common (Γ : CL) : RS := (rSeq (rPar 0 1 (rCons (rCl gAbs (rCons (rVar 0) rNil)) (rCons (rCl gAbs (rCons (rVar 1) rNil)) rNil)))
 (rSeq (rWhile (rB (rOp gGt (rVar 1) (rC (.int 0)))) (rPar 0 1 (rCons (rVar 1) (rCons (rOp gMod (rVar 0) (rVar 1)) rNil))))
 (rRet (rVar 0))))
/-- _law_lowest(_law_x, _law_y, _law_q) : 0 _law_x, 1 _law_y, 2 _law_q, 3 _law_common_now -/
def rd_law_lowest (Γ : CL) : RS := (rSeq (rAsg (rCl (sp_law_common Γ) (rCons (rCl (sp_law_common Γ) (rCons (rVar 0) (rCons (rVar 1) rNil))) (rCons (rVar 2) rNil))) (rGN 3))
 (rSeq (rAsg (rIfE (rB (rOp gGt (rVar 2) (rC (.int 0)))) (rVar 3) (rOp gSub (rC (.int 0)) (rVar 3))) (rGN 3))
 (rRet (rTup (rCons (rOp gDiv (rVar 0) (rVar 3)) (rCons (rOp gDiv (rVar 1) (rVar 3)) (rCons (rOp gDiv (rVar 2) (rVar 3)) rNil)))))))
/-- _law_equal(_law_actual, _law_expected) : 0 _law_actual, 1 _law_expected, 2 _law_k -/
def rd_law_equal (Γ : CL) (m : Nat) : RS := (rSeq (rIf (rB (rOp gIsN (rVar 1) (rC .non)))
 (rRet (rOp gIsN (rVar 0) (rC .non)))
 rNext)
 (rSeq (rIf (rB (rCl gIsi (rCons (rVar 1) (rCons (rC (.ty "bool")) rNil))))
 (rRet (rAndV (rCl gIsi (rCons (rVar 0) (rCons (rC (.ty "bool")) rNil))) (rOp gEq (rVar 0) (rVar 1))))
 rNext)
 (rSeq (rIf (rB (rCl gIsi (rCons (rVar 1) (rCons (rC (.ty "int")) rNil))))
 (rRet (rAndV (rCl gIsi (rCons (rVar 0) (rCons (rC (.ty "int")) rNil))) (rAndV (rNotV (rCl gIsi (rCons (rVar 0) (rCons (rC (.ty "bool")) rNil)))) (rOp gEq (rVar 0) (rVar 1)))))
 rNext)
 (rSeq (rIf (rB (rCl gIsi (rCons (rVar 1) (rCons (rC (.ty "str")) rNil))))
 (rRet (rAndV (rCl gIsi (rCons (rVar 0) (rCons (rC (.ty "str")) rNil))) (rOp gEq (rVar 0) (rVar 1))))
 rNext)
 (rSeq (rIf (rB (rOp gNe (rCl gIsi (rCons (rVar 1) (rCons (rC (.ty "tuple")) rNil))) (rCl gIsi (rCons (rVar 0) (rCons (rC (.ty "tuple")) rNil)))))
 (rRet (rC (.bl false)))
 rNext)
 (rSeq (rIf (rB (rOp gNe (rCl gIsi (rCons (rVar 1) (rCons (rC (.ty "list")) rNil))) (rCl gIsi (rCons (rVar 0) (rCons (rC (.ty "list")) rNil)))))
 (rRet (rC (.bl false)))
 rNext)
 (rSeq (rIf (rB (rOp gNe (rCl gLen (rCons (rVar 0) rNil)) (rCl gLen (rCons (rVar 1) rNil))))
 (rRet (rC (.bl false)))
 rNext)
 (rRet (rCl gAll (rCons (rLc (rIRng1 (rCons (rCl gLen (rCons (rVar 1) rNil)) rNil)) (rGN 2) rTrue (rCl (sp_law_equal Γ m) (rCons (rOp gIx (rVar 0) (rVar 2)) (rCons (rOp gIx (rVar 1) (rVar 2)) rNil))) [2]) rNil))))))))))
/-- _law_plus(_law_one, _law_other) : 0 _law_one, 1 _law_other, 2 _law_x, 3 _law_y -/
def rd_law_plus (Γ : CL) : RS := (rSeq (rAsg (rOp gAdd (rOp gMul (rOp gIx (rVar 0) (rC (.int 0))) (rOp gIx (rVar 1) (rC (.int 2)))) (rOp gMul (rOp gIx (rVar 1) (rC (.int 0))) (rOp gIx (rVar 0) (rC (.int 2))))) (rGN 2))
 (rSeq (rAsg (rOp gAdd (rOp gMul (rOp gIx (rVar 0) (rC (.int 1))) (rOp gIx (rVar 1) (rC (.int 2)))) (rOp gMul (rOp gIx (rVar 1) (rC (.int 1))) (rOp gIx (rVar 0) (rC (.int 2))))) (rGN 3))
 (rRet (rCl (sp_law_lowest Γ) (rCons (rVar 2) (rCons (rVar 3) (rCons (rOp gMul (rOp gIx (rVar 0) (rC (.int 2))) (rOp gIx (rVar 1) (rC (.int 2)))) rNil)))))))
/-- _law_times(_law_one, _law_other) : 0 _law_one, 1 _law_other, 2 _law_x, 3 _law_y -/
def rd_law_times (Γ : CL) : RS := (rSeq (rAsg (rOp gSub (rOp gMul (rOp gIx (rVar 0) (rC (.int 0))) (rOp gIx (rVar 1) (rC (.int 0)))) (rOp gMul (rOp gIx (rVar 0) (rC (.int 1))) (rOp gIx (rVar 1) (rC (.int 1))))) (rGN 2))
 (rSeq (rAsg (rOp gAdd (rOp gMul (rOp gIx (rVar 0) (rC (.int 0))) (rOp gIx (rVar 1) (rC (.int 1)))) (rOp gMul (rOp gIx (rVar 0) (rC (.int 1))) (rOp gIx (rVar 1) (rC (.int 0))))) (rGN 3))
 (rRet (rCl (sp_law_lowest Γ) (rCons (rVar 2) (rCons (rVar 3) (rCons (rOp gMul (rOp gIx (rVar 0) (rC (.int 2))) (rOp gIx (rVar 1) (rC (.int 2)))) rNil)))))))
/-- _law_over(_law_one) : 0 _law_one -/
def rd_law_over (Γ : CL) : RS := (rRet (rTup (rCons (rOp gIx (rVar 0) (rC (.int 0))) (rCons (rOp gSub (rC (.int 0)) (rOp gIx (rVar 0) (rC (.int 1)))) (rCons (rOp gIx (rVar 0) (rC (.int 2))) rNil)))))
/-- _law_carried(_law_told_here, _law_spot_here) : 0 _law_told_here, 1 _law_spot_here -/
def rd_law_carried (Γ : CL) : RS := (rRet (rCl (sp_law_plus Γ) (rCons (rCl (sp_law_times Γ) (rCons (rOp gIx (rVar 0) (rC (.int 0))) (rCons (rIfE (rB (rOp gIx (rVar 0) (rC (.int 2)))) (rCl (sp_law_over Γ) (rCons (rVar 1) rNil)) (rVar 1)) rNil))) (rCons (rOp gIx (rVar 0) (rC (.int 1))) rNil))))
/-- _law_step(_law_d, _law_size_now) : 0 _law_d, 1 _law_size_now -/
def rd_law_step (Γ : CL) : RS := (rRet (rTup (rCons (rOp gSub (rCl (sp_law_below Γ) (rCons (rVar 0) (rCons (rOp gAdd (rOp gMul (rC (.int 2)) (rVar 1)) (rC (.int 1))) rNil))) (rVar 1)) (rCons (rOp gSub (rCl (sp_law_below Γ) (rCons (rVar 0) (rCons (rOp gAdd (rOp gMul (rC (.int 2)) (rVar 1)) (rC (.int 1))) rNil))) (rVar 1)) (rCons (rC (.int 1)) rNil)))))
/-- _law_ratio(_law_p, _law_q) : 0 _law_p, 1 _law_q -/
def rd_law_ratio (Γ : CL) : RS := (rRet (rTup (rCons (rOp gIx (rCl (sp_law_lowest Γ) (rCons (rVar 0) (rCons (rC (.int 0)) (rCons (rVar 1) rNil)))) (rC (.int 0))) (rCons (rOp gIx (rCl (sp_law_lowest Γ) (rCons (rVar 0) (rCons (rC (.int 0)) (rCons (rVar 1) rNil)))) (rC (.int 2))) rNil))))
/-- _law_size(_law_one) : 0 _law_one -/
def rd_law_size (Γ : CL) : RS := (rRet (rCl (sp_law_ratio Γ) (rCons (rOp gAdd (rOp gMul (rOp gIx (rVar 0) (rC (.int 0))) (rOp gIx (rVar 0) (rC (.int 0)))) (rOp gMul (rOp gIx (rVar 0) (rC (.int 1))) (rOp gIx (rVar 0) (rC (.int 1))))) (rCons (rOp gMul (rOp gIx (rVar 0) (rC (.int 2))) (rOp gIx (rVar 0) (rC (.int 2)))) rNil))))
end L3

/-! ## V1 -/
set_option Elab.async false
set_option linter.all false
set_option maxRecDepth 100000
set_option maxHeartbeats 4000000
namespace L3
open PySem NM L2
abbrev fin (R : D → MH → Prop) : Ed := { nx := fun _ μ' => R .non μ', rt := R }
theorem ite_no {c : Prop} [Decidable c] {a b : Prop} (h : ¬ c) (q : b) : if c then a else b := by
  rw [if_neg h]
  exact q
theorem ite_yes {c : Prop} [Decidable c] {a b : Prop} (h : c) (q : a) : if c then a else b := by
  rw [if_pos h]
  exact q
theorem ln {n : Nat} (h : n ≤ 1000) : (n ≤ sizeLine) = True := eq_true (Nat.le_trans h (by decide))
local macro_rules | `(tactic| walk_at "d") => `(tactic| (try (simp only [rSeq, rAsg, rRet, rRetN, rDrop, rIf, rNext, rPar, rPar3, rCons, rNil, rStar, rCl, rOp, rUn, rVar, rC, rGN, rTup, rLst, rB, rAnd, rOr, rNot, rIfE, rAndV, rOrV, rNotV, rNever, rFld, rOwn, rMeth, rMakeK, rMakeD, rFldS, rFrz, rSetIx, rMut, rILst, rITup, rIRng1, rIRng2, rFor, rLc, rLcM, rTrue, gt, st, gI, gI0, gU, gIx, gEq, gNe, gAdd, gSub, gMul, gDiv, gMod, gPow, gLt, gLe, gGt, gGe, gIsi, gAbs, gLen, gAll, gIsN, gNotN, gOwn1, gOwn2, isNonD, seqD, res, atI_0, atI_1, atI_2, atI_3, atI_4, List.getElem?_cons_zero, List.getElem?_cons_succ, List.length_cons, List.length_nil, decide_eq_true_eq, List.map_cons, List.map_nil, startD, List.cons_append, List.nil_append, List.replicate, Nat.zero_add, numD, if_true, if_false, Bool.false_eq_true, and_self, true_and, ite_true, ite_false, Nat.reduceAdd, Nat.reduceSub, ln, Nat.reduceLeDiff, fin, String.reduceBEq, Bool.not_true, Bool.not_false, pureN, deq_int, deq_tt, deq_t0, deq_bl, List.all_cons, List.all_nil, Bool.and_true, Bool.true_and, Bool.and_eq_true, List.append_nil])))

theorem vc_is_int (Γ : CL) : ∀ ds μ R, sp_is_int Γ ds μ R → rd_is_int Γ (fin R) (startD 1 ds) μ := by
  intro ds μ R h
  unfold sp_is_int at h
  split at h <;> first | exact h.elim | skip
  all_goals (unfold rd_is_int; walk_at "d"; simp only [isiD]; exact ⟨by decide, by simpa [isiD, tyOK] using h⟩)

/-! ### gcd -/
theorem gz_step {a b : Int} (ha : 0 ≤ a) (hb : 0 < b) : gz b (a.fmod b) = gz a b := by
  rw [Int.fmod_eq_emod_of_nonneg _ (by omega)]
  obtain ⟨n, rfl⟩ := Int.eq_ofNat_of_zero_le ha
  obtain ⟨m, rfl⟩ := Int.eq_ofNat_of_zero_le (show 0 ≤ b by omega)
  unfold gz
  rw [show ((n : Int) % (m : Int)) = ((n % m : Nat) : Int) by simp]
  simp only [Int.gcd_natCast_natCast]
  rw [Nat.gcd_comm m (n % m), Nat.gcd_comm n m, ← Nat.gcd_rec]
theorem gz_abs (a b : Int) : gz (if a < 0 then -a else a) (if b < 0 then -b else b) = gz a b := by
  unfold gz
  split <;> split <;> simp
theorem gz_zero {a : Int} (h : 0 ≤ a) : gz a 0 = a := by
  unfold gz
  rw [Int.gcd_zero_right]
  omega
theorem vc_common_divisor (Γ : CL) : ∀ ds μ R, sp_common_divisor Γ ds μ R → rd_common_divisor Γ (fin R) (startD 2 ds) μ := by
  intro ds μ R h
  unfold sp_common_divisor at h
  split at h <;> first | exact h.elim | skip
  rename_i a b
  unfold rd_common_divisor
  walk_at "d"
  rw [← gz_abs a b] at h
  have na : 0 ≤ (if a < 0 then -a else a) := by split <;> omega
  have nb : 0 ≤ (if b < 0 then -b else b) := by split <;> omega
  generalize (if a < 0 then -a else a) = a at *
  generalize (if b < 0 then -b else b) = b at *
  refine ⟨fun ρ μ' => ∃ u v : Int, ρ = [some (.int u), some (.int v)] ∧ 0 ≤ u ∧ 0 ≤ v ∧ gz u v = gz a b ∧ μ' = μ, fun ρ _ => match gt ρ 1 with | some (.int v) => v.toNat | _ => 0, ⟨a, b, rfl, na, nb, rfl, rfl⟩, ?_⟩
  rintro ρ μ' ⟨u, v, rfl, hu, hv, e, rfl⟩
  walk_at "d"
  split
  · rename_i hp
    refine ⟨by omega, ⟨_, _, rfl, hv, ?_, ?_, trivial⟩, ?_⟩
    · rw [Int.fmod_eq_emod_of_nonneg _ hv]; exact Int.emod_nonneg _ (by omega)
    · rw [gz_step hu hp]; exact e
    · rw [Int.fmod_eq_emod_of_nonneg _ hv]
      have := Int.emod_lt_of_pos u hp
      omega
  · rename_i hp
    have : v = 0 := by omega
    subst this
    rw [gz_zero hu] at e
    rw [e]
    exact h
theorem bt_gz {n : Nat} {a b : Int} (h : b ≠ 0) (hb : Bt n b) : Bt n (gz a b) := by
  refine hb.le ?_
  have := Int.natAbs_dvd_natAbs.mpr (gz_dr a b)
  exact Nat.le_of_dvd (by omega) this
theorem gz_ne {a b : Int} (h : b ≠ 0) : gz a b ≠ 0 := by have := gz_pos (a := a) h; omega
theorem vc_ratio (Γ : CL) : ∀ ds μ R, sp_ratio Γ ds μ R → rd_ratio Γ (fin R) (startD 3 ds) μ := by
  intro ds μ R h
  unfold sp_ratio at h
  split at h <;> first | exact h.elim | skip
  obtain ⟨h1, h2, h⟩ := h
  unfold rd_ratio
  walk_at "d"
  simp only [sp_common_divisor]
  walk_at "d"
  exact ⟨⟨gz_ne h1, bt_gz h1 h2⟩, ⟨gz_ne h1, bt_gz h1 h2⟩, h⟩
theorem bt1 : Bt big 1 := Bt.mono (n := 1) (by unfold Bt; decide) (by decide)
theorem btm1 : Bt big (-1) := Bt.mono (n := 1) (by unfold Bt; decide) (by decide)
theorem vc_lowest (Γ : CL) : ∀ ds μ R, sp_lowest Γ ds μ R → rd_lowest Γ (fin R) (startD 5 ds) μ := by
  intro ds μ R h
  unfold sp_lowest at h
  split at h <;> first | exact h.elim | skip
  rename_i x y d
  obtain ⟨h1, hx, hy, hd, h⟩ := h
  unfold rd_lowest
  walk_at "d"
  simp only [sp_common_divisor]
  walk_at "d"
  have g1 := gz_ne (a := gz x y) h1
  have g2 := bt_gz (a := gz x y) h1 hd
  unfold low at h
  simp only [numD] at h
  split <;> rename_i hp
  · simp only [if_pos hp] at h
    exact ⟨⟨bt1, hx⟩, ⟨g1, g2⟩, ⟨bt1, hy⟩, ⟨g1, g2⟩, ⟨bt1, hd⟩, ⟨g1, g2⟩, h⟩
  · simp only [if_neg hp] at h
    exact ⟨⟨btm1, hx⟩, ⟨g1, g2⟩, ⟨btm1, hy⟩, ⟨g1, g2⟩, ⟨btm1, hd⟩, ⟨g1, g2⟩, h⟩
/-- a comprehension whose element and test are functions -/
theorem lcD_map {i : Nat} {f : RX} {ρ : EV} {g : D → D} {R : List D → MH → Prop} {μ : MH} : ∀ (ds acc : List D), (∀ d ∈ ds, ∀ Q : D → MH → Prop, Q (g d) μ → f (st ρ i d) μ Q) → R (acc ++ ds.map g) μ → lcD (rGN i) rTrue f tru ρ ds acc μ R
  | [], acc, _, h => by
    rw [List.map_nil, List.append_nil] at h
    exact ⟨trivial, h⟩
  | d :: r, acc, hf, h => by
    refine ⟨trivial, ?_⟩
    simp only [rGN, rTrue, if_true]
    refine hf d (List.mem_cons_self ..) _ ?_
    refine lcD_map r _ (fun e he => hf e (List.mem_cons_of_mem _ he)) ?_
    rw [List.append_assoc]
    exact h
def isIntD : D → Bool
  | .int _ => true
  | _ => false
theorem sp_is_int_i {Γ : CL} {d : D} {μ : MH} {Q : D → MH → Prop} (h : okD d = true) (q : Q (.bl (isIntD d)) μ) : sp_is_int Γ [d] μ Q := by
  cases d <;> first | exact q | cases h
theorem bools_map {f : D → Bool} : ∀ ds : List D, bools (ds.map fun d => .bl (f d)) = some (ds.map f)
  | [] => rfl
  | d :: r => by
    show (bools (r.map fun d => .bl (f d))).map (f d :: ·) = _
    rw [bools_map r]
    rfl
theorem can_iff {x y d : Int} : (0 < d ∧ low x y d = ⟨x, y, d⟩) ↔ Can ⟨x, y, d⟩ := by
  constructor
  · rintro ⟨h1, h2⟩
    have := low_can (x := x) (y := y) (d := d) (by omega)
    rwa [h2] at this
  · intro h
    exact ⟨h.1, low_self h⟩
theorem deq_num {a b : Num} : deq (numD a) (numD b) = decide (a = b) := by
  unfold numD
  rw [deq_tt, deq_tt, deq_tt, deq_t0, deq_int, deq_int, deq_int]
  by_cases h : a = b
  · subst h
    simp
  · rw [decide_eq_false h]
    obtain ⟨x, y, d⟩ := a
    obtain ⟨u, v, w⟩ := b
    by_cases h1 : x = u <;> by_cases h2 : y = v <;> by_cases h3 : d = w <;> simp_all
theorem all3 {ds : List D} (h : ds.length = 3) : ∃ a b c, ds = [a, b, c] := by
  match ds, h with
  | [a, b, c], _ => exact ⟨a, b, c, rfl⟩
theorem isNum_len {ds : List D} (h : ds.length ≠ 3) : isNumD (.tup ds) = false := by
  unfold isNumD
  split
  · rename_i e
    cases e
    exact absurd rfl h
  · rfl
theorem isNum_ints {a b c : D} (h : [a, b, c].all isIntD = false) : isNumD (.tup [a, b, c]) = false := by
  unfold isNumD
  split
  · rename_i e
    cases e
    cases h
  · rfl
theorem int_of {d : D} (h : isIntD d = true) : ∃ i, d = .int i := by
  cases d <;> first | exact ⟨_, rfl⟩ | cases h
theorem vc_is_number (Γ : CL) : ∀ ds μ R, sp_is_number Γ ds μ R → rd_is_number Γ (fin R) (startD 2 ds) μ := by
  intro ds μ R h
  unfold sp_is_number at h
  split at h <;> first | exact h.elim | skip
  rename_i d
  obtain ⟨⟨ok, h1⟩, h⟩ := h
  unfold rd_is_number
  walk_at "d"
  cases d with
  | tup ds =>
    obtain ⟨ha, hb⟩ := h1 ds rfl
    walk_at "d"
    simp only [isiD]
    refine ⟨by decide, ?_⟩
    walk_at "d"
    split
    · rename_i hl
      have hl' : ds.length ≠ 3 := fun e => by rw [e] at hl; simp at hl
      rw [isNum_len hl'] at h
      exact h
    · rename_i hl
      have hl' : ds.length = 3 := by
        have hl2 : ((ds.length : Int) == 3) = true := by simpa using hl
        have := eq_of_beq hl2
        omega
      obtain ⟨a, b, c, rfl⟩ := all3 hl'
      refine ⟨by show 3 ≤ sizeLine; decide, ?_⟩
      refine lcD_map (g := fun d => .bl (isIntD d)) _ _ (fun e he Q q => ?_) ?_
      · simp only [rms, rm, st, rCl, rCons, rVar, rNil, gt]
        exact sp_is_int_i (List.all_eq_true.mp ha e he) q
      · rw [List.nil_append, bools_map]
        dsimp only
        split
        · rename_i hn
          rw [isNum_ints (by cases q : [a, b, c].all isIntD with | false => rfl | true => (exfalso; simp_all))] at h
          exact h
        · rename_i hn
          have hn' : isIntD a = true ∧ isIntD b = true ∧ isIntD c = true := by simpa using hn
          obtain ⟨x, rfl⟩ := int_of hn'.1
          obtain ⟨y, rfl⟩ := int_of hn'.2.1
          obtain ⟨z, rfl⟩ := int_of hn'.2.2
          obtain ⟨b1, b2, b3⟩ := hb x y z rfl
          walk_at "d"
          split
          · rename_i hp
            simp only [sp_lowest]
            refine ⟨by omega, b1, b2, b3, ?_⟩
            walk_at "d"
            have e := deq_num (a := low x y z) (b := ⟨x, y, z⟩)
            simp only [numD, deq_tt, deq_t0, deq_int] at e
            have e2 : isNumD (.tup [.int x, .int y, .int z]) = decide (low x y z = ⟨x, y, z⟩) := by
              show (decide (0 < z) && _) = _
              rw [decide_eq_true hp, Bool.true_and]
            rw [e2, ← e] at h
            simpa using h
          · rename_i hp
            have e2 : isNumD (.tup [.int x, .int y, .int z]) = false := by
              show (decide (0 < z) && _) = _
              rw [decide_eq_false hp, Bool.false_and]
            rw [e2] at h
            exact h
  | non => walk_at "d"; simp only [isiD]; refine ⟨by decide, ?_⟩; walk_at "d"; exact h
  | int i => walk_at "d"; simp only [isiD]; refine ⟨by decide, ?_⟩; walk_at "d"; exact h
  | bl i => walk_at "d"; simp only [isiD]; refine ⟨by decide, ?_⟩; walk_at "d"; exact h
  | str i => walk_at "d"; simp only [isiD]; refine ⟨by decide, ?_⟩; walk_at "d"; exact h
  | lst i => walk_at "d"; simp only [isiD]; refine ⟨by decide, ?_⟩; walk_at "d"; exact h
  | _ => cases ok
/-! ### sums and products -/
theorem Sz.big {z : Num} (h : Sz half z) : Sz big z := h.mono (by decide)
theorem bb {a b : Int} (h : Bt half a) (l : Bt half b) : Bt big (a * b) := (h.mul l).mono (by decide)
theorem vc_turned_over (Γ : CL) : ∀ ds μ R, sp_turned_over Γ ds μ R → rd_turned_over Γ (fin R) (startD 1 ds) μ := by
  intro ds μ R h
  unfold sp_turned_over at h
  split at h <;> first | exact h.elim | skip
  unfold rd_turned_over
  walk_at "d"
  exact h
/-! ### spots -/
theorem is_number_i {Γ : CL} {z : Num} {μ : MH} {Q : D → MH → Prop} (h : Can z) (hz : Sz big z) (q : Q (.bl true) μ) : sp_is_number Γ [numD z] μ Q := by
  refine ⟨⟨rfl, fun ds e => ?_⟩, ?_⟩
  · cases e
    exact ⟨rfl, fun x y w e => by cases e; exact hz⟩
  · have : isNumD (numD z) = true := by
      show (decide (0 < z.d) && decide (low z.x z.y z.d = z)) = true
      rw [decide_eq_true h.1, decide_eq_true (low_self h)]
      rfl
    rw [this]
    exact q
theorem vc_check_spot (Γ : CL) : ∀ ds μ R, sp_check_spot Γ ds μ R → rd_check_spot Γ (fin R) (startD 1 ds) μ := by
  intro ds μ R h
  unfold sp_check_spot at h
  split at h <;> first | exact h.elim | skip
  obtain ⟨h1, h2, h⟩ := h
  unfold rd_check_spot
  walk_at "d"
  refine is_number_i (z := ⟨_, _, _⟩) h1 h2 ?_
  walk_at "d"
  exact h
end L3

/-! ## V2 -/
set_option Elab.async false
set_option linter.all false
set_option maxRecDepth 100000
set_option maxHeartbeats 4000000
namespace L3
open PySem NM L2
theorem lk_turn (c : Cp) : (copyFs c).lookup ("turn" : Str) = some (numD c.t) := rfl
theorem lk_shift (c : Cp) : (copyFs c).lookup ("shift" : Str) = some (numD c.s) := rfl
theorem lk_mirrored (c : Cp) : (copyFs c).lookup ("mirrored" : Str) = some (D.bl c.m) := rfl
theorem lk_key (c : Cp) : (copyFs c).lookup ("key" : Str) = some (D.tup [numD c.t, numD c.s, .bl c.m]) := rfl
local macro_rules | `(tactic| walk_at "d") => `(tactic| (try (simp only [rSeq, rAsg, rRet, rRetN, rDrop, rIf, rNext, rPar, rPar3, rCons, rNil, rStar, rCl, rOp, rUn, rVar, rC, rGN, rTup, rLst, rB, rAnd, rOr, rNot, rIfE, rAndV, rOrV, rNotV, rNever, rFld, rOwn, rMeth, rMakeK, rMakeD, rFldS, rFrz, rSetIx, rMut, rILst, rITup, rIRng1, rIRng2, rFor, rLc, rLcM, rTrue, gt, st, gI, gI0, gU, gIx, gEq, gNe, gAdd, gSub, gMul, gDiv, gMod, gPow, gLt, gLe, gGt, gGe, gIsi, gAbs, gLen, gAll, gIsN, gNotN, gOwn1, gOwn2, isNonD, seqD, res, atI_0, atI_1, atI_2, atI_3, atI_4, List.getElem?_cons_zero, List.getElem?_cons_succ, List.length_cons, List.length_nil, decide_eq_true_eq, List.map_cons, List.map_nil, startD, List.cons_append, List.nil_append, List.replicate, Nat.zero_add, numD, if_true, if_false, Bool.false_eq_true, and_self, true_and, ite_true, ite_false, Nat.reduceAdd, Nat.reduceSub, ln, Nat.reduceLeDiff, fin, String.reduceBEq, Bool.not_true, Bool.not_false, pureN, deq_int, deq_tt, deq_t0, deq_bl, List.all_cons, List.all_nil, Bool.and_true, Bool.true_and, Bool.and_eq_true, List.append_nil, lk_turn, lk_shift, lk_mirrored, lk_key, insD, updM_same, updM_updM, Option.map_some, Option.map_none])))
/-! ### copies: mathematics -/
theorem NZ_ovr {a : Num} (h : NZ a) : NZ (ovr a) := fun ⟨h1, h2⟩ => h ⟨h1, by have : 0 - a.y = 0 := h2; omega⟩
theorem nrm_mul {a b : Num} (ha : Can a) (hb : Can b) : nrm (mul a b) = nrm a * nrm b := by
  unfold nrm
  rw [re_mul ha hb, im_mul ha hb]
  grind
theorem NZ_mul {a b : Num} (ha : Can a) (hb : Can b) (na : NZ a) (nb : NZ b) : NZ (mul a b) := by
  rw [nz_iff (can_mul ha hb), nrm_mul ha hb]
  rw [nz_iff ha] at na
  rw [nz_iff hb] at nb
  grind
theorem NZ_inv {a : Num} (ha : Can a) (na : NZ a) : NZ (NM.inv a) := by
  rw [nz_iff (can_inv na)]
  have h := (nz_iff ha).mp na
  have e : nrm (NM.inv a) * nrm a = 1 := by
    unfold nrm
    rw [re_inv ha na, im_inv ha na]
    unfold nrm at *
    grind
  grind
def flip (m : Bool) (z : Num) : Num := if m then ovr z else z
theorem can_flip {m : Bool} {z : Num} (h : Can z) : Can (flip m z) := by
  unfold flip; split
  · exact can_ovr h
  · exact h
theorem NZ_flip {m : Bool} {z : Num} (h : NZ z) : NZ (flip m z) := by
  unfold flip; split
  · exact NZ_ovr h
  · exact h
theorem sz_flip {m : Bool} {n : Nat} {z : Num} (h : Sz n z) : Sz n (flip m z) := by
  unfold flip; split
  · exact h.ovr
  · exact h
theorem Cp.at_eq (c : Cp) (z : Num) : c.at z = add (mul c.t (flip c.m z)) c.s := rfl
theorem Cp.can_at {c : Cp} {z : Num} (h : c.ok) (hz : Can z) : Can (c.at z) := can_add (can_mul h.1 (can_flip hz)) h.2.2
theorem Cp.sz_at {c : Cp} {z : Num} {n m : Nat} (h : c.ok) (hz : Can z) (s : c.sz n) (l : Sz m z) : Sz (n + m + 1 + n + 1) (c.at z) :=
  Sz.add (can_mul h.1 (can_flip hz)) h.2.2 (Sz.mul h.1 (can_flip hz) s.1 (sz_flip l)) s.2
theorem Cp.comp_ok {a b : Cp} (ha : a.ok) (hb : b.ok) : (a.comp b).ok := ⟨can_mul hb.1 (can_flip ha.1), NZ_mul hb.1 (can_flip ha.1) hb.2.1 (NZ_flip ha.2.1), Cp.can_at hb ha.2.2⟩
theorem Cp.inv_ok {a : Cp} (h : a.ok) : a.inv.ok :=
  ⟨can_inv (NZ_flip h.2.1), NZ_inv (can_flip h.1) (NZ_flip h.2.1), can_opp (can_mul (can_inv (NZ_flip h.2.1)) (can_flip h.2.2))⟩
theorem Cp.sz.mono {a : Cp} {n m : Nat} (s : a.sz n) (h : n ≤ m) : a.sz m := ⟨s.1.mono h, s.2.mono h⟩
theorem Sz.one : Sz 1 one := ⟨by unfold Bt; decide, by unfold Bt; decide, by unfold Bt; decide⟩

/-! ### copies: the defs -/
end L3

/-! ## V3 -/
set_option Elab.async false
set_option linter.all false
set_option maxRecDepth 100000
set_option maxHeartbeats 4000000
namespace L3
open PySem NM L2
local macro_rules | `(tactic| walk_at "d") => `(tactic| (try (simp only [rSeq, rAsg, rRet, rRetN, rDrop, rIf, rNext, rPar, rPar3, rCons, rNil, rStar, rCl, rOp, rUn, rVar, rC, rGN, rTup, rLst, rB, rAnd, rOr, rNot, rIfE, rAndV, rOrV, rNotV, rNever, rFld, rOwn, rMeth, rMakeK, rMakeD, rFldS, rFrz, rSetIx, rMut, rILst, rITup, rIRng1, rIRng2, rFor, rLc, rLcM, rTrue, gt, st, gI, gI0, gU, gIx, gEq, gNe, gAdd, gSub, gMul, gDiv, gMod, gPow, gLt, gLe, gGt, gGe, gIsi, gAbs, gLen, gAll, gIsN, gNotN, gOwn1, gOwn2, isNonD, seqD, res, atI_0, atI_1, atI_2, atI_3, atI_4, List.getElem?_cons_zero, List.getElem?_cons_succ, List.length_cons, List.length_nil, decide_eq_true_eq, List.map_cons, List.map_nil, startD, List.cons_append, List.nil_append, List.replicate, Nat.zero_add, numD, if_true, if_false, Bool.false_eq_true, and_self, true_and, ite_true, ite_false, Nat.reduceAdd, Nat.reduceSub, ln, Nat.reduceLeDiff, fin, String.reduceBEq, Bool.not_true, Bool.not_false, pureN, deq_int, deq_tt, deq_t0, deq_bl, List.all_cons, List.all_nil, Bool.and_true, Bool.true_and, Bool.and_eq_true, List.append_nil, lk_turn, lk_shift, lk_mirrored, lk_key, insD, updM_same, updM_updM, Option.map_some, Option.map_none])))
theorem fmod_nn {a b : Int} (h : 0 < b) : 0 ≤ a.fmod b := by
  rw [Int.fmod_eq_emod_of_nonneg _ (by omega)]
  exact Int.emod_nonneg _ (by omega)
theorem fmod_lt {a b : Int} (h : 0 < b) : a.fmod b < b := by
  rw [Int.fmod_eq_emod_of_nonneg _ (by omega)]
  exact Int.emod_lt_of_pos _ h
theorem fdiv_nn {a b : Int} (ha : 0 ≤ a) (h : 0 < b) : 0 ≤ a.fdiv b := by
  rw [Int.fdiv_eq_ediv_of_nonneg _ (by omega)]
  exact Int.ediv_nonneg ha (by omega)
theorem bt_small {i : Int} {n : Nat} (h : i.natAbs < 1000) (l : 10 ≤ n) : Bt n i := Bt.mono (n := 10) (by unfold Bt; omega) l
theorem ixN_0 (n : Nat) : ixN (n + 1) 0 = some 0 := by
  unfold ixN
  rw [if_pos (by decide), if_pos (by omega)]
  rfl
theorem ixN_1 (n : Nat) : ixN (n + 1 + 1) 1 = some 1 := by
  unfold ixN
  rw [if_pos (by decide), if_pos (by omega)]
  rfl
theorem pop_2 (a b c : D) (r : List D) (R : D → List D → Prop) (h : R c (a :: b :: r)) : gPopAt (a :: b :: c :: r) [.int 2] R := by
  unfold gPopAt
  refine ⟨by decide, by decide, ?_⟩
  have : seqIndex? 2 (a :: b :: c :: r).length = some 2 := by
    unfold seqIndex?
    simp only [List.length_cons]
    rw [if_neg (show ¬ (2 : Int) < 0 by decide), decide_eq_true (show (0 : Int) ≤ 2 by decide), decide_eq_true (show (2 : Int) < ((r.length + 1 + 1 + 1 : Nat) : Int) by omega)]
    rfl
  rw [this]
  exact h
theorem RL.i {s p : Int} {r : List Int} (h1 : 0 ≤ s) (h2 : s < 2147483648) (h3 : 0 ≤ p) (h4 : ∀ x ∈ r, 0 ≤ x) : RL (.int s :: .int p :: r.map D.int) := ⟨s, p, r, rfl, h1, h2, h3, h4⟩
theorem bt_s {s : Int} (h1 : 0 ≤ s) (h2 : s < 2147483648) : Bt big s := Bt.mono (n := 31) (by unfold Bt; omega) (by decide)
theorem vc_law_below (Γ : CL) : ∀ ds μ R, sp_law_below Γ ds μ R → rd_law_below Γ (fin R) (startD 3 ds) μ := by
  rintro ds μ R ⟨g, n, xs, rfl, n0, n1, hm, ⟨s, p, r, rfl, hs, hs2, hp, hr⟩, h⟩
  unfold rd_law_below
  have cd : ∀ i, CDivX i n := fun i => ⟨by omega, bt_small (by omega) (by decide)⟩
  have cm : CBig s 48271 := ⟨bt_s hs hs2, Bt.mono (n := 31) (by unfold Bt; decide) (by decide)⟩
  have c64 : ∀ i, CDivX i 64 := fun i => ⟨by decide, bt_small (by decide) (by decide)⟩
  have n0' : n ≠ 0 := by omega
  have m1 : 0 ≤ (s * 48271 + 11).fmod 2147483647 := fmod_nn (by decide)
  have m2 : (s * 48271 + 11).fmod 2147483647 < 2147483647 := fmod_lt (by decide)
  by_cases p0 : p = 0
  · subst p0
    cases r with
    | nil =>
      walk_at "d"
      simp only [hm]
      walk_at "d"
      simp only [ixN_0, ixN_1, List.set_cons_zero, List.set_cons_succ]
      walk_at "d"
      exact ⟨cm, by decide, c64 _, n0', h _ _ (fmod_nn n0) (fmod_lt n0) (RL.i (r := []) m1 (by omega) hp (by simp))⟩
    | cons x r =>
      have hx := hr x (List.mem_cons_self ..)
      have hr' : ∀ y ∈ r, 0 ≤ y := fun y hy => hr y (List.mem_cons_of_mem _ hy)
      walk_at "d"
      simp only [hm]
      walk_at "d"
      rw [if_pos (by decide), if_pos (by omega)]
      refine pop_2 _ _ _ _ _ ?_
      simp only [List.length_cons, ixN_0, ixN_1, List.set_cons_zero, List.set_cons_succ]
      walk_at "d"
      split
      · exact ⟨n0', cd _, h _ _ (fmod_nn n0) (fmod_lt n0) (RL.i hs hs2 (fdiv_nn hx n0) hr')⟩
      · exact ⟨cm, by decide, c64 _, n0', h _ _ (fmod_nn n0) (fmod_lt n0) (RL.i m1 (by omega) hx hr')⟩
  · walk_at "d"
    simp only [hm]
    walk_at "d"
    rw [if_neg (by simpa using p0)]
    rw [if_pos (by omega)]
    simp only [ixN_0, ixN_1, List.set_cons_zero, List.set_cons_succ]
    exact ⟨n0', cd _, h _ _ (fmod_nn n0) (fmod_lt n0) (RL.i hs hs2 (fdiv_nn hp n0) hr)⟩

/-! ### random -/
theorem random_loop {D : Ed} {a b : Option L3.D} {μ : MH} : ∀ (ns : List Int) (seed : Int) (c : Option L3.D), 0 ≤ seed → seed < 2147483648 → (∀ s c, 0 ≤ s → s < 2147483648 → D.nx [a, b, some (.int s), c] μ) →
    forD (rGN 3) (rAsg (rOp gMod (rOp gAdd (rOp gMul (rVar 2) (rC (.int 31))) (rCl gAbs (rCons (rVar 3) rNil))) (rC (.int 2147483647))) (rGN 2)) tru D (ns.map L3.D.int) [a, b, some (.int seed), c] μ
  | [], seed, c, h1, h2, h => ⟨trivial, h _ _ h1 h2⟩
  | n :: ns, seed, c, h1, h2, h => by
    refine ⟨trivial, ?_⟩
    walk_at "d"
    refine ⟨⟨bt_s h1 h2, bt_small (by decide) (by decide)⟩, by decide, ?_⟩
    exact random_loop ns _ _ (fmod_nn (by decide)) (Int.lt_trans (fmod_lt (by decide)) (by decide)) h
theorem random_comp {ρ : EV} {μ : MH} {R : List D → MH → Prop} : ∀ (ns : List Int) (acc : List D), R (acc ++ (ns.filter fun n => decide ((1000000000000000000 : Int) ≤ n)).map D.int) μ →
    lcD (rGN 3) (rB (rOp gGe (rVar 3) (rOp gPow (rC (.int 10)) (rC (.int 18))))) (rVar 3) tru [ρ.getD 0 none, ρ.getD 1 none, ρ.getD 2 none, none] (ns.map D.int) acc μ R
  | [], acc, h => ⟨trivial, by simpa using h⟩
  | n :: ns, acc, h => by
    refine ⟨trivial, ?_⟩
    have e : (10 : Int) ^ (18 : Int).toNat = 1000000000000000000 := by decide +kernel
    walk_at "d"
    refine ⟨⟨by decide, by decide, by decide⟩, ?_⟩
    rw [e]
    rw [List.filter_cons] at h
    by_cases q : (1000000000000000000 : Int) ≤ n
    · rw [if_pos (decide_eq_true q)] at h
      rw [if_pos q]
      refine random_comp ns _ ?_
      rw [List.append_assoc]
      exact h
    · rw [if_neg (by simpa using q)] at h
      rw [if_neg q]
      exact random_comp ns _ h
theorem vc_law_random (Γ : CL) : ∀ ds μ R, sp_law_random Γ ds μ R → rd_law_random Γ (fin R) (startD 4 ds) μ := by
  rintro ds μ R ⟨ns, salt, rfl, h1, h2, h3, h⟩
  unfold rd_law_random
  walk_at "d"
  refine random_loop ns salt none h1 (by omega) fun s c s1 s2 => ?_
  simp only [rms, rm]
  refine ⟨Nat.le_trans (by rw [List.length_map]; exact h3) (show 63 ≤ sizeLine by decide), ?_⟩
  refine random_comp (ρ := [some (.scr (ns.map D.int)), some (.int salt), some (.int s), none]) ns [] ?_
  walk_at "d"
  simp only [gAddM, res]
  refine ⟨?_, fun g hg => h g _ hg ⟨s, 0, _, rfl, s1, s2, by decide, fun x hx => ?_⟩⟩
  · rw [List.length_map]
    have := List.length_filter_le (fun n => decide ((1000000000000000000 : Int) ≤ n)) ns
    show 0 + 1 + 1 + _ ≤ 2 ^ 24
    omega
  · have := (List.mem_filter.mp hx).2
    simp only [decide_eq_true_eq] at this
    omega

/-! ### random turns, spots, copies -/
theorem small_i {z : Num} (h1 : 0 < z.d) (h2 : gz (gz z.x z.y) z.d = 1) (h3 : z.x.natAbs < 32) (h4 : z.y.natAbs < 32) (h5 : z.d.natAbs < 32) : Small z := ⟨⟨h1, h2⟩, h3, h4, h5⟩
theorem vc_law_common (Γ : CL) : ∀ ds μ R, sp_law_common Γ ds μ R → rd_law_common Γ (fin R) (startD 2 ds) μ := vc_common_divisor Γ
theorem vc_law_lowest (Γ : CL) : ∀ ds μ R, sp_law_lowest Γ ds μ R → rd_law_lowest Γ (fin R) (startD 4 ds) μ := by
  intro ds μ R h
  unfold sp_law_lowest sp_lowest at h
  split at h <;> first | exact h.elim | skip
  rename_i x y d
  obtain ⟨h1, hx, hy, hd, h⟩ := h
  unfold rd_law_lowest
  walk_at "d"
  simp only [sp_law_common, sp_common_divisor]
  walk_at "d"
  have g1 := gz_ne (a := gz x y) h1
  have g2 := bt_gz (a := gz x y) h1 hd
  rw [← lowL_eq h1] at h
  unfold lowL at h
  simp only [numD] at h
  split <;> rename_i hp
  · simp only [if_pos hp] at h
    exact ⟨⟨g1, g2⟩, ⟨g1, g2⟩, ⟨g1, g2⟩, h⟩
  · simp only [if_neg hp] at h
    have g1' : 0 - gz (gz x y) d ≠ 0 := by omega
    exact ⟨⟨g1', g2.neg⟩, ⟨g1', g2.neg⟩, ⟨g1', g2.neg⟩, h⟩
/-! ### the law's own numbers -/
theorem vc_law_plus (Γ : CL) : ∀ ds μ R, sp_law_plus Γ ds μ R → rd_law_plus Γ (fin R) (startD 4 ds) μ := by
  intro ds μ R h
  unfold sp_law_plus sp_added at h
  split at h <;> first | exact h.elim | skip
  obtain ⟨h1, h2, ⟨x1, x2, x3⟩, ⟨y1, y2, y3⟩, h⟩ := h
  unfold rd_law_plus
  walk_at "d"
  simp only [sp_law_lowest, sp_lowest]
  have c : ∀ {a b : Int}, Bt half a → Bt half b → CBig a b := fun h l => ⟨h.mono (by decide), l.mono (by decide)⟩
  refine ⟨c x1 y3, c y1 x3, c x2 y3, c y2 x3, c x3 y3, Int.mul_ne_zero h1 h2, ((x1.mul y3).add (y1.mul x3)).mono (by decide), ((x2.mul y3).add (y2.mul x3)).mono (by decide), bb x3 y3, h⟩
theorem vc_law_times (Γ : CL) : ∀ ds μ R, sp_law_times Γ ds μ R → rd_law_times Γ (fin R) (startD 4 ds) μ := by
  intro ds μ R h
  unfold sp_law_times sp_multiplied at h
  split at h <;> first | exact h.elim | skip
  obtain ⟨h1, h2, ⟨x1, x2, x3⟩, ⟨y1, y2, y3⟩, h⟩ := h
  unfold rd_law_times
  walk_at "d"
  simp only [sp_law_lowest, sp_lowest]
  have c : ∀ {a b : Int}, Bt half a → Bt half b → CBig a b := fun h l => ⟨h.mono (by decide), l.mono (by decide)⟩
  refine ⟨c x1 y1, c x2 y2, c x1 y2, c x2 y1, c x3 y3, Int.mul_ne_zero h1 h2, ((x1.mul y1).sub (x2.mul y2)).mono (by decide), ((x1.mul y2).add (x2.mul y1)).mono (by decide), bb x3 y3, h⟩
theorem vc_law_over (Γ : CL) : ∀ ds μ R, sp_law_over Γ ds μ R → rd_law_over Γ (fin R) (startD 1 ds) μ := vc_turned_over Γ
theorem vc_law_carried (Γ : CL) : ∀ ds μ R, sp_law_carried Γ ds μ R → rd_law_carried Γ (fin R) (startD 2 ds) μ := by
  rintro ds μ R ⟨⟨t, s, m⟩, z, rfl, ⟨k1, k2, k3⟩, ⟨s1, s2⟩, kz, sz, h⟩
  simp only at k1 k2 k3 s1 s2
  unfold rd_law_carried toldD
  cases m with
  | false =>
    walk_at "d"
    simp only [sp_law_times, sp_law_plus, sp_multiplied, sp_added]
    exact ⟨ne_d k1, ne_d kz, s1.mono (by decide), sz.mono (by decide), ne_d (can_mul k1 kz), ne_d k3, (Sz.mul k1 kz s1 sz).mono (by decide), s2.mono (by decide), h⟩
  | true =>
    walk_at "d"
    simp only [sp_law_over, sp_turned_over, numD, sp_law_times, sp_law_plus, sp_multiplied, sp_added]
    exact ⟨ne_d k1, ne_d (can_ovr kz), s1.mono (by decide), sz.ovr.mono (by decide), ne_d (can_mul k1 (can_ovr kz)), ne_d k3, (Sz.mul k1 (can_ovr kz) s1 sz.ovr).mono (by decide), s2.mono (by decide), h⟩

/-! ### what the law holds alike -/
theorem ty_b : (tyOK "bool" = true) = True := eq_true (by decide)
theorem ty_i : (tyOK "int" = true) = True := eq_true (by decide)
theorem ty_s : (tyOK "str" = true) = True := eq_true (by decide)
theorem ty_t : (tyOK "tuple" = true) = True := eq_true (by decide)
theorem ty_l : (tyOK "list" = true) = True := eq_true (by decide)
theorem sames_iff : ∀ {as es : List D}, as.length = es.length → (sames as es = true ↔ ∀ i, i < as.length → same (as.getD i .non) (es.getD i .non) = true)
  | [], [], _ => by simp [sames]
  | [], _ :: _, h => by cases h
  | _ :: _, [], h => by cases h
  | a :: as, e :: es, h => by
    have ih := sames_iff (as := as) (es := es) (by simpa using h)
    unfold sames
    rw [Bool.and_eq_true, ih]
    constructor
    · rintro ⟨h1, h2⟩ i hi
      cases i with
      | zero => exact h1
      | succ i => exact h2 i (by simpa using hi)
    · intro q
      exact ⟨q 0 (by simp), fun i hi => q (i + 1) (by simpa using hi)⟩
theorem sames_len : ∀ {as es : List D}, as.length ≠ es.length → sames as es = false
  | [], [], h => absurd rfl h
  | [], _ :: _, _ => rfl
  | _ :: _, [], _ => rfl
  | a :: as, e :: es, h => by
    unfold sames
    rw [sames_len (as := as) (es := es) (by simpa using h), Bool.and_false]
def eqAt (as es : List D) : D → Bool
  | .int i => same (as.getD i.toNat .non) (es.getD i.toNat .non)
  | _ => false
theorem rangeD_mem : ∀ {n : Nat} {lo : Int} {d : D}, d ∈ rangeD lo n → ∃ i : Nat, i < n ∧ d = .int (lo + i)
  | 0, lo, d, h => by cases h
  | n + 1, lo, d, h => by
    rcases List.mem_cons.mp h with rfl | h
    · exact ⟨0, by omega, by simp⟩
    · obtain ⟨i, hi, rfl⟩ := rangeD_mem h
      exact ⟨i + 1, by omega, by congr 1; omega⟩
theorem mem_rangeD : ∀ {n : Nat} {lo : Int} {i : Nat}, i < n → D.int (lo + i) ∈ rangeD lo n
  | 0, lo, i, h => by omega
  | n + 1, lo, 0, h => by simp [rangeD]
  | n + 1, lo, i + 1, h => by
    refine List.mem_cons_of_mem _ ?_
    have := mem_rangeD (n := n) (lo := lo + 1) (i := i) (by omega)
    rwa [show lo + 1 + (i : Int) = lo + ((i + 1 : Nat) : Int) by omega] at this
theorem sames_all {as es : List D} (h : as.length = es.length) : ((rangeD 0 es.length).map (eqAt as es)).all _root_.id = sames as es := by
  have e : ∀ b c : Bool, (b = true ↔ c = true) → b = c := by decide
  apply e
  rw [sames_iff h, List.all_eq_true]
  constructor
  · intro q i hi
    have := q _ (List.mem_map_of_mem (mem_rangeD (n := es.length) (lo := 0) (i := i) (by omega)))
    simpa [eqAt] using this
  · intro q b hb
    obtain ⟨d, hd, rfl⟩ := List.mem_map.mp hb
    obtain ⟨i, hi, rfl⟩ := rangeD_mem hd
    have := q i (by omega)
    simpa [eqAt] using this
theorem atI_d {as : List D} {i : Nat} (h : i < as.length) : atI as (0 + (i : Int)) = some (as.getD i .non) := by
  rw [Int.zero_add, atI_lit, List.getElem?_eq_getElem h, List.getD_eq_getElem?_getD, List.getElem?_eq_getElem h]
  rfl
theorem all_pure {m : Nat} {as : List D} {i : Nat} (h : as.all (okq m) = true) : okq m (as.getD i .non) = true := by
  rw [List.getD_eq_getElem?_getD]
  cases q : as[i]? with
  | none => cases m <;> rfl
  | some d => exact List.all_eq_true.mp h d (List.mem_of_getElem? q)
/-- the last step, both alike in kind -/
theorem equal_rest (Γ : CL) {m : Nat} {as es : List D} {a e : D} {μ : MH} {R : D → MH → Prop} (ha : as.all (okq m) = true) (he : es.all (okq m) = true) (l1 : as.length ≤ 1000000) (hl : as.length = es.length) (sa : seqD (res μ a) = some as) (se : seqD (res μ e) = some es) (h : R (.bl (sames as es)) μ) :
    rRet (rCl gAll (rCons (rLc (rIRng1 (rCons (rCl gLen (rCons (rVar 1) rNil)) rNil)) (rGN 2) rTrue (rCl (sp_law_equal Γ (m + 1)) (rCons (rOp gIx (rVar 0) (rVar 2)) (rCons (rOp gIx (rVar 1) (rVar 2)) rNil))) [2]) rNil)) (fin R) [some a, some e, none] μ := by
  simp only [rRet, rCl, rCons, rLc, rIRng1, rVar, gt, gLen, List.getElem?_cons_zero, List.getElem?_cons_succ, rNil, se]
  refine ⟨by unfold inR; omega, ?_⟩
  rw [Int.toNat_natCast]
  refine ⟨by rw [rangeD_len]; exact Nat.le_trans (show es.length ≤ 1000000 by omega) (by decide), ?_⟩
  refine lcD_map (g := fun d => .bl (eqAt as es d)) _ _ (fun d hd Q q => ?_) ?_
  · obtain ⟨i, hi, rfl⟩ := rangeD_mem hd
    simp only [rms, rm, st, rCl, rOp, rCons, rVar, rNil, gt, gIx, List.getElem?_cons_zero, List.getElem?_cons_succ, sa, se]
    have e1 := atI_d (as := as) (i := i) (by omega)
    have e2 := atI_d (as := es) (i := i) (by omega)
    rw [e1, e2]
    refine ⟨all_pure ha, all_pure he, ?_⟩
    have : (0 + (i : Int)).toNat = i := by omega
    simp only [eqAt, this] at q
    exact q
  · rw [List.nil_append]
    simp only [gAll, res]
    rw [bools_map]
    show R (.bl (((rangeD 0 es.length).map (eqAt as es)).all _root_.id)) _
    rw [sames_all hl]
    exact h
def kindD : D → Nat
  | .non => 0
  | .bl _ => 1
  | .int _ => 2
  | .str _ => 3
  | .tup _ => 4
  | .lst _ => 5
  | _ => 6
local macro_rules | `(tactic| walk_at "e") => `(tactic| (simp only [rSeq, rAsg, rRet, rIf, rNext, rCons, rNil, rCl, rOp, rVar, rC, rB, rAndV, rNotV, gt, gIsN, isNonD, res, List.getElem?_cons_zero, List.getElem?_cons_succ, startD, List.map_cons, List.map_nil, List.cons_append, List.nil_append, List.replicate, if_true, if_false, Bool.false_eq_true, ite_true, ite_false, gIsi, isiD, ty_b, ty_i, ty_s, ty_t, ty_l, true_and, String.reduceBEq, Bool.or_true, Bool.or_false, Bool.true_or, Bool.false_or, Bool.or_self, gEq, gNe, gLen, pureN, deq_non, deq_bl, deq_int, deq_str, fin, Bool.not_true, Bool.not_false, seqD, Nat.reduceAdd, Nat.reduceSub, List.length_cons, List.length_nil, bne_self_eq_false, beq_self_eq_true]))
theorem vc_law_equal (Γ : CL) (m : Nat) : ∀ ds μ R, sp_law_equal Γ (m + 1) ds μ R → rd_law_equal Γ m (fin R) (startD 3 ds) μ := by
  intro ds μ R h
  replace h : eqSp m ds μ R := h
  unfold eqSp at h
  split at h <;> first | exact h.elim | skip
  rename_i a e
  obtain ⟨ha, he, h⟩ := h
  unfold rd_law_equal
  have no : ∀ {k : Nat} {d : D}, okq k d = true → kindD d < 6 := by
    intro k d q
    cases d <;> first | (simp only [kindD]; done) | (simp [kindD]; done) | (exfalso; cases k <;> cases q)
  have na := no ha
  have ne := no he
  cases e with
  | ref _ => simp [kindD] at ne
  | ins _ _ => simp [kindD] at ne
  | ty _ => simp [kindD] at ne
  | scr _ => simp [kindD] at ne
  | non =>
    cases a <;> first | (exfalso; simp [kindD] at na; done) | skip
    all_goals (walk_at "e"; exact h)
  | bl b =>
    cases a <;> first | (exfalso; simp [kindD] at na; done) | skip
    all_goals (walk_at "e"; exact h)
  | int b =>
    cases a <;> first | (exfalso; simp [kindD] at na; done) | skip
    all_goals (walk_at "e"; exact h)
  | str b =>
    have he' : PyData.strOk b = true := by cases m <;> exact he
    cases a <;> first | (exfalso; simp [kindD] at na; done) | skip
    case str c =>
      have ha' : PyData.strOk c = true := by cases m <;> exact ha
      walk_at "e"
      exact ⟨ha', he', h⟩
    all_goals (walk_at "e"; exact h)
  | tup es =>
    cases a <;> first | (exfalso; simp [kindD] at na; done) | skip
    case tup as =>
      cases m with
      | zero => cases ha
      | succ m =>
        simp only [okq, Bool.and_eq_true, decide_eq_true_eq] at ha he
        walk_at "e"
        by_cases hl : as.length = es.length
        · rw [if_neg (by simp [hl, PyData.eqv])]
          exact equal_rest Γ (a := .tup as) (e := .tup es) ha.2 he.2 ha.1 hl rfl rfl h
        · rw [if_pos (by simp; omega)]
          have : same (.tup as) (.tup es) = false := sames_len hl
          rw [this] at h
          exact h
    all_goals (walk_at "e"; exact h)
  | lst es =>
    cases a <;> first | (exfalso; simp [kindD] at na; done) | skip
    case lst as =>
      cases m with
      | zero => cases ha
      | succ m =>
        simp only [okq, Bool.and_eq_true, decide_eq_true_eq] at ha he
        walk_at "e"
        by_cases hl : as.length = es.length
        · rw [if_neg (by simp [hl, PyData.eqv])]
          exact equal_rest Γ (a := .lst as) (e := .lst es) ha.2 he.2 ha.1 hl rfl rfl h
        · rw [if_pos (by simp; omega)]
          have : same (.lst as) (.lst es) = false := sames_len hl
          rw [this] at h
          exact h
    all_goals (walk_at "e"; exact h)
end L3

/-! ## CM -/
set_option Elab.async false
set_option linter.all false
set_option maxHeartbeats 4000000
/-! Mathematics of copies. -/
namespace L3
open NM L2
def sg (m : Bool) : Rat := if m then -1 else 1
theorem sg_sq (m : Bool) : sg m * sg m = 1 := by cases m <;> decide +kernel
theorem sg_ne (m m' : Bool) : sg (m != m') = sg m * sg m' := by cases m <;> cases m' <;> decide +kernel
theorem re_flip {m : Bool} {z : Num} : re (flip m z) = re z := by cases m <;> rfl
theorem im_flip {m : Bool} {z : Num} : im (flip m z) = sg m * im z := by
  cases m
  · show im z = 1 * im z
    grind
  · show im (ovr z) = -1 * im z
    rw [im_ovr]
    grind
theorem re_at {c : Cp} {z : Num} (h : c.ok) (hz : Can z) : re (c.at z) = re c.t * re z - im c.t * (sg c.m * im z) + re c.s := by
  rw [Cp.at_eq, re_add (can_mul h.1 (can_flip hz)) h.2.2, re_mul h.1 (can_flip hz), re_flip, im_flip]
theorem im_at {c : Cp} {z : Num} (h : c.ok) (hz : Can z) : im (c.at z) = re c.t * (sg c.m * im z) + im c.t * re z + im c.s := by
  rw [Cp.at_eq, im_add (can_mul h.1 (can_flip hz)) h.2.2, im_mul h.1 (can_flip hz), re_flip, im_flip]
theorem re_ct {a b : Cp} (ha : a.ok) (hb : b.ok) : re (a.comp b).t = re b.t * re a.t - im b.t * (sg b.m * im a.t) := by
  show re (mul b.t (flip b.m a.t)) = _
  rw [re_mul hb.1 (can_flip ha.1), re_flip, im_flip]
theorem im_ct {a b : Cp} (ha : a.ok) (hb : b.ok) : im (a.comp b).t = re b.t * (sg b.m * im a.t) + im b.t * re a.t := by
  show im (mul b.t (flip b.m a.t)) = _
  rw [im_mul hb.1 (can_flip ha.1), re_flip, im_flip]
theorem Cp.comp_at {a b : Cp} {z : Num} (ha : a.ok) (hb : b.ok) (hz : Can z) : (a.comp b).at z = b.at (a.at z) := by
  have hc := Cp.comp_ok ha hb
  have e : (a.comp b).s = b.at a.s := rfl
  have em : (a.comp b).m = (a.m != b.m) := rfl
  refine NM.ext (Cp.can_at hc hz) (Cp.can_at hb (Cp.can_at ha hz)) ?_ ?_
  · rw [re_at hc hz, re_at hb (Cp.can_at ha hz), re_at ha hz, im_at ha hz, e, em, re_ct ha hb, im_ct ha hb, re_at hb ha.2.2, sg_ne]
    have := sg_sq b.m
    grind
  · rw [im_at hc hz, im_at hb (Cp.can_at ha hz), re_at ha hz, im_at ha hz, e, em, re_ct ha hb, im_ct ha hb, im_at hb ha.2.2, sg_ne]
    have := sg_sq b.m
    grind
theorem Cp.ext' {a b : Cp} (h1 : a.t = b.t) (h2 : a.s = b.s) (h3 : a.m = b.m) : a = b := by
  cases a; cases b
  simp only at h1 h2 h3
  rw [h1, h2, h3]
theorem Cp.comp_assoc {a b c : Cp} (ha : a.ok) (hb : b.ok) (hc : c.ok) : (a.comp b).comp c = a.comp (b.comp c) := by
  have hab := Cp.comp_ok ha hb
  have hbc := Cp.comp_ok hb hc
  have m1 : (b.comp c).m = (b.m != c.m) := rfl
  refine Cp.ext' (NM.ext (Cp.comp_ok hab hc).1 (Cp.comp_ok ha hbc).1 ?_ ?_) ?_ ?_
  · rw [re_ct hab hc, re_ct ha hbc, re_ct ha hb, im_ct ha hb, re_ct hb hc, im_ct hb hc, m1, sg_ne]
    have := sg_sq c.m
    grind
  · rw [im_ct hab hc, im_ct ha hbc, re_ct ha hb, im_ct ha hb, re_ct hb hc, im_ct hb hc, m1, sg_ne]
    have := sg_sq c.m
    grind
  · show c.at (b.at a.s) = (b.comp c).at a.s
    rw [Cp.comp_at hb hc ha.2.2]
  · show ((a.m != b.m) != c.m) = (a.m != (b.m != c.m))
    cases a.m <;> cases b.m <;> cases c.m <;> rfl
theorem Cp.id_ok : Cp.id.ok := ⟨can_one, by unfold NZ; decide, can_zero⟩
theorem re_ids : re Cp.id.s = 0 := re_zero
theorem im_ids : im Cp.id.s = 0 := im_zero
theorem re_idt : re Cp.id.t = 1 := re_one
theorem im_idt : im Cp.id.t = 0 := im_one
theorem sg_f : sg false = 1 := rfl
theorem Cp.id_at {z : Num} (hz : Can z) : Cp.id.at z = z := by
  refine NM.ext (Cp.can_at Cp.id_ok hz) hz ?_ ?_
  · rw [re_at Cp.id_ok hz, re_idt, im_idt, re_ids]; grind
  · rw [im_at Cp.id_ok hz, re_idt, im_idt, im_ids, show Cp.id.m = false from rfl, sg_f]; grind
theorem Cp.comp_id {a : Cp} (ha : a.ok) : a.comp Cp.id = a := by
  refine Cp.ext' (NM.ext (Cp.comp_ok ha Cp.id_ok).1 ha.1 ?_ ?_) (Cp.id_at ha.2.2) ?_
  · rw [re_ct ha Cp.id_ok, re_idt, im_idt]; grind
  · rw [im_ct ha Cp.id_ok, re_idt, im_idt, show Cp.id.m = false from rfl, sg_f]; grind
  · show (a.m != false) = a.m
    cases a.m <;> rfl
theorem Cp.at_zero {a : Cp} (ha : a.ok) : a.at zero = a.s := by
  refine NM.ext (Cp.can_at ha can_zero) ha.2.2 ?_ ?_
  · rw [re_at ha can_zero, re_zero, im_zero]; grind
  · rw [im_at ha can_zero, re_zero, im_zero]; grind
theorem Cp.id_comp {a : Cp} (ha : a.ok) : Cp.id.comp a = a := by
  refine Cp.ext' (NM.ext (Cp.comp_ok Cp.id_ok ha).1 ha.1 ?_ ?_) (Cp.at_zero ha) ?_
  · rw [re_ct Cp.id_ok ha, re_idt, im_idt]; grind
  · rw [im_ct Cp.id_ok ha, re_idt, im_idt]; grind
  · show (false != a.m) = a.m
    cases a.m <;> rfl
/-! ### coming back -/
theorem nrm_ne {a : Num} (ha : Can a) (na : NZ a) : re a * re a + im a * im a ≠ 0 := (nz_iff ha).mp na
theorem re_it {a : Cp} (ha : a.ok) : re a.inv.t = re a.t / (re a.t * re a.t + im a.t * im a.t) := by
  show re (NM.inv (flip a.m a.t)) = _
  rw [re_inv (can_flip ha.1) (NZ_flip ha.2.1)]
  unfold nrm
  rw [re_flip, im_flip]
  have := sg_sq a.m
  congr 1
  grind
theorem im_it {a : Cp} (ha : a.ok) : im a.inv.t = - (sg a.m * im a.t) / (re a.t * re a.t + im a.t * im a.t) := by
  show im (NM.inv (flip a.m a.t)) = _
  rw [im_inv (can_flip ha.1) (NZ_flip ha.2.1)]
  unfold nrm
  rw [re_flip, im_flip]
  have := sg_sq a.m
  congr 1
  grind
theorem re_is {a : Cp} (ha : a.ok) : re a.inv.s = - (re a.inv.t * re a.s - im a.inv.t * (sg a.m * im a.s)) := by
  show re (opp (mul a.inv.t (flip a.m a.s))) = _
  rw [re_opp, re_mul (Cp.inv_ok ha).1 (can_flip ha.2.2), re_flip, im_flip]
theorem im_is {a : Cp} (ha : a.ok) : im a.inv.s = - (re a.inv.t * (sg a.m * im a.s) + im a.inv.t * re a.s) := by
  show im (opp (mul a.inv.t (flip a.m a.s))) = _
  rw [im_opp, im_mul (Cp.inv_ok ha).1 (can_flip ha.2.2), re_flip, im_flip]
theorem Cp.inv_comp {a : Cp} (ha : a.ok) : a.inv.comp a = Cp.id := by
  have hi := Cp.inv_ok ha
  have hn := nrm_ne ha.1 ha.2.1
  have hs := sg_sq a.m
  have em : a.inv.m = a.m := rfl
  have es : (a.inv.comp a).s = a.at a.inv.s := rfl
  refine Cp.ext' (NM.ext (Cp.comp_ok hi ha).1 can_one ?_ ?_) (NM.ext (Cp.comp_ok hi ha).2.2 can_zero ?_ ?_) ?_
  · rw [re_ct hi ha, re_it ha, im_it ha, re_idt]
    grind
  · rw [im_ct hi ha, re_it ha, im_it ha, im_idt]
    grind
  · rw [es, re_at ha hi.2.2, re_is ha, im_is ha, re_it ha, im_it ha, re_ids]
    grind
  · rw [es, im_at ha hi.2.2, re_is ha, im_is ha, re_it ha, im_it ha, im_ids]
    grind
  · show (a.m != a.m) = false
    cases a.m <;> rfl
theorem Cp.comp_inv {a : Cp} (ha : a.ok) : a.comp a.inv = Cp.id := by
  have hi := Cp.inv_ok ha
  have hn := nrm_ne ha.1 ha.2.1
  have hs := sg_sq a.m
  have em : a.inv.m = a.m := rfl
  have es : (a.comp a.inv).s = a.inv.at a.s := rfl
  refine Cp.ext' (NM.ext (Cp.comp_ok ha hi).1 can_one ?_ ?_) (NM.ext (Cp.comp_ok ha hi).2.2 can_zero ?_ ?_) ?_
  · rw [re_ct ha hi, re_it ha, im_it ha, re_idt, em]
    grind
  · rw [im_ct ha hi, re_it ha, im_it ha, im_idt, em]
    grind
  · rw [es, re_at hi ha.2.2, re_is ha, re_it ha, im_it ha, re_ids, em]
    grind
  · rw [es, im_at hi ha.2.2, im_is ha, re_it ha, im_it ha, im_ids, em]
    grind
  · show (a.m != a.m) = false
    cases a.m <;> rfl
/-! ### sizes -/
theorem gz_0 (a b : Int) : gz (gz a 0) b = gz a b := by
  unfold gz
  rw [Int.gcd_zero_right]
  unfold Int.gcd
  rw [Int.natAbs_natCast]
theorem can_szN {z : Num} (h : z.d ≠ 0) : Can (szN z) := low_can (Int.mul_ne_zero h h)
theorem re_szN {z : Num} (h : Can z) : re (szN z) = re z * re z + im z * im z := by
  unfold szN
  rw [re_low (Int.mul_ne_zero (ne_d h) (ne_d h))]
  unfold re im
  have := cast_ne (ne_d h)
  push_cast
  grind
theorem im_szN {z : Num} (h : Can z) : im (szN z) = 0 := by
  unfold szN
  rw [im_low (Int.mul_ne_zero (ne_d h) (ne_d h)), show ((0 : Int) : Rat) = 0 from rfl, Rat.div_def, Rat.zero_mul]
theorem szN_y {z : Num} (h : Can z) : (szN z).y = 0 := by
  have e := im_szN h
  unfold im at e
  have := cast_ne (ne_d (can_szN (ne_d h)))
  have e2 : (((szN z).y : Int) : Rat) = 0 := by grind
  exact_mod_cast e2
theorem sz_szN {n : Nat} {z : Num} (h : Can z) (s : Sz n z) : Sz (n + n + 1) (szN z) :=
  low_sz (Int.mul_ne_zero (ne_d h) (ne_d h)) ((s.1.mul s.1).add (s.2.1.mul s.2.1)) (by unfold Bt; exact Nat.two_pow_pos _) ((s.2.2.mul s.2.2).mono (by omega))
/-! ### inverses -/
theorem Cp.inv_unique {a b : Cp} (ha : a.ok) (hb : b.ok) (h : a.comp b = Cp.id) : b = a.inv := by
  have e := Cp.comp_assoc (Cp.inv_ok ha) ha hb
  rw [Cp.inv_comp ha, Cp.id_comp hb, h, Cp.comp_id (Cp.inv_ok ha)] at e
  exact e
theorem Cp.inv_inv {a : Cp} (ha : a.ok) : a.inv.inv = a := (Cp.inv_unique (Cp.inv_ok ha) ha (Cp.inv_comp ha)).symm
theorem Cp.inv_at {a : Cp} {z : Num} (ha : a.ok) (hz : Can z) : a.inv.at (a.at z) = z := by
  rw [← Cp.comp_at ha (Cp.inv_ok ha) hz, Cp.comp_inv ha, Cp.id_at hz]
theorem Cp.at_inv {a : Cp} {z : Num} (ha : a.ok) (hz : Can z) : a.at (a.inv.at z) = z := by
  rw [← Cp.comp_at (Cp.inv_ok ha) ha hz, Cp.inv_comp ha, Cp.id_at hz]
end L3

/-! ## CM2 -/
set_option Elab.async false
set_option linter.all false
set_option maxHeartbeats 4000000
/-! Spots that are kept. -/
namespace L3
open NM L2
theorem gz_comm (a b : Int) : gz a b = gz b a := by unfold gz; rw [Int.gcd_comm]
theorem gz_assoc (a b c : Int) : gz (gz a b) c = gz a (gz b c) := by unfold gz; rw [Int.gcd_assoc]
theorem gz3_rev (a b c : Int) : gz (gz a b) c = gz (gz c b) a := by
  rw [gz_comm (gz a b) c, gz_comm a b, ← gz_assoc]
theorem lineOf_uniq {a b c a' b' c' : Int} (h : a ≠ 0 ∨ b ≠ 0) (h' : a' ≠ 0 ∨ b' ≠ 0) (e1 : a * b' = a' * b) (e2 : a * c' = a' * c) (e3 : b * c' = b' * c) : lineOf a b c = lineOf a' b' c' := by
  unfold lineOf
  by_cases ha : a = 0
  · have hb : b ≠ 0 := by simpa [ha] using h
    have ha' : a' = 0 := by
      rw [ha, Int.zero_mul] at e1
      rcases Int.mul_eq_zero.mp e1.symm with q | q
      · exact q
      · exact absurd q hb
    have hb' : b' ≠ 0 := by simpa [ha'] using h'
    rw [if_neg (by simp [ha]), if_neg (by simp [ha'])]
    have := low_eq (x := c) (y := 0) (x' := c') (y' := 0) hb hb' (by grind) (by simp)
    rw [this]
  · have ha' : a' ≠ 0 := by
      intro q
      rw [q, Int.zero_mul] at e1
      rcases Int.mul_eq_zero.mp e1 with z | z
      · exact ha z
      · rw [q] at h'
        simp [z] at h'
    rw [if_pos ha, if_pos ha']
    have := low_eq (x := c) (y := b) (x' := c') (y' := b') ha ha' (by grind) (by grind)
    rw [this]
def keptOn : Kp → Num → Prop
  | .all, _ => True
  | .none, _ => False
  | .spot w, z => z = w
  | .line a b c, z => a * z.x + b * z.y = c * z.d
theorem can_img : Can img := ⟨by decide, by decide⟩
end L3

/-! ## V5 -/
set_option Elab.async false
set_option linter.all false
set_option maxRecDepth 100000
set_option maxHeartbeats 4000000
namespace L3
open PySem NM L2
local macro_rules | `(tactic| walk_at "d") => `(tactic| (try (simp only [rSeq, rAsg, rRet, rRetN, rDrop, rIf, rNext, rPar, rPar3, rCons, rNil, rStar, rCl, rOp, rUn, rVar, rC, rGN, rTup, rLst, rB, rAnd, rOr, rNot, rIfE, rAndV, rOrV, rNotV, rNever, rFld, rOwn, rMeth, rMakeK, rMakeD, rFldS, rFrz, rSetIx, rMut, rILst, rITup, rIRng1, rIRng2, rFor, rLc, rLcM, rTrue, gt, st, gI, gI0, gU, gIx, gEq, gNe, gAdd, gSub, gMul, gDiv, gMod, gPow, gLt, gLe, gGt, gGe, gIsi, gAbs, gLen, gAll, gIsN, gNotN, gOwn1, gOwn2, isNonD, seqD, res, atI_0, atI_1, atI_2, atI_3, atI_4, List.getElem?_cons_zero, List.getElem?_cons_succ, List.length_cons, List.length_nil, decide_eq_true_eq, List.map_cons, List.map_nil, startD, List.cons_append, List.nil_append, List.replicate, Nat.zero_add, numD, if_true, if_false, Bool.false_eq_true, and_self, true_and, ite_true, ite_false, Nat.reduceAdd, Nat.reduceSub, ln, Nat.reduceLeDiff, fin, String.reduceBEq, Bool.not_true, Bool.not_false, pureN, deq_int, deq_tt, deq_t0, deq_bl, List.all_cons, List.all_nil, Bool.and_true, Bool.true_and, Bool.and_eq_true, List.append_nil, lk_turn, lk_shift, lk_mirrored, lk_key, insD, updM_same, updM_updM, Option.map_some, Option.map_none])))
theorem insD_copy {Γ : CL} {μ : MH} {c : Cp} : insD μ (copyD Γ c) = some (Γ.Copy, copyFs c) := rfl
theorem own2_c {Γ : CL} {μ : MH} {s : GN} {R : D → MH → Prop} {a b : Cp} : gOwn2 Γ.Copy s (copyD Γ a) (copyD Γ b) μ R = s [copyD Γ a, copyD Γ b] μ R := propext ⟨fun h => h.2.2, fun h => ⟨rfl, rfl, h⟩⟩
theorem own1_c {Γ : CL} {μ : MH} {s : GN} {R : D → MH → Prop} {a : Cp} : gOwn1 Γ.Copy s (copyD Γ a) μ R = s [copyD Γ a] μ R := propext ⟨fun h => h.2, fun h => ⟨rfl, h⟩⟩
theorem res_num {μ : MH} {z : Num} : res μ (numD z) = numD z := rfl
theorem gEq_n {a b : Num} {μ : MH} {R : D → MH → Prop} : gEq (numD a) (numD b) μ R = R (.bl (decide (a = b))) μ := by
  unfold gEq
  rw [res_num, res_num, deq_num]
  exact propext ⟨fun h => h.2.2, fun h => ⟨rfl, rfl, h⟩⟩
theorem gNe_n {a b : Num} {μ : MH} {R : D → MH → Prop} : gNe (numD a) (numD b) μ R = R (.bl (!decide (a = b))) μ := by
  unfold gNe
  rw [res_num, res_num, deq_num]
  exact propext ⟨fun h => h.2.2, fun h => ⟨rfl, rfl, h⟩⟩
theorem gNe_ii {a b c d : Int} {μ : MH} {R : D → MH → Prop} : gNe (.tup [.int a, .int b]) (.tup [.int c, .int d]) μ R = R (.bl (!(a == c && b == d))) μ := by
  unfold gNe
  refine propext ⟨fun h => ?_, fun h => ⟨rfl, rfl, ?_⟩⟩
  · have := h.2.2
    simpa [res, deq_tt, deq_t0, deq_int] using this
  · simpa [res, deq_tt, deq_t0, deq_int] using h
theorem cONE : c_ONE = numD one := rfl
theorem cZERO : c_ZERO = numD zero := rfl
section
variable {Γ : CL} {μ : MH} {Q : D → MH → Prop} {a b : Num}
end
local macro_rules | `(tactic| walk_at "k") => `(tactic| (try (simp only [rSeq, rAsg, rRet, rRetN, rDrop, rIf, rNext, rPar, rPar3, rCons, rNil, rStar, rCl, rOp, rUn, rVar, rC, rGN, rTup, rLst, rB, rAnd, rOr, rNot, rIfE, rAndV, rOrV, rNotV, rNever, rFld, rOwn, rMeth, rMakeK, rMakeD, rFldS, rFrz, rSetIx, rMut, rILst, rITup, rIRng1, rIRng2, rFor, rLc, rLcM, rTrue, gt, st, gI, gI0, gU, gIx, gEq_n, gNe_n, gNe_ii, cONE, cZERO, gAdd, gSub, gMul, gDiv, gMod, gPow, gLt, gLe, gGt, gGe, gIsi, gAbs, gLen, gAll, gIsN, gNotN, gOwn1, gOwn2, isNonD, seqD, res, atI_0, atI_1, atI_2, atI_3, atI_4, List.getElem?_cons_zero, List.getElem?_cons_succ, List.length_cons, List.length_nil, decide_eq_true_eq, List.map_cons, List.map_nil, startD, List.cons_append, List.nil_append, List.replicate, Nat.zero_add, if_true, if_false, Bool.false_eq_true, and_self, true_and, ite_true, ite_false, Nat.reduceAdd, Nat.reduceSub, ln, Nat.reduceLeDiff, fin, String.reduceBEq, Bool.not_true, Bool.not_false, pureN, deq_int, deq_tt, deq_t0, deq_bl, List.all_cons, List.all_nil, Bool.and_true, Bool.true_and, Bool.and_eq_true, List.append_nil, lk_turn, lk_shift, lk_mirrored, lk_key, insD_copy, updM_same, updM_updM, Option.map_some, Option.map_none])))
end L3

/-! ## LW -/
set_option Elab.async false
set_option linter.all false
set_option maxRecDepth 100000
set_option maxHeartbeats 4000000
namespace L3
open PySem NM L2
theorem rG_nil {ρ : EV} {μ : MH} {Q : EV → MH → Prop} : rGNil [] ρ μ Q = Q ρ μ := propext ⟨fun h => h.2, fun h => ⟨rfl, h⟩⟩
theorem rG_cons {g : RG} {gs : RGs} {d : D} {r : List D} {ρ : EV} {μ : MH} {Q : EV → MH → Prop} : rGCons g gs (d :: r) ρ μ Q = g d ρ μ fun ρ1 μ1 => gs r ρ1 μ1 Q := rfl
theorem rGLst_i {n : Nat} {g : RGs} {ds : List D} {ρ : EV} {μ : MH} {Q : EV → MH → Prop} : rGLst n g (.lst ds) ρ μ Q = (ds.length = n ∧ g ds ρ μ Q) := rfl
local macro_rules | `(tactic| walk_at "d") => `(tactic| (try (simp only [rSeq, rAsg, rRet, rRetN, rDrop, rIf, rNext, rPar, rPar3, rCons, rNil, rStar, rCl, rOp, rUn, rVar, rC, rGN, rTup, rLst, rB, rAnd, rOr, rNot, rIfE, rAndV, rOrV, rNotV, rNever, rFld, rOwn, rMeth, rMakeK, rMakeD, rFldS, rFrz, rSetIx, rMut, rILst, rITup, rIRng1, rIRng2, rFor, rLc, rLcM, rTrue, gt, st, gI, gI0, gU, gIx, gEq, gNe, gAdd, gSub, gMul, gDiv, gMod, gPow, gLt, gLe, gGt, gGe, gIsi, gAbs, gLen, gAll, gIsN, gNotN, isNonD, seqD, res, atI_0, atI_1, atI_2, atI_3, atI_4, List.getElem?_cons_zero, List.getElem?_cons_succ, List.length_cons, List.length_nil, decide_eq_true_eq, List.map_cons, List.map_nil, startD, List.cons_append, List.nil_append, List.replicate, Nat.zero_add, numD, if_true, if_false, Bool.false_eq_true, and_self, true_and, ite_true, ite_false, Nat.reduceAdd, Nat.reduceSub, ln, Nat.reduceLeDiff, fin, String.reduceBEq, Bool.not_true, Bool.not_false, pureN, deq_int, deq_tt, deq_t0, deq_bl, List.all_cons, List.all_nil, Bool.and_true, Bool.true_and, Bool.and_eq_true, List.append_nil, lk_turn, lk_shift, lk_mirrored, lk_key, insD_copy, own2_c, own1_c, rG_nil, rG_cons, rGLst_i, updM_same, updM_updM, Option.map_some, Option.map_none])))

/-! ### rules that leave numbers folded -/
section
variable {μ : MH} {R : D → MH → Prop} {z w : Num} {c e : Cp} {i j : Int} {b b' : Bool} {ds es : List D} {p : Addr} {m : Nat}
theorem gIx_n0 : gIx (numD z) (.int 0) μ R = R (.int z.x) μ := rfl
theorem gIx_n1 : gIx (numD z) (.int 1) μ R = R (.int z.y) μ := rfl
theorem gIx_n2 : gIx (numD z) (.int 2) μ R = R (.int z.d) μ := rfl
theorem gIx_t : gIx (.tup ds) (.int i) μ R = (match atI ds i with | some d => R d μ | none => False) := rfl
theorem gIx_l : gIx (.lst ds) (.int i) μ R = (match atI ds i with | some d => R d μ | none => False) := rfl
theorem gNe_i : gNe (.int i) (.int j) μ R = R (.bl (!(i == j))) μ := propext ⟨fun h => h.2.2, fun h => ⟨rfl, rfl, h⟩⟩
end
/-- one statement at a time: the rest stays folded -/
theorem seq_g {f g : RS} {D : Ed} {ρ : EV} {μ : MH} (h : ∀ N : EV → MH → Prop, (∀ ρ1 μ1, g D ρ1 μ1 → N ρ1 μ1) → f { D with nx := N } ρ μ) : rSeq f g D ρ μ := h _ fun _ _ q => q
theorem Cp.small.ok {c : Cp} (h : c.small) : c.ok := ⟨h.1.1, h.2.1, h.2.2.1⟩
theorem Cp.small.sz {c : Cp} (h : c.small) : c.sz 5 := ⟨h.1.2, h.2.2.2⟩
section
variable {Γ : CL} {μ : MH} {Q : D → MH → Prop} {a b c : Cp} {z : Num}
theorem lcar_i (ha : a.ok) (sa : a.sz quart) (hz : Can z) (sz : Sz quart z) (q : Q (numD (a.at z)) μ) : sp_law_carried Γ [toldD a, numD z] μ Q := ⟨a, z, rfl, ha, sa, hz, sz, q⟩
theorem times_i {z w : Num} (ha : Can z) (hb : Can w) (sa : Sz half z) (sb : Sz half w) (q : Q (numD (mul z w)) μ) : sp_law_times Γ [numD z, numD w] μ Q := ⟨ne_d ha, ne_d hb, sa, sb, q⟩
theorem plus_i {z w : Num} (ha : Can z) (hb : Can w) (sa : Sz half z) (sb : Sz half w) (q : Q (numD (add z w)) μ) : sp_law_plus Γ [numD z, numD w] μ Q := ⟨ne_d ha, ne_d hb, sa, sb, q⟩
theorem over_i {z : Num} (q : Q (numD (ovr z)) μ) : sp_law_over Γ [numD z] μ Q := q
end
theorem lcD_mapG {α : Type} {i : Nat} {f : RX} {ρ : EV} {R : List D → MH → Prop} {μ : MH} (xs : List α) (p g : α → D) (hf : ∀ x ∈ xs, ∀ Q : D → MH → Prop, Q (g x) μ → f (st ρ i (p x)) μ Q) {acc : List D} (h : R (acc ++ xs.map g) μ) : lcD (rGN i) rTrue f tru ρ (xs.map p) acc μ R := by
  induction xs generalizing acc with
  | nil =>
    rw [List.map_nil, List.append_nil] at h
    exact ⟨trivial, h⟩
  | cons x r ih =>
    refine ⟨trivial, ?_⟩
    simp only [rGN, rTrue, if_true]
    refine hf x (List.mem_cons_self ..) _ (ih (fun y hy => hf y (List.mem_cons_of_mem _ hy)) ?_)
    rw [List.append_assoc]
    exact h
mutual
theorem same_self : ∀ {n : Nat} (d : D), okq n d = true → same d d = true
  | n, .non, _ => rfl
  | n, .bl b, _ => by unfold same; exact beq_self_eq_true b
  | n, .int b, _ => by unfold same; exact beq_self_eq_true b
  | n, .str b, _ => by unfold same; exact beq_self_eq_true b
  | n + 1, .tup ds, h => by
    unfold same
    simp only [okq, Bool.and_eq_true] at h
    exact sames_self ds h.2
  | n + 1, .lst ds, h => by
    unfold same
    simp only [okq, Bool.and_eq_true] at h
    exact sames_self ds h.2
  | 0, .tup _, h => by cases h
  | 0, .lst _, h => by cases h
  | 0, .ref _, h => by cases h
  | 0, .ins _ _, h => by cases h
  | 0, .ty _, h => by cases h
  | 0, .scr _, h => by cases h
  | n + 1, .ref _, h => by cases h
  | n + 1, .ins _ _, h => by cases h
  | n + 1, .ty _, h => by cases h
  | n + 1, .scr _, h => by cases h
theorem sames_self : ∀ {n : Nat} (ds : List D), ds.all (okq n) = true → sames ds ds = true
  | _, [], _ => by unfold sames; rfl
  | n, d :: r, h => by
    unfold sames
    rw [List.all_cons, Bool.and_eq_true] at h
    rw [same_self d h.1, sames_self r h.2]
    rfl
end
/-! ### sizes of what is kept -/
end L3

/-! ## CM3 -/
set_option Elab.async false
set_option linter.all false
set_option maxHeartbeats 1000000
/-! What is kept is determined by the spots that are kept. -/
namespace L3
open NM L2
theorem lineOf_self {a b e : Int} (h : 0 < a ∨ a = 0 ∧ 0 < b) (g : gz (gz a b) e = 1) : lineOf a b e = (a, b, e) := by
  unfold lineOf
  by_cases ha : a = 0
  · subst ha
    have hb : 0 < b := by omega
    have k : Can ⟨e, 0, b⟩ := by
      refine ⟨hb, ?_⟩
      show gz (gz e 0) b = 1
      rw [gz_0, gz_comm]
      have : gz 0 b = b := by
        unfold gz
        rw [Int.gcd_comm, Int.gcd_zero_right]
        omega
      rw [this] at g
      exact g
    have q := low_self k
    rw [if_neg (by simp)]
    show ((0 : Int), (low e 0 b).d, (low e 0 b).x) = _
    simp only at q
    rw [q]
  · have hp : 0 < a := by omega
    have k : Can ⟨e, b, a⟩ := ⟨hp, by show gz (gz e b) a = 1; rw [← gz3_rev]; exact g⟩
    have q := low_self k
    rw [if_pos ha]
    simp only at q
    rw [q]
theorem line_uniq {a b e a' b' e' : Int} (h : 0 < a ∨ a = 0 ∧ 0 < b) (g : gz (gz a b) e = 1) (h' : 0 < a' ∨ a' = 0 ∧ 0 < b') (g' : gz (gz a' b') e' = 1) (e1 : a * b' = a' * b) (e2 : a * e' = a' * e) (e3 : b * e' = b' * e) : a = a' ∧ b = b' ∧ e = e' := by
  have q := lineOf_uniq (by omega) (by omega) e1 e2 e3
  rw [lineOf_self h g, lineOf_self h' g'] at q
  simpa using q
/-- two different spots on a line in lowest terms -/
def lineP (a b e : Int) : Num := low (a * e) (b * e) (a * a + b * b)
def lineQ (a b e : Int) : Num := low (a * e - b * (a * a + b * b)) (b * e + a * (a * a + b * b)) (a * a + b * b)
theorem ab_ne {a b : Int} (h : 0 < a ∨ a = 0 ∧ 0 < b) : a * a + b * b ≠ 0 := sq_ne (a := ⟨a, b, 1⟩) (by rintro ⟨h1, h2⟩; simp only at h1 h2; omega)
theorem on_low {p q r x y d : Int} (h : d ≠ 0) : keptOn (.line p q r) (low x y d) ↔ p * x + q * y = r * d := by
  obtain ⟨k, hk, e1, e2, e3, _⟩ := low_spec (x := x) (y := y) h
  show p * (low x y d).x + q * (low x y d).y = r * (low x y d).d ↔ _
  generalize low x y d = z at *
  rw [e1, e2, e3]
  constructor
  · intro q1
    have : k * (p * z.x + q * z.y) = k * (r * z.d) := by rw [q1]
    grind
  · intro q1
    have : k * (p * z.x + q * z.y) = k * (r * z.d) := by grind
    exact Int.eq_of_mul_eq_mul_left hk this
/-- lowest terms -/
def Kp.nf : Kp → Prop
  | .all => True
  | .none => True
  | .spot w => Can w
  | .line a b e => (0 < a ∨ a = 0 ∧ 0 < b) ∧ gz (gz a b) e = 1
theorem line_p {a b e : Int} (h : 0 < a ∨ a = 0 ∧ 0 < b) : keptOn (.line a b e) (lineP a b e) := (on_low (ab_ne h)).mpr (by grind)
theorem line_q {a b e : Int} (h : 0 < a ∨ a = 0 ∧ 0 < b) : keptOn (.line a b e) (lineQ a b e) := (on_low (ab_ne h)).mpr (by grind)
theorem line_pq {a b e : Int} (h : 0 < a ∨ a = 0 ∧ 0 < b) : lineP a b e ≠ lineQ a b e := fun q => by
  have n := ab_ne h
  have h1 : keptOn (.line (0 - b) a 0) (lineP a b e) := (on_low n).mpr (by grind)
  rw [q] at h1
  have h2 := (on_low n).mp h1
  have : (a * a + b * b) * (a * a + b * b) = 0 := by grind
  rcases Int.mul_eq_zero.mp this with z | z <;> exact n z
theorem can_p {a b e : Int} (h : 0 < a ∨ a = 0 ∧ 0 < b) : Can (lineP a b e) := low_can (ab_ne h)
theorem can_q {a b e : Int} (h : 0 < a ∨ a = 0 ∧ 0 < b) : Can (lineQ a b e) := low_can (ab_ne h)
theorem line_all {a b e : Int} (h : 0 < a ∨ a = 0 ∧ 0 < b) (q : ∀ z, Can z → keptOn (.line a b e) z) : False := by
  have h1 : a * 0 + b * 0 = e * 1 := q zero can_zero
  have h2 : a * 1 + b * 0 = e * 1 := q one can_one
  have h3 : a * 0 + b * 1 = e * 1 := q img can_img
  omega
theorem spot_all {w : Num} (q : ∀ z, Can z → keptOn (.spot w) z) : False := by
  have h1 : zero = w := q zero can_zero
  have h2 : one = w := q one can_one
  have : zero = one := h1.trans h2.symm
  exact absurd this (by decide)
theorem spot_line {w : Num} {a b e : Int} (h : 0 < a ∨ a = 0 ∧ 0 < b) (q : ∀ z, Can z → (keptOn (.spot w) z ↔ keptOn (.line a b e) z)) : False := by
  have h1 : lineP a b e = w := (q _ (can_p h)).mpr (line_p h)
  have h2 : lineQ a b e = w := (q _ (can_q h)).mpr (line_q h)
  exact line_pq h (h1.trans h2.symm)
theorem line_line {a b e a' b' e' : Int} (h : (0 < a ∨ a = 0 ∧ 0 < b) ∧ gz (gz a b) e = 1) (h' : (0 < a' ∨ a' = 0 ∧ 0 < b') ∧ gz (gz a' b') e' = 1) (q : ∀ z, Can z → (keptOn (.line a b e) z ↔ keptOn (.line a' b' e') z)) : a = a' ∧ b = b' ∧ e = e' := by
  have n := ab_ne h.1
  have h1 := (on_low n).mp ((q _ (can_p h.1)).mp (line_p h.1))
  have h2 := (on_low n).mp ((q _ (can_q h.1)).mp (line_q h.1))
  have e1 : a * b' = a' * b := by
    have : (a * b' - a' * b) * (a * a + b * b) = 0 := by grind
    rcases Int.mul_eq_zero.mp this with z | z
    · omega
    · exact absurd z n
  have e2 : a * e' = a' * e := by
    have : (a * e' - a' * e) * (a * a + b * b) = 0 := by grind
    rcases Int.mul_eq_zero.mp this with z | z
    · omega
    · exact absurd z n
  have e3 : b * e' = b' * e := by
    have : (b * e' - b' * e) * (a * a + b * b) = 0 := by grind
    rcases Int.mul_eq_zero.mp this with z | z
    · omega
    · exact absurd z n
  exact line_uniq h.1 h.2 h'.1 h'.2 e1 e2 e3
theorem Kp.uniq {K L : Kp} (hK : K.nf) (hL : L.nf) (q : ∀ z, Can z → (keptOn K z ↔ keptOn L z)) : K = L := by
  cases K with
  | all =>
    cases L with
    | all => rfl
    | none => exact False.elim ((q zero can_zero).mp trivial)
    | spot w => exact False.elim (spot_all fun z hz => (q z hz).mp trivial)
    | line a b e => exact False.elim (line_all hL.1 fun z hz => (q z hz).mp trivial)
  | none =>
    cases L with
    | all => exact False.elim ((q zero can_zero).mpr trivial)
    | none => rfl
    | spot w => exact False.elim ((q w hL).mpr rfl)
    | line a b e => exact False.elim ((q _ (can_p hL.1)).mpr (line_p hL.1))
  | spot w =>
    cases L with
    | all => exact False.elim (spot_all fun z hz => (q z hz).mpr trivial)
    | none => exact False.elim ((q w hK).mp rfl)
    | spot v => rw [show w = v from (q w hK).mp rfl]
    | line a b e => exact False.elim (spot_line hL.1 q)
  | line a b e =>
    cases L with
    | all => exact False.elim (line_all hK.1 fun z hz => (q z hz).mpr trivial)
    | none => exact False.elim ((q _ (can_p hK.1)).mp (line_p hK.1))
    | spot w => exact False.elim (spot_line hK.1 fun z hz => (q z hz).symm)
    | line a' b' e' =>
      obtain ⟨r1, r2, r3⟩ := line_line hK hL q
      rw [r1, r2, r3]
/-! ### where two copies meet -/
end L3

/-! ## CM6 -/
set_option Elab.async false
set_option linter.all false
set_option maxHeartbeats 1000000
/-! Copies done several times. -/
namespace L3
open NM L2
theorem Cp.pow_ok {c : Cp} (h : c.ok) : ∀ n, (c.pow n).ok
  | 0 => Cp.id_ok
  | n + 1 => Cp.comp_ok (Cp.pow_ok h n) h
theorem Cp.pow_add {c : Cp} (h : c.ok) (m : Nat) : ∀ n, c.pow (m + n) = (c.pow m).comp (c.pow n)
  | 0 => (Cp.comp_id (Cp.pow_ok h m)).symm
  | n + 1 => by
    show (c.pow (m + n)).comp c = (c.pow m).comp ((c.pow n).comp c)
    rw [Cp.pow_add h m n, Cp.comp_assoc (Cp.pow_ok h m) (Cp.pow_ok h n) h]
/-! ### whole numbers of two parts -/
def gp (X Y : Int) : Nat → Int × Int
  | 0 => (1, 0)
  | n + 1 => ((gp X Y n).1 * X - (gp X Y n).2 * Y, (gp X Y n).1 * Y + (gp X Y n).2 * X)
/-! ### turns of copies done several times -/
/-! ### the first time that a copy, done again and again, carries all spots to themselves -/
end L3

/-! ## LW2 -/
set_option Elab.async false
set_option linter.all false
set_option maxRecDepth 100000
set_option maxHeartbeats 4000000
namespace L3
open PySem NM L2
section
variable {Γ : CL} {μ : MH} {Q : D → MH → Prop} {a b c : Cp}
end
theorem CB {a b : Int} {n m : Nat} (h : Bt n a) (l : Bt m b) (hn : n ≤ big) (hm : m ≤ big) : CBig a b := ⟨h.mono hn, l.mono hm⟩
end L3

/-! ## V6 -/
set_option Elab.async false
set_option linter.all false
set_option maxRecDepth 100000
set_option maxHeartbeats 1000000
namespace L3
open PySem NM L2
end L3

/-! ## V7 -/
set_option Elab.async false
set_option linter.all false
set_option maxRecDepth 100000
set_option maxHeartbeats 1000000
namespace L3
open PySem NM L2
local macro_rules | `(tactic| walk_at "d") => `(tactic| (try (simp only [rSeq, rAsg, rRet, rRetN, rDrop, rIf, rNext, rPar, rPar3, rCons, rNil, rStar, rCl, rOp, rUn, rVar, rC, rGN, rTup, rLst, rB, rAnd, rOr, rNot, rIfE, rAndV, rOrV, rNotV, rNever, rFld, rOwn, rMeth, rMakeK, rMakeD, rFldS, rFrz, rSetIx, rMut, rILst, rITup, rIRng1, rIRng2, rFor, rLc, rLcM, rTrue, gt, st, gI, gI0, gU, gIx, gEq, gNe, gAdd, gSub, gMul, gDiv, gMod, gPow, gLt, gLe, gGt, gGe, gIsi, gAbs, gLen, gAll, gIsN, gNotN, isNonD, seqD, res, atI_0, atI_1, atI_2, atI_3, atI_4, List.getElem?_cons_zero, List.getElem?_cons_succ, List.length_cons, List.length_nil, decide_eq_true_eq, List.map_cons, List.map_nil, startD, List.cons_append, List.nil_append, List.replicate, Nat.zero_add, if_true, if_false, Bool.false_eq_true, and_self, true_and, ite_true, ite_false, Nat.reduceAdd, Nat.reduceSub, ln, Nat.reduceLeDiff, fin, String.reduceBEq, Bool.not_true, Bool.not_false, pureN, deq_int, deq_tt, deq_t0, deq_bl, List.all_cons, List.all_nil, Bool.and_true, Bool.true_and, Bool.and_eq_true, List.append_nil, lk_turn, lk_shift, lk_mirrored, lk_key, insD_copy, own2_c, own1_c, rG_nil, rG_cons, rGLst_i, updM_same, updM_updM, Option.map_some, Option.map_none])))
/-! ### arms -/
/-! ### copies about a pole -/
theorem about_ok {p t : Num} {m : Bool} (hp : Can p) (ht : Can t) (nt : NZ t) : (aboutC p t m).ok := ⟨ht, nt, can_sub hp (can_mul ht (can_flip hp))⟩
theorem about_sz {p t : Num} {m : Bool} {n k : Nat} (hp : Can p) (ht : Can t) (sp : Sz n p) (st : Sz k t) : (aboutC p t m).sz (n + n + k + 3) :=
  ⟨st.mono (by omega), (Sz.add hp (can_opp (can_mul ht (can_flip hp))) sp (Sz.mul ht (can_flip hp) st (sz_flip sp)).opp).mono (by omega)⟩
/-! ### chains -/
theorem atI_last {α : Type} (l : List α) (x : α) : atI (l ++ [x]) (-1) = some x := by
  unfold atI ixN
  have h1 : ¬ (0 : Int) ≤ -1 := by decide
  have h2 : -((l ++ [x]).length : Int) ≤ -1 := by rw [List.length_append]; show -(((l.length + 1 : Nat)) : Int) ≤ -1; omega
  rw [if_neg h1, if_pos h2]
  have e : (-1 + ((l ++ [x]).length : Int)).toNat = l.length := by rw [List.length_append]; show (-1 + (((l.length + 1 : Nat)) : Int)).toNat = _; omega
  show (l ++ [x])[(-1 + ((l ++ [x]).length : Int)).toNat]? = _
  rw [e, List.getElem?_append_right (Nat.le_refl _), Nat.sub_self]
  rfl
/-! ### the law's own arms -/
theorem vc_law_step (Γ : CL) : ∀ ds μ R, sp_law_step Γ ds μ R → rd_law_step Γ (fin R) (startD 2 ds) μ := by
  rintro ds μ R ⟨g, n, xs, rfl, n0, n10, hm, hx, h⟩
  unfold rd_law_step
  rw [show startD 2 [.ref g, .int n] = [some (.ref g), some (.int n)] from rfl]
  have cb : CBig 2 n := ⟨bt_small (by decide) (by decide), bt_small (by omega) (by decide)⟩
  simp only [rRet, rTup, rCons, rOp, rCl, rVar, rC, rNil, gt, gMul, gI, gAdd, gSub, gI0]
  refine ⟨cb, g, 2 * n + 1, xs, rfl, by omega, by omega, hm, hx, fun a ys a0 a1 hy => ?_⟩
  refine ⟨cb, g, 2 * n + 1, ys, rfl, by omega, by omega, updM_same, hy, fun b ys2 b0 b1 hy2 => ?_⟩
  refine ⟨by show 3 ≤ 2 ^ 24; decide, ?_⟩
  rw [updM_updM]
  exact h (a - n) (b - n) ys2 (by omega) (by omega) (by omega) (by omega) hy2
theorem can_i1 (x y : Int) : Can ⟨x, y, 1⟩ := ⟨by show (0 : Int) < 1; decide, by
  show gz (gz x y) 1 = 1
  have h1 := gz_dr (gz x y) 1
  have h2 := gz_pos (a := gz x y) (show (1 : Int) ≠ 0 by decide)
  have := Int.le_of_dvd (by decide) h1
  omega⟩
end L3

/-! ## V9 -/
set_option Elab.async false
set_option linter.all false
set_option maxRecDepth 100000
set_option maxHeartbeats 1000000
namespace L3
open PySem NM L2
theorem vc_law_ratio (Γ : CL) : ∀ ds μ R, sp_law_ratio Γ ds μ R → rd_law_ratio Γ (fin R) (startD 2 ds) μ := by
  intro ds μ R h
  unfold sp_law_ratio at h
  split at h <;> first | exact h.elim | skip
  rename_i p q
  obtain ⟨h1, sp, sq, h⟩ := h
  unfold rd_law_ratio
  rw [show startD 2 [.int p, .int q] = [some (.int p), some (.int q)] from rfl]
  have z0 : Bt big 0 := by unfold Bt; exact Nat.two_pow_pos _
  simp only [rRet, rTup, rCons, rOp, rCl, rVar, rC, rNil, gt]
  refine ⟨h1, sp, z0, sq, ?_⟩
  simp only [gIx_n0]
  refine ⟨h1, sp, z0, sq, ?_⟩
  simp only [gIx_n2]
  refine ⟨by show 2 ≤ 2 ^ 24; decide, ?_⟩
  exact h
theorem vc_law_size (Γ : CL) : ∀ ds μ R, sp_law_size Γ ds μ R → rd_law_size Γ (fin R) (startD 1 ds) μ := by
  intro ds μ R h
  unfold sp_law_size at h
  split at h <;> first | exact h.elim | skip
  rename_i x y d
  obtain ⟨h1, ⟨s1, s2, s3⟩, h⟩ := h
  unfold rd_law_size
  rw [show startD 1 [.tup [.int x, .int y, .int d]] = [some (numD ⟨x, y, d⟩)] from rfl]
  have cb : ∀ {i j : Int}, Bt half i → Bt half j → CBig i j := fun h l => CB h l (by decide) (by decide)
  simp only [rRet, rCl, rCons, rOp, rVar, rC, rNil, gt, gIx_n0, gIx_n1, gIx_n2, gMul, gI, gAdd, gI0]
  refine ⟨cb s1 s1, cb s2 s2, cb s3 s3, Int.mul_ne_zero h1 h1, ((s1.mul s1).add (s2.mul s2)).mono (by decide), (s3.mul s3).mono (by decide), ?_⟩
  exact h
section
variable {Γ : CL} {μ : MH} {Q : D → MH → Prop}
theorem lsize_i {z : Num} (h : Can z) (s : Sz half z) (q : Q (frD (szN z)) μ) : sp_law_size Γ [numD z] μ Q := ⟨ne_d h, s, q⟩
end
/-! ### zones -/
end L3

/-! ## V10 -/
set_option Elab.async false
set_option linter.all false
set_option maxRecDepth 100000
set_option maxHeartbeats 1000000
namespace L3
open PySem NM L2
/-! ### what several pairs leave of the poles -/
/-! ### == of what is told -/
/-! ### the defs -/
end L3

/-! ## SP2 -/
set_option Elab.async false
set_option linter.all false
set_option maxRecDepth 100000
set_option maxHeartbeats 4000000
/-! Specs of drawings and codes. -/
namespace L3
open PySem NM L2
abbrev Stk := List Num
def strD (s : Stk) : D := .tup (s.map numD)
def strsD (ss : List Stk) : D := .tup (ss.map strD)
/-- no spot stands twice in a row -/
def moves : Stk → Prop
  | [] => True
  | [_] => True
  | a :: b :: r => a ≠ b ∧ moves (b :: r)
structure okSt (n : Nat) (s : Stk) : Prop where
  ne : 1 ≤ s.length
  le : s.length ≤ 12
  mv : moves s
  can : ∀ z ∈ s, Can z ∧ Sz n z
structure okDr (n : Nat) (ss : List Stk) : Prop where
  le : ss.length ≤ 12
  st : ∀ s ∈ ss, okSt n s
theorem okSt.mono {n m : Nat} {s : Stk} (h : okSt n s) (l : n ≤ m) : okSt m s := ⟨h.ne, h.le, h.mv, fun z hz => ⟨(h.can z hz).1, (h.can z hz).2.mono l⟩⟩
theorem okDr.mono {n m : Nat} {ss : List Stk} (h : okDr n ss) (l : n ≤ m) : okDr m ss := ⟨h.le, fun s hs => (h.st s hs).mono l⟩
theorem okDr.nil {n : Nat} : okDr n [] := ⟨by decide, fun s hs => nomatch hs⟩
theorem okDr.one {n : Nat} {s : Stk} (h : okSt n s) : okDr n [s] := ⟨by show 1 ≤ 12; decide, fun t ht => by
  rcases List.mem_cons.mp ht with rfl | ht
  · exact h
  · exact nomatch ht⟩
def c_MAX_SPOTS : D := .int 12
def sp_check_stroke (Γ : CL) : GN := fun ds μ R => ∃ s d, ds = [strD s, d] ∧ okSt big s ∧ R .non μ
def movedBy (c : Cp) (ss : List Stk) : List Stk := ss.map fun s => s.map c.at
/-! the law's helpers -/
def okSm (s : Stk) : Prop := 1 ≤ s.length ∧ s.length ≤ 4 ∧ moves s ∧ ∀ z ∈ s, Small z
/-! ### codes -/
def intsD (l : List Int) : List D := l.map D.int
/-- nothing that was is lost -/
def Ext (μ μ' : MH) : Prop := ∀ a m, μ a = some m → μ' a = some m
theorem Ext.refl {μ : MH} : Ext μ μ := fun _ _ h => h
theorem Ext.trans {μ μ1 μ2 : MH} (h : Ext μ μ1) (l : Ext μ1 μ2) : Ext μ μ2 := fun a m q => l a m (h a m q)
theorem Ext.upd {μ μ1 : MH} {p : Addr} {m : MO} (h : Ext μ μ1) (hp : μ p = none) : Ext μ (updM μ1 p m) := fun a n q => by
  rw [updM_ne (fun e => by rw [e, hp] at q; cases q)]
  exact h a n q
def rdFs (l : List Int) (k : Nat) : List (Str × D) := [("codes", .lst (intsD l)), ("place", .int k)]
def rdO (Γ : CL) (l : List Int) (k : Nat) : MO := .ins Γ.Reader (rdFs l k)
end L3

/-! ## RB2 -/
set_option Elab.async false
set_option linter.all false
set_option maxRecDepth 100000
set_option maxHeartbeats 4000000
namespace L3
open PySem NM L2
/-- check_stroke(stroke, index) : 0 stroke, 1 index, 2 spot, 3 e, 4 is_still, 5 one, 6 other -/
def rd_check_stroke (Γ : CL) : RS := (rSeq (rFor (rITup (rVar 0)) (rGN 2)
 (rDrop (rCl (sp_check_spot Γ) (rCons (rVar 2) rNil))))
 (rSeq (rAsg (rCl gAny (rCons (rLc (rIZip (rCons (rVar 0) (rCons (rSl (rVar 0) (rPart (rC (.int 1))) rNoPart) rNil))) (rGTup 2 (rGCons (rGN 5) (rGCons (rGN 6) rGNil))) rTrue (rOp gEq (rVar 5) (rVar 6)) [5, 6]) rNil)) (rGN 4))
 (rIf (rOr (rNot (rB (rChain gLe gLe (rC (.int 1)) (rCl gLen (rCons (rVar 0) rNil)) (rC c_MAX_SPOTS)))) (rB (rVar 4)))
 rNever
 rNext)))
end L3

/-! ## SP3 -/
set_option Elab.async false
set_option linter.all false
set_option maxRecDepth 100000
set_option maxHeartbeats 4000000
/-! Promises of what is raised. -/
namespace L3
open PySem NM L2
def spx_check_spot (Γ : CL) : GX := fun ds μ R re => ∃ d, ds = [d] ∧ numOk d ∧ (isNumD d = true → R .non μ) ∧ (isNumD d = false → re (Γ.gx "InvalidSpot") [] μ)
end L3

/-! ## RB3 -/
set_option Elab.async false
set_option linter.all false
set_option maxRecDepth 100000
set_option maxHeartbeats 4000000
namespace L3
open PySem NM L2
/-- check_spot(value), that may raise : 0 value -/
def rdx_check_spot (Γ : CL) : RS := (rIf (rNot (rB (rCl (sp_is_number Γ) (rCons (rVar 0) rNil))))
 (rRaise (Γ.gx "InvalidSpot"))
 rNext)
end L3

/-! ## V17 -/
set_option Elab.async false
set_option linter.all false
set_option maxRecDepth 100000
set_option maxHeartbeats 1000000
/-! Errors told. -/
namespace L3
open PySem NM L2
theorem isEx_i {a : Addr} {b : Bool} {i : Nat} {ρ : EV} {μ : MH} {R : D → MH → Prop} (h : gt ρ i = some (.ref a)) (q : R (.bl b) μ) : rIsEx a b (rVar i) ρ μ R := by
  simp only [rIsEx, rVar, h]
  exact ⟨trivial, q⟩
theorem gAdd_lll {as bs : List D} {μ : MH} {R : D → MH → Prop} (hl : as.length + bs.length ≤ 1000) (h : R (.lst (as ++ bs)) μ) : gAdd (.lst as) (.lst bs) μ R := ⟨Nat.le_trans hl (by decide), h⟩
def kindsD (bs : Nat → Bool) : List D := [.bl (bs 0), .bl (bs 1), .bl (bs 2), .bl (bs 3), .bl (bs 4), .bl (bs 5), .bl (bs 6), .bl (bs 7), .bl (bs 8), .bl (bs 9), .bl (bs 10), .bl (bs 11), .bl (bs 12), .bl (bs 13), .bl (bs 14), .bl (bs 15), .bl (bs 16), .bl (bs 17), .bl (bs 18), .bl (bs 19)]
def namesD : List D := [.str "spot", .str "turn", .str "times", .str "few", .str "stroke", .str "open", .str "reach", .str "out", .str "many", .str "size", .str "box", .str "contra", .str "text", .str "row", .str "unknown", .str "name", .str "code", .str "arm", .str "free", .str "operation"]
theorem gEq_s {x y : Str} {b : Bool} (hx : PyData.strOk x = true) (hy : PyData.strOk y = true) (h : (x == y) = b) {μ : MH} {R : D → MH → Prop} (q : R (.bl b) μ) : gEq (.str x) (.str y) μ R := ⟨hx, hy, by
  show R (.bl (deq (.str x) (.str y))) μ
  rw [deq_str, h]
  exact q⟩
theorem kinds_get {bs : Nat → Bool} {j : Nat} {z : D} (h : (kindsD bs)[j]? = some z) : z = .bl (bs j) := by
  rw [show kindsD bs = (List.range 20).map (fun j => D.bl (bs j)) from rfl, List.getElem?_map] at h
  cases w : (List.range 20)[j]? with
  | none => rw [w] at h; cases h
  | some k =>
    rw [w] at h
    obtain ⟨h1, h2⟩ := List.getElem?_eq_some_iff.mp w
    rw [List.getElem_range] at h2
    subst h2
    exact (Option.some.inj h).symm
theorem no_before {m : Nat} : ∀ j z, j < m → (kindsD fun j => decide (j = m))[j]? = some z → deq z (.bl true) = false := fun j z hj h => by
  rw [kinds_get h]
  show deq (.bl (decide (j = m))) (.bl true) = false
  rw [decide_eq_false (by omega)]
  rfl
/-! ### copies done too often -/
end L3

/-! ## V18 -/
set_option Elab.async false
set_option linter.all false
set_option maxRecDepth 100000
set_option maxHeartbeats 1000000
/-! What check_spot, check_turn, poles raise. -/
namespace L3
open PySem NM L2
theorem vcx_check_spot (Γ : CL) : ∀ ds μ R re, spx_check_spot Γ ds μ R re → rdx_check_spot Γ (finX R re) (startD 1 ds) μ := by
  rintro ds μ R re ⟨d, rfl, ok, h1, h2⟩
  unfold rdx_check_spot
  rw [show startD 1 [d] = [some d] from rfl]
  simp only [rIf, rNot, rB, rCl, rCons, rVar, rNil, gt]
  refine ⟨ok, ?_⟩
  cases hb : isNumD d with
  | true =>
    simp only [Bool.not_true, Bool.false_eq_true, if_false, rNext]
    exact h1 hb
  | false =>
    simp only [Bool.not_false, if_true, rRaise, finX]
    exact h2 hb
end L3

/-! ## V11 -/
set_option Elab.async false
set_option linter.all false
set_option maxRecDepth 100000
set_option maxHeartbeats 1000000
/-! Drawings. -/
namespace L3
open PySem NM L2
theorem cut_from1 (ds : List D) : cutD ds (some 1) none = ds.drop 1 := by
  unfold cutD
  rw [HT.sIx_none, show (some (1 : Int)) = some ((1 : Nat) : Int) from rfl, HT.sIx_nat]
  cases ds with
  | nil => rfl
  | cons d r =>
    rw [Nat.min_eq_left (by simp), List.take_of_length_le]
    rw [List.length_drop]
    omega
theorem bools_rep' (n : Nat) (b : Bool) : bools (List.replicate n (D.bl b)) = some (List.replicate n b) := by
  induction n with
  | zero => rfl
  | succ n ih =>
    show (bools (List.replicate n (D.bl b))).map (b :: ·) = _
    rw [ih]
    rfl
theorem any_rep (n : Nat) : (List.replicate n false).any _root_.id = false := by
  induction n with
  | zero => rfl
  | succ n ih => exact ih
theorem gEq_num {z w : Num} {μ : MH} {R : D → MH → Prop} : gEq (numD z) (numD w) μ R = R (.bl (decide (z = w))) μ := by
  have e : deq (numD z) (numD w) = decide (z = w) := deq_num
  unfold gEq
  rw [show res μ (numD z) = numD z from rfl, show res μ (numD w) = numD w from rfl, e]
  exact propext ⟨fun h => h.2.2, fun h => ⟨rfl, rfl, h⟩⟩
theorem gNe_num {z w : Num} {μ : MH} {R : D → MH → Prop} : gNe (numD z) (numD w) μ R = R (.bl (!decide (z = w))) μ := by
  have e : deq (numD z) (numD w) = decide (z = w) := deq_num
  unfold gNe
  rw [show res μ (numD z) = numD z from rfl, show res μ (numD w) = numD w from rfl, e]
  exact propext ⟨fun h => h.2.2, fun h => ⟨rfl, rfl, h⟩⟩
/-! ### strokes -/
theorem stk_check_loop {Γ : CL} {E : Ed} {s0 s1 s3 s4 s5 s6 : Option D} {μ : MH} : ∀ (r : Stk) (x : Option D), (∀ z ∈ r, Can z ∧ Sz big z) → (∀ x, E.nx [s0, s1, x, s3, s4, s5, s6] μ) →
    forD (rGN 2) (rDrop (rCl (sp_check_spot Γ) (rCons (rVar 2) rNil))) tru E (r.map numD) [s0, s1, x, s3, s4, s5, s6] μ
  | [], x, _, h => ⟨trivial, h x⟩
  | z :: r, x, hz, h => by
    refine ⟨trivial, ?_⟩
    simp only [rGN, st, rDrop, rCl, rCons, rVar, rNil, gt]
    obtain ⟨h1, h2⟩ := hz z (List.mem_cons_self ..)
    exact ⟨h1, h2, stk_check_loop r _ (fun w hw => hz w (List.mem_cons_of_mem _ hw)) h⟩
theorem still_lc {s0 s1 s2 s3 s4 : Option D} {μ : MH} {R : List D → MH → Prop} : ∀ (s : Stk) (acc : List D), moves s → R (acc ++ List.replicate (s.length - 1) (.bl false)) μ →
    lcD (rGTup 2 (rGCons (rGN 5) (rGCons (rGN 6) rGNil))) rTrue (rOp gEq (rVar 5) (rVar 6)) tru [s0, s1, s2, s3, s4, none, none] (zipD (s.map numD) ((s.map numD).drop 1)) acc μ R
  | [], acc, _, h => ⟨trivial, by simpa using h⟩
  | [a], acc, _, h => ⟨trivial, by simpa using h⟩
  | a :: b :: r, acc, hm, h => by
    refine ⟨trivial, ?_⟩
    have e : (fun ρ1 μ1 => rTrue ρ1 μ1 fun c μ2 => if c = true then rOp gEq (rVar 5) (rVar 6) ρ1 μ2 fun y μ3 => lcD (rGTup 2 (rGCons (rGN 5) (rGCons (rGN 6) rGNil))) rTrue (rOp gEq (rVar 5) (rVar 6)) tru [s0, s1, s2, s3, s4, none, none] (zipD ((b :: r).map numD) (((b :: r).map numD).drop 1)) (acc ++ [y]) μ3 R
      else lcD (rGTup 2 (rGCons (rGN 5) (rGCons (rGN 6) rGNil))) rTrue (rOp gEq (rVar 5) (rVar 6)) tru [s0, s1, s2, s3, s4, none, none] (zipD ((b :: r).map numD) (((b :: r).map numD).drop 1)) acc μ2 R) [s0, s1, s2, s3, s4, some (numD a), some (numD b)] μ := by
      simp only [rTrue, if_true, rOp, rVar, gt, gEq_num, decide_eq_false hm.1]
      refine still_lc (b :: r) _ hm.2 ?_
      rw [List.append_assoc]
      exact h
    exact ⟨rfl, rfl, e⟩
theorem vc_check_stroke (Γ : CL) : ∀ ds μ R, sp_check_stroke Γ ds μ R → rd_check_stroke Γ (fin R) (startD 7 ds) μ := by
  rintro ds μ R ⟨s, d, rfl, k, h⟩
  unfold rd_check_stroke
  rw [show startD 7 [strD s, d] = [some (strD s), some d, none, none, none, none, none] from rfl]
  refine seq_g fun N hN => ?_
  simp only [rFor, rITup, rVar, gt, strD]
  refine stk_check_loop s none k.can fun x => ?_
  refine hN _ _ ?_
  clear hN N
  refine seq_g fun N hN => ?_
  simp only [rAsg, rCl, rCons, rNil, rLc, rIZip, rSl, rVar, rC, rPart, rNoPart, gt, gSl, res, rowD, cut_from1]
  have k12 := k.le
  refine ⟨by rw [zipD_len, List.length_drop, List.length_map]; show _ ≤ 2 ^ 24; omega, ?_⟩
  simp only [rms, rm]
  refine still_lc s [] k.mv ?_
  simp only [List.nil_append, gAny, res, bools_rep', any_rep, rGN, st]
  refine hN _ _ ?_
  clear hN N
  simp only [rIf, rOr, rNot, rB, rChain, rC, rCl, rCons, rVar, rNil, gt, gLen, res, seqD, gLe, gI0, List.length_map, c_MAX_SPOTS]
  have k1 := k.ne
  rw [decide_eq_true (show (1 : Int) ≤ (s.length : Int) by omega), if_pos rfl, decide_eq_true (show (s.length : Int) ≤ 12 by omega)]
  simp only [Bool.not_true, Bool.false_eq_true, if_false, rNext]
  exact h
theorem check_i {Γ : CL} {s : Stk} {d : D} {μ : MH} {Q : D → MH → Prop} (k : okSt big s) (q : Q .non μ) : sp_check_stroke Γ [strD s, d] μ Q := ⟨s, d, rfl, k, q⟩
/-! ### drawings -/
/-! ### the same drawing -/
/-! ### carried -/
theorem Cp.at_inj {c : Cp} {z w : Num} (h : c.ok) (hz : Can z) (hw : Can w) (e : c.at z = c.at w) : z = w := by
  rw [← Cp.inv_at h hz, e, Cp.inv_at h hw]
theorem moves_at {c : Cp} (h : c.ok) : ∀ {s : Stk}, (∀ z ∈ s, Can z) → moves s → moves (s.map c.at)
  | [], _, _ => trivial
  | [_], _, _ => trivial
  | a :: b :: r, k, m => ⟨fun e => m.1 (Cp.at_inj h (k a (by simp)) (k b (by simp)) e), moves_at h (fun z hz => k z (List.mem_cons_of_mem _ hz)) m.2⟩
theorem okSt.at {c : Cp} {n m : Nat} {s : Stk} (h : c.ok) (hs : c.sz n) (k : okSt m s) : okSt (n + m + 1 + n + 1) (s.map c.at) :=
  ⟨by rw [List.length_map]; exact k.ne, by rw [List.length_map]; exact k.le, moves_at h (fun z hz => (k.can z hz).1) k.mv, fun z hz => by
    obtain ⟨w, hw, rfl⟩ := List.mem_map.mp hz
    exact ⟨Cp.can_at h (k.can w hw).1, Cp.sz_at h (k.can w hw).1 hs (k.can w hw).2⟩⟩
theorem okDr.at {c : Cp} {n m : Nat} {ss : List Stk} (h : c.ok) (hs : c.sz n) (k : okDr m ss) : okDr (n + m + 1 + n + 1) (movedBy c ss) :=
  ⟨by unfold movedBy; rw [List.length_map]; exact k.le, fun s q => by
    obtain ⟨t, ht, rfl⟩ := List.mem_map.mp q
    exact (k.st t ht).at h hs⟩
/-! ### random strokes -/
theorem Small.num {z : Num} (h : Small z) : Can z ∧ Sz 5 z := h
theorem okSm.ok {s : Stk} (h : okSm s) : okSt 5 s := ⟨h.1, by have := h.2.1; omega, h.2.2.1, fun z hz => h.2.2.2 z hz⟩
theorem moves_snoc : ∀ {s : Stk} {a b : Num}, moves (s ++ [a]) → a ≠ b → moves (s ++ [a] ++ [b])
  | [], a, b, _, h => ⟨h, trivial⟩
  | [x], a, b, m, h => ⟨m.1, h, trivial⟩
  | x :: y :: r, a, b, m, h => ⟨m.1, moves_snoc (s := y :: r) m.2 h⟩
theorem atI_lastD (s : Stk) (a : Num) : atI ((s ++ [a]).map numD) (-(1 : Int)) = some (numD a) := by
  rw [List.map_append]
  exact atI_last _ _
theorem updM_idL {μ : MH} {g : Addr} {xs : List D} (hm : μ g = some (.lst xs)) : updM μ g (.lst xs) = μ := by
  funext b
  unfold updM
  by_cases q : b = g
  · rw [if_pos q, q, hm]
  · rw [if_neg q]
theorem gAdd_tt {as bs : List D} {μ : MH} {R : D → MH → Prop} (hl : as.length + bs.length ≤ sizeLine) (h : R (.tup (as ++ bs)) μ) : gAdd (.tup as) (.tup bs) μ R := ⟨hl, h⟩
end L3

/-! ## V11b -/
set_option Elab.async false
set_option linter.all false
set_option maxRecDepth 100000
set_option maxHeartbeats 1000000
/-! Rules about drawings for the laws. -/
namespace L3
open PySem NM L2
section
variable {Γ : CL} {μ : MH} {Q : D → MH → Prop} {as bs ss : List Stk}
end
theorem okDr.sm {n : Nat} {ss : List Stk} (h : (ss.length : Int) ≤ 12) (k : ∀ s ∈ ss, okSm s) (l : 5 ≤ n) : okDr n ss := ⟨by omega, fun s hs => (k s hs).ok.mono l⟩
end L3

/-! ## SP4 -/
set_option Elab.async false
set_option linter.all false
set_option maxRecDepth 100000
set_option maxHeartbeats 4000000
/-! What a law tells of errors, with their attributes. -/
namespace L3
open PySem NM L2
def errTx (m : Nat) : Str := (["spot", "turn", "times", "few", "stroke", "open", "reach", "out", "many", "size", "box", "contra", "text", "row", "unknown", "name", "code", "arm", "free", "operation"] : List Str).getD m ""
/-- what stands behind the error's name -/
def tailE (m : Nat) (ds : List D) : D := match m with
  | 4 => ds.headD .non
  | 16 => ds.headD .non
  | 19 => ds.headD .non
  | 7 => .tup ds
  | 12 => .tup ds
  | 13 => .tup ds
  | _ => .int 0
def valE (m : Nat) (ds : List D) : D := .tup [.str (errTx m), tailE m ds]
/-- L: which classes, by their places in the law's list -/
def resE (Γ : CL) (L : List Nat) : Addr → List (Str × D) → D → Prop := fun C fs v => ∃ m ∈ L, ∃ ds, ds.length = (attrNs m).length ∧ C = Γ.gx (errN m) ∧ fs = ((attrNs m).zip ds).reverse ∧ v = valE m ds
/-! ### fractions -/
def fr (q : Rat) : D := .tup [.int q.num, .int (q.den : Int)]
def SzQ (n : Nat) (q : Rat) : Prop := Bt n q.num ∧ Bt n (q.den : Int)
def qmin (p q : Rat) : Rat := if q < p then q else p
def qmax (p q : Rat) : Rat := if p < q then q else p
/-- a spot that is not too large -/
def SpOk (z : Num) : Prop := Can z ∧ Sz 250 z
def segs : Stk → List (Num × Num)
  | a :: b :: r => (a, b) :: segs (b :: r)
  | _ => []
def partsL : Stk → List (Num × Num)
  | [z] => [(z, z)]
  | s => segs s
def sp_common_multiple (Γ : CL) : GN := fun ds μ R => ∃ (l : List Int) (N : Int), ds = [.lst (l.map D.int)] ∧ 0 < N ∧ Bt 7900 N ∧ (∀ x ∈ l, 0 < x ∧ x ∣ N) ∧ ∀ S : Int, 0 < S → S ∣ N → (∀ x ∈ l, x ∣ S) → R (.int S) μ
def joinS : Option (Rat × Rat) → Rat × Rat → Option (Rat × Rat)
  | none, x => some x
  | some o, x => some (qmin o.1 x.1, qmax o.2 x.2)
/-! ### chains that draw -/
/-- a copy of size 1 -/
def Cp.unit (c : Cp) : Prop := re c.t * re c.t + im c.t * im c.t = 1
end L3

/-! ## RB4 -/
set_option Elab.async false
set_option linter.all false
set_option maxRecDepth 100000
set_option maxHeartbeats 4000000
namespace L3
open PySem NM L2
/-- common_multiple(values) : 0 values, 1 found, 2 value -/
def rd_common_multiple (Γ : CL) : RS := (rSeq (rAsg (rC (.int 1)) (rGN 1))
 (rSeq (rFor (rILst (rVar 0)) (rGN 2)
 (rAsg (rOp gMul (rOp gDiv (rVar 1) (rCl (sp_common_divisor Γ) (rCons (rVar 1) (rCons (rVar 2) rNil)))) (rVar 2)) (rGN 1)))
 (rRet (rVar 1))))
/-- the suite of _law_error_of : 0 _law_call, 1 e, 2 _law_kinds, 3 _law_names, 4 _law_name -/
def rd_errF (a : Addr) (fs : List (Str × D)) (bs : Nat → Bool) : RS := (rSeq (rAsg (rLst (rCons (rIsEx a (bs 0) (rVar 1)) (rCons (rIsEx a (bs 1) (rVar 1)) (rCons (rIsEx a (bs 2) (rVar 1)) rNil)))) (rGN 2))
 (rSeq (rAsg (rOp gAdd (rVar 2) (rLst (rCons (rIsEx a (bs 3) (rVar 1)) (rCons (rIsEx a (bs 4) (rVar 1)) (rCons (rIsEx a (bs 5) (rVar 1)) rNil))))) (rGN 2))
 (rSeq (rAsg (rOp gAdd (rVar 2) (rLst (rCons (rIsEx a (bs 6) (rVar 1)) (rCons (rIsEx a (bs 7) (rVar 1)) (rCons (rIsEx a (bs 8) (rVar 1)) rNil))))) (rGN 2))
 (rSeq (rAsg (rOp gAdd (rVar 2) (rLst (rCons (rIsEx a (bs 9) (rVar 1)) (rCons (rIsEx a (bs 10) (rVar 1)) (rCons (rIsEx a (bs 11) (rVar 1)) rNil))))) (rGN 2))
 (rSeq (rAsg (rOp gAdd (rVar 2) (rLst (rCons (rIsEx a (bs 12) (rVar 1)) (rCons (rIsEx a (bs 13) (rVar 1)) (rCons (rIsEx a (bs 14) (rVar 1)) rNil))))) (rGN 2))
 (rSeq (rAsg (rOp gAdd (rVar 2) (rLst (rCons (rIsEx a (bs 15) (rVar 1)) (rCons (rIsEx a (bs 16) (rVar 1)) (rCons (rIsEx a (bs 17) (rVar 1)) rNil))))) (rGN 2))
 (rSeq (rAsg (rOp gAdd (rVar 2) (rLst (rCons (rIsEx a (bs 18) (rVar 1)) (rCons (rIsEx a (bs 19) (rVar 1)) rNil)))) (rGN 2))
 (rSeq (rIf (rOr (rB (rOp gNe (rBM gCount (rVar 2) (rCons (rC (.bl true)) rNil)) (rC (.int 1)))) (rNot (rB (rIsEx a true (rVar 1)))))
 rNever
 rNext)
 (rSeq (rAsg (rLst (rCons (rC (.str "spot")) (rCons (rC (.str "turn")) (rCons (rC (.str "times")) (rCons (rC (.str "few")) (rCons (rC (.str "stroke")) (rCons (rC (.str "open")) (rCons (rC (.str "reach")) (rCons (rC (.str "out")) (rCons (rC (.str "many")) (rCons (rC (.str "size")) (rCons (rC (.str "box")) (rCons (rC (.str "contra")) rNil))))))))))))) (rGN 3))
 (rSeq (rAsg (rOp gAdd (rVar 3) (rLst (rCons (rC (.str "text")) (rCons (rC (.str "row")) (rCons (rC (.str "unknown")) (rCons (rC (.str "name")) (rCons (rC (.str "code")) (rCons (rC (.str "arm")) (rCons (rC (.str "free")) (rCons (rC (.str "operation")) rNil)))))))))) (rGN 3))
 (rSeq (rAsg (rOp gIx (rVar 3) (rBM gIndex (rVar 2) (rCons (rC (.bl true)) rNil))) (rGN 4))
 (rSeq (rIf (rB (rOp gEq (rVar 4) (rC (.str "stroke"))))
 (rRetA1 a fs 1 "index" (rVar 4))
 rNext)
 (rSeq (rIf (rB (rOp gEq (rVar 4) (rC (.str "out"))))
 (rRetA3 a fs 1 "arm" "stroke" "part" (rVar 4))
 rNext)
 (rSeq (rIf (rB (rOp gEq (rVar 4) (rC (.str "text"))))
 (rRetA2 a fs 1 "row" "word" (rVar 4))
 rNext)
 (rSeq (rIf (rB (rOp gEq (rVar 4) (rC (.str "row"))))
 (rRetA2 a fs 1 "row" "reason" (rVar 4))
 rNext)
 (rRetAI a fs 1 "place" (rB (rOp gIn (rVar 4) (rLst (rCons (rC (.str "code")) (rCons (rC (.str "operation")) rNil))))) (rVar 4) (rC (.int 0))))))))))))))))))
end L3

/-! ## V19 -/
set_option Elab.async false
set_option linter.all false
set_option maxRecDepth 100000
set_option maxHeartbeats 1000000
/-! Fractions, reach, misses. -/
namespace L3
open PySem NM L2
/-! ### fractions -/
theorem rat_nd (q : Rat) : (q.num : Rat) / ((q.den : Int) : Rat) = q := by
  rw [← Rat.divInt_eq_div, Rat.num_divInt_den]
def qN (q : Rat) : Num := ⟨q.num, 0, (q.den : Int)⟩
theorem can_qN (q : Rat) : Can (qN q) := by
  refine ⟨by show 0 < (q.den : Int); have := q.den_pos; omega, ?_⟩
  show gz (gz q.num 0) (q.den : Int) = 1
  rw [gz_0]
  unfold gz Int.gcd
  rw [Int.natAbs_natCast]
  exact congrArg _ q.reduced
theorem eq_qN {z : Num} (h : Can z) (hy : z.y = 0) : z = qN (re z) := by
  refine NM.ext h (can_qN _) ?_ ?_
  · exact (rat_nd (re z)).symm
  · show ((z.y : Int) : Rat) / _ = ((0 : Int) : Rat) / _
    rw [hy]
    rw [show ((0 : Int) : Rat) = 0 from rfl, Rat.div_def, Rat.div_def, Rat.zero_mul, Rat.zero_mul]
theorem frD_fr {z : Num} (h : Can z) (hy : z.y = 0) : frD z = fr (re z) := by
  conv => lhs; rw [eq_qN h hy]
  rfl
theorem SzQ_of {n : Nat} {z : Num} (h : Can z) (hy : z.y = 0) (s : Sz n z) : SzQ n (re z) := by
  rw [eq_qN h hy] at s
  exact ⟨s.1, s.2.2⟩
theorem SzQ.mono {n m : Nat} {q : Rat} (h : SzQ n q) (l : n ≤ m) : SzQ m q := ⟨h.1.mono l, h.2.mono l⟩
theorem low_y0 {p q : Int} (h : q ≠ 0) : (low p 0 q).y = 0 := by
  have e : im (low p 0 q) = 0 := by rw [im_low h, show ((0 : Int) : Rat) = 0 from rfl, Rat.div_def, Rat.zero_mul]
  unfold im at e
  have := cast_ne (ne_d (low_can (x := p) (y := 0) h))
  have e2 : (((low p 0 q).y : Int) : Rat) = 0 := by grind
  exact_mod_cast e2
theorem frD_low {p q : Int} (h : q ≠ 0) : frD (low p 0 q) = fr ((p : Rat) / (q : Rat)) := by rw [frD_fr (low_can h) (low_y0 h), re_low h]
theorem frD_szN {z : Num} (h : Can z) : frD (szN z) = fr (nrm z) := by
  rw [frD_fr (can_szN (ne_d h)) (szN_y h), re_szN h]
  rfl
theorem SzQ_nrm {n : Nat} {z : Num} (h : Can z) (s : Sz n z) : SzQ (n + n + 1) (nrm z) := by
  have := SzQ_of (can_szN (ne_d h)) (szN_y h) (sz_szN h s)
  rwa [re_szN h] at this
/-! ### near and far -/
section
variable {Γ : CL} {μ : MH} {Q : D → MH → Prop}
end
theorem lcm_step {s v : Int} (hs : 0 < s) (hv : 0 < v) : 0 < s.fdiv (gz s v) * v ∧ s ∣ s.fdiv (gz s v) * v ∧ v ∣ s.fdiv (gz s v) * v ∧ s.fdiv (gz s v) * v ≤ s * v ∧ (s.fdiv (gz s v)).natAbs ≤ s.natAbs := by
  have hg : 0 < gz s v := gz_pos (by omega)
  obtain ⟨k, hk⟩ := gz_dl s v
  obtain ⟨l, hl⟩ := gz_dr s v
  generalize gz s v = g at *
  have e : s.fdiv g = k := by rw [hk]; exact fdiv_mul' (by omega)
  have kp : 0 < k := by
    have : 0 < g * k := by omega
    exact Int.pos_of_mul_pos_right this hg
  rw [e]
  have h1 : 1 ≤ g := by omega
  have h2 : k ≤ s := by rw [hk]; have := Int.mul_le_mul_of_nonneg_right h1 (Int.le_of_lt kp); omega
  refine ⟨Int.mul_pos kp hv, ⟨l, by rw [hl, hk]; grind⟩, ⟨k, by grind⟩, Int.mul_le_mul_of_nonneg_right h2 (Int.le_of_lt hv), by omega⟩
theorem lcm_dvd {s v N : Int} (hs : 0 < s) (hv : 0 < v) (h1 : s ∣ N) (h2 : v ∣ N) : s.fdiv (gz s v) * v ∣ N := by
  have hg : 0 < gz s v := gz_pos (by omega)
  have hc := gz_mul_g s v
  obtain ⟨k, hk⟩ := gz_dl s v
  obtain ⟨l, hl⟩ := gz_dr s v
  generalize gz s v = g at *
  have e : s.fdiv g = k := by rw [hk]; exact fdiv_mul' (by omega)
  rw [e]
  have cop : Nat.Coprime k.natAbs l.natAbs := hc k l hk hl hg
  obtain ⟨a, ha⟩ := h1
  obtain ⟨b, hb⟩ := h2
  have e2 : k * a = l * b := by
    have : g * (k * a) = g * (l * b) := by
      have : s * a = v * b := by rw [← ha, hb]
      rw [hk, hl] at this
      grind
    exact Int.eq_of_mul_eq_mul_left (by omega) this
  have dk : k ∣ b := by
    refine Int.natAbs_dvd_natAbs.mp (cop.dvd_of_dvd_mul_left ?_)
    rw [← Int.natAbs_mul]
    exact Int.natAbs_dvd_natAbs.mpr ⟨a, e2.symm⟩
  obtain ⟨c, hc⟩ := dk
  exact ⟨c, by rw [hb, hc]; grind⟩
theorem vc_common_multiple (Γ : CL) : ∀ ds μ R, sp_common_multiple Γ ds μ R → rd_common_multiple Γ (fin R) (startD 3 ds) μ := by
  rintro ds μ R ⟨l, N0, rfl, hN0, bN, hl, h⟩
  unfold rd_common_multiple
  rw [show startD 3 [.lst (l.map D.int)] = [some (.lst (l.map D.int)), none, none] from rfl]
  have bd : ∀ x : Int, 0 < x → x ∣ N0 → Bt 7900 x := fun x hx hd => bN.le (by
    have := Int.le_of_dvd hN0 hd
    omega)
  have loop : ∀ (r pre : List Int) (s : Int) (x : Option D) (E : Ed) (μ : MH), 0 < s → s ∣ N0 → (∀ x ∈ r, 0 < x ∧ x ∣ N0) → (∀ x ∈ pre, x ∣ s) → (∀ s' y, 0 < s' → s' ∣ N0 → (∀ x ∈ pre ++ r, x ∣ s') → E.nx [some (.lst (l.map D.int)), some (.int s'), y] μ) →
      forD (rGN 2) (rAsg (rOp gMul (rOp gDiv (rVar 1) (rCl (sp_common_divisor Γ) (rCons (rVar 1) (rCons (rVar 2) rNil)))) (rVar 2)) (rGN 1)) tru E (r.map D.int) [some (.lst (l.map D.int)), some (.int s), x] μ := by
    intro r
    induction r with
    | nil => intro pre s x E μ hs hd _ hp k; exact ⟨trivial, k s x hs hd (by simpa using hp)⟩
    | cons v r ih =>
      intro pre s x E μ hs hd hr hp k
      obtain ⟨hv, dv⟩ := hr v (List.mem_cons_self ..)
      obtain ⟨k1, k2, k3, k4, k5⟩ := lcm_step hs hv
      have k6 := lcm_dvd hs hv hd dv
      refine ⟨trivial, ?_⟩
      simp only [rGN, st, rAsg, rOp, rVar, rCl, rCons, rNil, gt]
      show _ ∧ _
      refine ⟨⟨gz_ne (by omega), bt_gz (by omega) ((bd v hv dv).mono (by decide))⟩, ?_⟩
      refine ⟨⟨((bd s hs hd).le k5).mono (by decide), (bd v hv dv).mono (by decide)⟩, ?_⟩
      refine ih (pre ++ [v]) _ _ _ _ k1 k6 (fun y m => hr y (List.mem_cons_of_mem _ m)) (fun y m => ?_) (fun s' y a b c => k s' y a b (by rw [List.append_assoc] at c; exact c))
      rcases List.mem_append.mp m with m | m
      · exact Int.dvd_trans (hp y m) k2
      · have : y = v := by simpa using m
        exact this ▸ k3
  refine seq_g fun N hN => ?_
  simp only [rAsg, rC, rGN, st]
  refine hN _ _ ?_
  clear hN N
  refine seq_g fun N hN => ?_
  simp only [rFor, rILst, rVar, gt]
  refine loop l [] 1 none _ _ (by decide) (Int.one_dvd _) hl (fun _ m => nomatch m) fun s' y h1 h2 h3 => ?_
  refine hN _ _ ?_
  simp only [rRet, rVar, gt]
  exact h s' h1 h2 h3
/-! ### the distance from a part -/
/-! ### parts -/
theorem segs_mem : ∀ {s : Stk} {x : Num × Num}, x ∈ segs s → x.1 ∈ s ∧ x.2 ∈ s
  | [], x, h => nomatch h
  | [a], x, h => nomatch h
  | a :: b :: r, x, h => by
    rcases List.mem_cons.mp h with rfl | h
    · simp
    · have := segs_mem h
      exact ⟨List.mem_cons_of_mem _ this.1, List.mem_cons_of_mem _ this.2⟩
theorem parts_mem {s : Stk} {x : Num × Num} (h : x ∈ partsL s) : x.1 ∈ s ∧ x.2 ∈ s := by
  unfold partsL at h
  split at h
  · rcases List.mem_cons.mp h with rfl | h
    · simp
    · exact nomatch h
  · exact segs_mem h
theorem segs_len : ∀ {s : Stk}, (segs s).length = s.length - 1
  | [] => rfl
  | [a] => rfl
  | a :: b :: r => by
    have := segs_len (s := b :: r)
    simp only [segs, List.length_cons] at this ⊢
    omega
theorem okSt.sp {s : Stk} (h : okSt 250 s) {x : Num × Num} (hx : x ∈ partsL s) : SpOk x.1 ∧ SpOk x.2 := ⟨h.can _ (parts_mem hx).1, h.can _ (parts_mem hx).2⟩
theorem Am.ok.bt {a : Am} (h : a.ok) : Bt 10 a.lo ∧ Bt 10 a.hi := by
  obtain ⟨_, _, _, b1, b2, b3⟩ := h
  exact ⟨by unfold Bt; omega, by unfold Bt; omega⟩
theorem Am.sz.mono {a : Am} {n m : Nat} (s : a.sz n) (h : n ≤ m) : a.sz m := ⟨s.1.mono h, s.2.mono h⟩
end L3

/-! ## V20 -/
set_option Elab.async false
set_option linter.all false
set_option maxRecDepth 100000
set_option maxHeartbeats 1000000
/-! Reach that is needed, what the law tells of misses. -/
namespace L3
open PySem NM L2
/-! ### the span of a drawing -/
/-! ### what the law tells -/
theorem lcar_lc {Γ : CL} {ρ : EV} {i j : Nat} {c : Cp} {μ : MH} {R : List D → MH → Prop} (hj : ∀ d, gt (st ρ i d) j = some (toldD c)) (hi : ∀ d, gt (st ρ i d) i = some d) (kc : c.ok) (sc : c.sz quart) {s : Stk} (k : ∀ z ∈ s, Can z ∧ Sz quart z) (h : R ((s.map c.at).map numD) μ) :
    lcD (rGN i) rTrue (rCl (sp_law_carried Γ) (rCons (rVar j) (rCons (rVar i) rNil))) tru ρ (s.map numD) [] μ R := by
  refine lcD_mapG s numD (fun z => numD (c.at z)) (fun z hz Q q => ?_) (by rw [List.nil_append, show (fun z => numD (c.at z)) = numD ∘ c.at from rfl, ← List.map_map]; exact h)
  simp only [rCl, rCons, rVar, rNil, hi, hj]
  exact lcar_i kc sc (k z hz).1 (k z hz).2 q
/-! ### a chain can draw what the law does not miss -/
end L3

/-! ## V22 -/
set_option Elab.async false
set_option linter.all false
set_option maxRecDepth 100000
set_option maxHeartbeats 1000000
/-! Errors with attributes, told. -/
namespace L3
open PySem NM L2
def rd_errTl (a : Addr) (fs : List (Str × D)) : RS := (rSeq (rIf (rB (rOp gEq (rVar 4) (rC (.str "stroke"))))
 (rRetA1 a fs 1 "index" (rVar 4))
 rNext)
 (rSeq (rIf (rB (rOp gEq (rVar 4) (rC (.str "out"))))
 (rRetA3 a fs 1 "arm" "stroke" "part" (rVar 4))
 rNext)
 (rSeq (rIf (rB (rOp gEq (rVar 4) (rC (.str "text"))))
 (rRetA2 a fs 1 "row" "word" (rVar 4))
 rNext)
 (rSeq (rIf (rB (rOp gEq (rVar 4) (rC (.str "row"))))
 (rRetA2 a fs 1 "row" "reason" (rVar 4))
 rNext)
 (rRetAI a fs 1 "place" (rB (rOp gIn (rVar 4) (rLst (rCons (rC (.str "code")) (rCons (rC (.str "operation")) rNil))))) (rVar 4) (rC (.int 0)))))))
theorem vcF_head {bs : Nat → Bool} {m : Nat} {nm : Str} {fs : List (Str × D)} (h1 : ((kindsD bs).countP fun y => deq y (.bl true)) = 1) (hm : (kindsD bs)[m]? = some (.bl true)) (hno : ∀ j z, j < m → (kindsD bs)[j]? = some z → deq z (.bl true) = false) (hp : pureN 20 (.lst (kindsD bs)) = true)
    (hn : namesD[m]? = some (.str nm)) (a : Addr) (μ : MH) (DD : Ed) (q : rd_errTl a fs DD [none, some (.ref a), some (.lst (kindsD bs)), some (.lst namesD), some (.str nm)] μ) : rd_errF a fs bs DD (st (List.replicate 5 none) 1 (.ref a)) μ := by
  unfold rd_errF
  rw [show st (List.replicate 5 none) 1 (.ref a) = [none, some (.ref a), none, none, none] from rfl]
  have two : ∀ x : D, ([x, x] : List D).length ≤ sizeLine := fun _ => (by decide : 2 ≤ 2 ^ 24)
  have e : ∀ (b : Bool) (s2 s3 s4 : Option D) (R : D → MH → Prop), R (.bl b) μ → rIsEx a b (rVar 1) [none, some (.ref a), s2, s3, s4] μ R := fun b s2 s3 s4 R q => isEx_i rfl q
  refine seq_g fun N hN => ?_
  simp only [rAsg, rLst, rCons, rNil]
  refine e _ _ _ _ _ (e _ _ _ _ _ (e _ _ _ _ _ ?_))
  refine ⟨(by decide : 3 ≤ 2 ^ 24), ?_⟩
  simp only [rGN, st]
  refine hN _ _ ?_
  clear hN N
  refine seq_g fun N hN => ?_
  simp only [rAsg, rOp, rVar, gt, rLst, rCons, rNil]
  refine e _ _ _ _ _ (e _ _ _ _ _ (e _ _ _ _ _ ?_))
  refine ⟨(by decide : 3 ≤ 2 ^ 24), gAdd_lll (by show 3 + 3 ≤ 1000; decide) ?_⟩
  simp only [rGN, st, List.cons_append, List.nil_append]
  refine hN _ _ ?_
  clear hN N
  refine seq_g fun N hN => ?_
  simp only [rAsg, rOp, rVar, gt, rLst, rCons, rNil]
  refine e _ _ _ _ _ (e _ _ _ _ _ (e _ _ _ _ _ ?_))
  refine ⟨(by decide : 3 ≤ 2 ^ 24), gAdd_lll (by show 6 + 3 ≤ 1000; decide) ?_⟩
  simp only [rGN, st, List.cons_append, List.nil_append]
  refine hN _ _ ?_
  clear hN N
  refine seq_g fun N hN => ?_
  simp only [rAsg, rOp, rVar, gt, rLst, rCons, rNil]
  refine e _ _ _ _ _ (e _ _ _ _ _ (e _ _ _ _ _ ?_))
  refine ⟨(by decide : 3 ≤ 2 ^ 24), gAdd_lll (by show 9 + 3 ≤ 1000; decide) ?_⟩
  simp only [rGN, st, List.cons_append, List.nil_append]
  refine hN _ _ ?_
  clear hN N
  refine seq_g fun N hN => ?_
  simp only [rAsg, rOp, rVar, gt, rLst, rCons, rNil]
  refine e _ _ _ _ _ (e _ _ _ _ _ (e _ _ _ _ _ ?_))
  refine ⟨(by decide : 3 ≤ 2 ^ 24), gAdd_lll (by show 12 + 3 ≤ 1000; decide) ?_⟩
  simp only [rGN, st, List.cons_append, List.nil_append]
  refine hN _ _ ?_
  clear hN N
  refine seq_g fun N hN => ?_
  simp only [rAsg, rOp, rVar, gt, rLst, rCons, rNil]
  refine e _ _ _ _ _ (e _ _ _ _ _ (e _ _ _ _ _ ?_))
  refine ⟨(by decide : 3 ≤ 2 ^ 24), gAdd_lll (by show 15 + 3 ≤ 1000; decide) ?_⟩
  simp only [rGN, st, List.cons_append, List.nil_append]
  refine hN _ _ ?_
  clear hN N
  refine seq_g fun N hN => ?_
  simp only [rAsg, rOp, rVar, gt, rLst, rCons, rNil]
  refine e _ _ _ _ _ (e _ _ _ _ _ ?_)
  refine ⟨(by decide : 2 ≤ 2 ^ 24), gAdd_lll (by show 18 + 2 ≤ 1000; decide) ?_⟩
  simp only [rGN, st, List.cons_append, List.nil_append]
  refine hN _ _ ?_
  clear hN N
  show rSeq _ _ DD [none, some (.ref a), some (.lst (kindsD bs)), none, none] μ
  refine seq_g fun N hN => ?_
  simp only [rIf, rOr, rNot, rB, rOp, rBM, rVar, gt, rCons, rC, rNil, gCount]
  refine ⟨hp, rfl, ?_⟩
  rw [h1]
  simp only [gNe_i]
  refine ite_no (by decide) ?_
  refine e _ _ _ _ _ ?_
  simp only [Bool.not_true, Bool.false_eq_true, if_false, rNext]
  refine hN _ _ ?_
  clear hN N
  refine seq_g fun N hN => ?_
  simp only [rAsg, rLst, rCons, rC, rNil]
  refine ⟨(by decide : 12 ≤ 2 ^ 24), ?_⟩
  simp only [rGN, st]
  refine hN _ _ ?_
  clear hN N
  refine seq_g fun N hN => ?_
  simp only [rAsg, rOp, rVar, gt, rLst, rCons, rC, rNil]
  refine ⟨(by decide : 8 ≤ 2 ^ 24), gAdd_lll (by show 12 + 8 ≤ 1000; decide) ?_⟩
  simp only [rGN, st, List.cons_append, List.nil_append]
  refine hN _ _ ?_
  clear hN N
  show rSeq _ _ DD [none, some (.ref a), some (.lst (kindsD bs)), some (.lst namesD), none] μ
  refine seq_g fun N hN => ?_
  simp only [rAsg, rOp, rVar, gt, rBM, rCons, rC, rNil, gIndex]
  refine ⟨hp, rfl, m, _, hm, rfl, hno, ?_⟩
  rw [gIx_l, atI_lit, hn]
  simp only [rGN, st]
  refine hN _ _ ?_
  clear hN N
  exact q
theorem tl_no {nm x : Str} {b : Bool} (ok : PyData.strOk nm = true) (ox : PyData.strOk x = true) (e : (nm == x) = b) {a : Addr} {s2 s3 : Option D} {μ : MH} {R : Bool → MH → Prop} (q : R b μ) : rB (rOp gEq (rVar 4) (rC (.str x))) [none, some (.ref a), s2, s3, some (.str nm)] μ R := by
  simp only [rB, rOp, rVar, gt, rC]
  exact gEq_s ok ox e q
theorem vcF_4 {ds : List D} (hl : ds.length = (attrNs 4).length) (a : Addr) (μ : MH) (DD : Ed) (q : DD.rt (valE 4 ds) μ) : rd_errF a (((attrNs 4).zip ds).reverse) (fun j => decide (j = 4)) DD (st (List.replicate 5 none) 1 (.ref a)) μ := by
  match ds, hl, q with
  | [x0], _, q =>
    refine vcF_head (m := 4) (nm := "stroke") (by decide) (by rfl) no_before (by decide) (by rfl) a μ DD ?_
    unfold rd_errTl
    refine seq_g fun N hN => ?_
    simp only [rIf]
    refine tl_no (b := true) (by decide +kernel) (by decide +kernel) (by decide +kernel) ?_
    simp only [if_true]
    exact ⟨rfl, x0, by rfl, q⟩
theorem vcF_5 {ds : List D} (hl : ds.length = (attrNs 5).length) (a : Addr) (μ : MH) (DD : Ed) (q : DD.rt (valE 5 ds) μ) : rd_errF a (((attrNs 5).zip ds).reverse) (fun j => decide (j = 5)) DD (st (List.replicate 5 none) 1 (.ref a)) μ := by
  match ds, hl, q with
  | [], _, q =>
    refine vcF_head (m := 5) (nm := "open") (by decide) (by rfl) no_before (by decide) (by rfl) a μ DD ?_
    unfold rd_errTl
    refine seq_g fun N hN => ?_
    simp only [rIf]
    refine tl_no (b := false) (by decide +kernel) (by decide +kernel) (by decide +kernel) ?_
    simp only [Bool.false_eq_true, if_false, rNext]
    refine hN _ _ ?_
    clear hN N
    refine seq_g fun N hN => ?_
    simp only [rIf]
    refine tl_no (b := false) (by decide +kernel) (by decide +kernel) (by decide +kernel) ?_
    simp only [Bool.false_eq_true, if_false, rNext]
    refine hN _ _ ?_
    clear hN N
    refine seq_g fun N hN => ?_
    simp only [rIf]
    refine tl_no (b := false) (by decide +kernel) (by decide +kernel) (by decide +kernel) ?_
    simp only [Bool.false_eq_true, if_false, rNext]
    refine hN _ _ ?_
    clear hN N
    refine seq_g fun N hN => ?_
    simp only [rIf]
    refine tl_no (b := false) (by decide +kernel) (by decide +kernel) (by decide +kernel) ?_
    simp only [Bool.false_eq_true, if_false, rNext]
    refine hN _ _ ?_
    clear hN N
    simp only [rRetAI, rVar, gt, rB, rOp, rLst, rCons, rC, rNil]
    refine ⟨(by decide : 2 ≤ 2 ^ 24), (by decide +kernel : PyData.strOk "open" = true), (by decide +kernel), ?_⟩
    simp only [res]
    refine ite_no (by decide +kernel) ?_
    exact q
end L3

/-! ## L4c -/
set_option Elab.async false
set_option linter.all false
set_option maxRecDepth 100000
set_option maxHeartbeats 4000000
/-! xs[::-1] of a list. -/
namespace L3
open PySem PySem.Spec PyProof.Rows L2
end L3

/-! ## SP5 -/
set_option Elab.async false
set_option linter.all false
set_option maxRecDepth 100000
set_option maxHeartbeats 4000000
/-! Spots in reach of chains. -/
namespace L3
open PySem NM L2

end L3

/-! ## RB5 -/
set_option Elab.async false
set_option linter.all false
set_option maxRecDepth 100000
set_option maxHeartbeats 4000000
namespace L3
open PySem NM L2
end L3

/-! ## SP6 -/
set_option Elab.async false
set_option linter.all false
set_option maxRecDepth 100000
set_option maxHeartbeats 4000000
/-! Chains: equal ones, too many arms. -/
namespace L3
open PySem NM L2
end L3

/-! ## RB6 -/
set_option Elab.async false
set_option linter.all false
set_option maxRecDepth 100000
set_option maxHeartbeats 4000000
namespace L3
open PySem NM L2
end L3

/-! ## IK1 -/
set_option Elab.async false
set_option linter.all false
set_option maxRecDepth 100000
set_option maxHeartbeats 1000000
/-! Sets of spots that dots and stretches of lines cover; the normal form is the only one. -/
namespace L3.Ink
abbrev Q2 := Rat × Rat
def lt (a b : Q2) : Prop := a.1 < b.1 ∨ (a.1 = b.1 ∧ a.2 < b.2)
def le (a b : Q2) : Prop := a.1 < b.1 ∨ (a.1 = b.1 ∧ a.2 ≤ b.2)
instance (a b : Q2) : Decidable (lt a b) := by unfold lt; exact inferInstance
instance (a b : Q2) : Decidable (le a b) := by unfold le; exact inferInstance
def crs (a b p : Q2) : Rat := (p.1 - a.1) * (b.2 - a.2) - (p.2 - a.2) * (b.1 - a.1)
section
variable {a b c d p q : Q2}
theorem lt_trans (h : lt a b) (k : lt b c) : lt a c := by unfold lt at *; grind
theorem le_trans (h : le a b) (k : le b c) : le a c := by unfold le at *; grind
theorem lt_le (h : lt a b) (k : le b c) : lt a c := by unfold lt le at *; grind
theorem le_iff : le a b ↔ ¬ lt b a := by unfold le lt; grind
theorem lt_iff : lt a b ↔ ¬ le b a := by unfold le lt; grind
theorem le_anti (h : le a b) (k : le b a) : a = b := by unfold le at *; apply Prod.ext <;> grind
theorem lt_irrefl : ¬ lt a a := by unfold lt; grind
theorem le_refl : le a a := by unfold le; grind
theorem lt.le (h : lt a b) : le a b := le_iff.mpr fun z => lt_irrefl (lt_trans h z)
theorem le_of_eq (h : a = b) : le a b := h ▸ le_refl
theorem lt_or_eq (h : le a b) : lt a b ∨ a = b := by
  by_cases q : lt a b
  · exact .inl q
  · exact .inr (le_anti h (le_iff.mpr q))
theorem tri : lt a b ∨ a = b ∨ lt b a := by
  by_cases h : lt a b
  · exact .inl h
  · exact .inr ((lt_or_eq (le_iff.mpr h)).elim .inr fun e => .inl e.symm)
theorem lt_ne (h : lt a b) : a ≠ b := fun e => lt_irrefl (e ▸ h)
def mid (a b : Q2) : Q2 := ((a.1 + b.1) / 2, (a.2 + b.2) / 2)
theorem mid_lt (h : lt a b) : lt a (mid a b) ∧ lt (mid a b) b := by unfold lt mid at *; grind
theorem mid_on (h : crs a b p = 0) (k : crs a b q = 0) : crs a b (mid p q) = 0 := by unfold crs mid at *; grind
theorem on_l : crs a b a = 0 := by unfold crs; grind
theorem on_r : crs a b b = 0 := by unfold crs; grind
theorem crs_swap : crs b a p = - crs a b p := by unfold crs; grind
/-- parallel to the same -/
theorem par {ux uy vx vy wx wy : Rat} (hv : ¬ (vx = 0 ∧ vy = 0)) (h1 : ux * vy = uy * vx) (h2 : wx * vy = wy * vx) : ux * wy = uy * wx := by
  by_cases h : vx = 0
  · have hy : vy ≠ 0 := fun e => hv ⟨h, e⟩
    have e1 : vy * (ux * wy - uy * wx) = 0 := by grind
    rcases Rat.mul_eq_zero.mp e1 with e | e
    · exact absurd e hy
    · grind
  · have e1 : vx * (ux * wy - uy * wx) = 0 := by grind
    rcases Rat.mul_eq_zero.mp e1 with e | e
    · exact absurd e h
    · grind
theorem dir_ne (h : lt a b) : ¬ (b.1 - a.1 = 0 ∧ b.2 - a.2 = 0) := by unfold lt at h; grind
/-- two spots of a line tell it -/
theorem on_two (h : lt a b) (k : lt c d) (hc : crs a b c = 0) (hd : crs a b d = 0) : crs c d p = 0 ↔ crs a b p = 0 := by
  have v := dir_ne h
  have w := dir_ne k
  have pw : (d.1 - c.1) * (b.2 - a.2) = (d.2 - c.2) * (b.1 - a.1) := by unfold crs at *; grind
  constructor
  · intro hp
    have z : (p.1 - c.1) * (b.2 - a.2) = (p.2 - c.2) * (b.1 - a.1) := par (vx := d.1 - c.1) (vy := d.2 - c.2) w (by unfold crs at hp; grind) (by grind)
    unfold crs at *
    grind
  · intro hp
    have z : (p.1 - c.1) * (d.2 - c.2) = (p.2 - c.2) * (d.1 - c.1) := par (vx := b.1 - a.1) (vy := b.2 - a.2) v (by unfold crs at *; grind) (by grind)
    unfold crs
    grind
end
def seg (a b p : Q2) : Prop := crs a b p = 0 ∧ le a p ∧ le p b
theorem seg_l {a b : Q2} (h : lt a b) : seg a b a := ⟨on_l, le_refl, h.le⟩
theorem seg_r {a b : Q2} (h : lt a b) : seg a b b := ⟨on_r, h.le, le_refl⟩
/-- a line that leaves another one meets it in one spot at most -/
theorem meet_one {a b c d p q : Q2} (h : lt a b) (k : lt c d) (n : ¬ (crs a b c = 0 ∧ crs a b d = 0)) (h1 : crs a b p = 0) (h2 : crs a b q = 0) (h3 : crs c d p = 0) (h4 : crs c d q = 0) : p = q := by
  rcases tri (a := p) (b := q) with z | z | z
  · exact absurd ⟨(on_two h z h1 h2).mp ((on_two k z h3 h4).mpr on_l), (on_two h z h1 h2).mp ((on_two k z h3 h4).mpr on_r)⟩ n
  · exact z
  · exact absurd ⟨(on_two h z h2 h1).mp ((on_two k z h4 h3).mpr on_l), (on_two h z h2 h1).mp ((on_two k z h4 h3).mpr on_r)⟩ n
/-- a spot of the line, just behind a, that finitely many spots leave alone -/
theorem near {a b a0 b0 : Q2} (h : lt a b) (ha : crs a0 b0 a = 0) (hb : crs a0 b0 b = 0) : ∀ bs : List (Q2 → Prop), (∀ B ∈ bs, ∀ q q', crs a0 b0 q = 0 → crs a0 b0 q' = 0 → B q → B q' → q = q') →
    ∃ p, crs a0 b0 p = 0 ∧ lt a p ∧ lt p b ∧ ∀ B ∈ bs, ∀ q, crs a0 b0 q = 0 → B q → ¬ (lt a q ∧ le q p)
  | [], _ => ⟨mid a b, mid_on ha hb, (mid_lt h).1, (mid_lt h).2, fun _ x => nomatch x⟩
  | B :: bs, u => by
    obtain ⟨p, p1, p2, p3, p4⟩ := near h ha hb bs fun C m => u C (List.mem_cons_of_mem _ m)
    by_cases e : ∃ f, crs a0 b0 f = 0 ∧ B f ∧ lt a f ∧ le f p
    · obtain ⟨f, f1, f2, f3, f4⟩ := e
      have m := mid_lt f3
      refine ⟨mid a f, mid_on ha f1, m.1, lt_le m.2 (le_trans f4 p3.le), fun C hC q q1 q2 ⟨q3, q4⟩ => ?_⟩
      rcases List.mem_cons.mp hC with rfl | hC
      · have := u C (List.mem_cons_self ..) f q f1 q1 f2 q2
        subst this
        exact lt_irrefl (lt_le m.2 q4 |> fun z => by exact z)
      · exact p4 C hC q q1 q2 ⟨q3, le_trans q4 (lt_le m.2 f4).le⟩
    · refine ⟨p, p1, p2, p3, fun C hC q q1 q2 q3 => ?_⟩
      rcases List.mem_cons.mp hC with rfl | hC
      · exact e ⟨q, q1, q2, q3⟩
      · exact p4 C hC q q1 q2 q3
abbrev Ln := Q2 × Q2
def cov (ds : List Q2) (ls : List Ln) (p : Q2) : Prop := p ∈ ds ∨ ∃ l ∈ ls, seg l.1 l.2 p
def ltL (l m : Ln) : Prop := lt l.1 m.1 ∨ (l.1 = m.1 ∧ lt l.2 m.2)
structure NF (ds : List Q2) (ls : List Ln) : Prop where
  asc : ∀ l ∈ ls, lt l.1 l.2
  apart : ∀ l ∈ ls, ∀ m ∈ ls, crs l.1 l.2 m.1 = 0 → crs l.1 l.2 m.2 = 0 → ∀ p, seg l.1 l.2 p → seg m.1 m.2 p → l = m
  off : ∀ d ∈ ds, ∀ l ∈ ls, ¬ seg l.1 l.2 d
  sd : ds.Pairwise lt
  sl : ls.Pairwise ltL
open Classical in
/-- what tells a covering thing on the line through a0, b0 -/
noncomputable def thin (a0 b0 : Q2) (l : Ln) : Q2 → Prop := if crs a0 b0 l.1 = 0 ∧ crs a0 b0 l.2 = 0 then fun q => q = l.1 else fun q => seg l.1 l.2 q
/-- a stretch that is covered lies within one of the longest stretches -/
theorem inside {ds : List Q2} {ls : List Ln} (n : NF ds ls) {a b : Q2} (h : lt a b) (c : ∀ p, seg a b p → cov ds ls p) : ∃ m ∈ ls, crs a b m.1 = 0 ∧ crs a b m.2 = 0 ∧ le m.1 a ∧ le b m.2 := by
  have bad : ∀ B ∈ (ds.map fun d => (fun q => q = d)) ++ ls.map (thin a b), ∀ q q', crs a b q = 0 → crs a b q' = 0 → B q → B q' → q = q' := by
    intro B hB q q' h1 h2 h3 h4
    rcases List.mem_append.mp hB with m | m
    · obtain ⟨d, _, rfl⟩ := List.mem_map.mp m
      exact h3.trans h4.symm
    · obtain ⟨l, hl, rfl⟩ := List.mem_map.mp m
      unfold thin at h3 h4
      by_cases e : crs a b l.1 = 0 ∧ crs a b l.2 = 0
      · rw [if_pos e] at h3 h4
        exact h3.trans h4.symm
      · rw [if_neg e] at h3 h4
        exact meet_one h (n.asc l hl) e h1 h2 h3.1 h4.1
  -- the stretch that covers what comes just behind c
  have step : ∀ x, crs a b x = 0 → le a x → lt x b → ∃ m ∈ ls, crs a b m.1 = 0 ∧ crs a b m.2 = 0 ∧ le m.1 x ∧ lt x m.2 := by
    intro x hx ax xb
    obtain ⟨p, p1, p2, p3, p4⟩ := near xb hx (on_r (a := a) (b := b)) _ bad
    rcases c p ⟨p1, le_trans ax p2.le, p3.le⟩ with hd | ⟨l, hl, hs⟩
    · exact absurd ⟨p2, le_refl⟩ (p4 (fun q => q = p) (List.mem_append_left _ (List.mem_map.mpr ⟨p, hd, rfl⟩)) p p1 rfl)
    · have mem := List.mem_append_right (ds.map fun d => (fun q : Q2 => q = d)) (List.mem_map.mpr ⟨l, hl, rfl⟩ : thin a b l ∈ ls.map (thin a b))
      by_cases e : crs a b l.1 = 0 ∧ crs a b l.2 = 0
      · refine ⟨l, hl, e.1, e.2, ?_, lt_le p2 hs.2.2⟩
        have z := p4 _ mem l.1 e.1 (by unfold thin; rw [if_pos e])
        rw [le_iff]
        exact fun w => z ⟨w, hs.2.1⟩
      · exact absurd ⟨p2, le_refl⟩ (p4 _ mem p p1 (by unfold thin; rw [if_neg e]; exact hs))
  obtain ⟨m, hm, m1, m2, m3, m4⟩ := step a on_l le_refl h
  refine ⟨m, hm, m1, m2, m3, ?_⟩
  rw [le_iff]
  intro w
  obtain ⟨k, hk, k1, k2, k3, k4⟩ := step m.2 m2 m4.le w
  have am := n.asc m hm
  have ak := n.asc k hk
  have e := n.apart m hm k hk ((on_two h am m1 m2).mpr k1) ((on_two h am m1 m2).mpr k2) m.2 (seg_r am) ⟨(on_two h ak k1 k2).mpr m2, k3, k4.le⟩
  subst e
  exact lt_irrefl k4
theorem lines_in {ds ds' : List Q2} {ls ls' : List Ln} (n : NF ds ls) (n' : NF ds' ls') (c : ∀ p, cov ds ls p ↔ cov ds' ls' p) : ∀ l ∈ ls, l ∈ ls' := by
  intro l hl
  have al := n.asc l hl
  obtain ⟨m, hm, m1, m2, m3, m4⟩ := inside n' al fun p hp => (c p).mp (.inr ⟨l, hl, hp⟩)
  have am := n'.asc m hm
  obtain ⟨k, hk, k1, k2, k3, k4⟩ := inside n am fun p hp => (c p).mpr (.inr ⟨m, hm, hp⟩)
  have ak := n.asc k hk
  have o1 : crs l.1 l.2 k.1 = 0 := (on_two al am m1 m2).mp k1
  have o2 : crs l.1 l.2 k.2 = 0 := (on_two al am m1 m2).mp k2
  have e := n.apart l hl k hk o1 o2 l.1 (seg_l al) ⟨(on_two al ak o1 o2).mpr on_l, le_trans k3 m3, le_trans al.le (le_trans m4 k4)⟩
  subst e
  have e1 : m.1 = l.1 := le_anti m3 k3
  have e2 : m.2 = l.2 := le_anti k4 m4
  have : m = l := Prod.ext e1 e2
  exact this ▸ hm
theorem sorted_eq {α : Type} {r : α → α → Prop} (ir : ∀ a, ¬ r a a) (tr : ∀ a b c, r a b → r b c → r a c) : ∀ {xs ys : List α}, xs.Pairwise r → ys.Pairwise r → (∀ x, x ∈ xs ↔ x ∈ ys) → xs = ys
  | [], [], _, _, _ => rfl
  | [], y :: ys, _, _, h => nomatch (h y).mpr (List.mem_cons_self ..)
  | x :: xs, [], _, _, h => nomatch (h x).mp (List.mem_cons_self ..)
  | x :: xs, y :: ys, hx, hy, h => by
    rw [List.pairwise_cons] at hx hy
    have e : x = y := by
      rcases List.mem_cons.mp ((h x).mp (List.mem_cons_self ..)) with e | e
      · exact e
      · rcases List.mem_cons.mp ((h y).mpr (List.mem_cons_self ..)) with f | f
        · exact f.symm
        · exact absurd (tr _ _ _ (hx.1 y f) (hy.1 x e)) (ir x)
    subst e
    congr 1
    refine sorted_eq ir tr hx.2 hy.2 fun z => ⟨fun m => ?_, fun m => ?_⟩
    · rcases List.mem_cons.mp ((h z).mp (List.mem_cons_of_mem _ m)) with e | e
      · exact absurd (e ▸ hx.1 z m) (ir x)
      · exact e
    · rcases List.mem_cons.mp ((h z).mpr (List.mem_cons_of_mem _ m)) with e | e
      · exact absurd (e ▸ hy.1 z m) (ir x)
      · exact e
theorem ltL_irrefl {l : Ln} : ¬ ltL l l := fun h => h.elim lt_irrefl fun z => lt_irrefl z.2
theorem ltL_trans {l m k : Ln} (h : ltL l m) (g : ltL m k) : ltL l k := by
  rcases h with h | ⟨e, h⟩
  · rcases g with g | ⟨f, g⟩
    · exact .inl (lt_trans h g)
    · exact .inl (f ▸ h)
  · rcases g with g | ⟨f, g⟩
    · exact .inl (e ▸ g)
    · exact .inr ⟨e.trans f, lt_trans h g⟩
/-- the normal form is the only one -/
theorem unique {ds ds' : List Q2} {ls ls' : List Ln} (n : NF ds ls) (n' : NF ds' ls') (c : ∀ p, cov ds ls p ↔ cov ds' ls' p) : ds = ds' ∧ ls = ls' := by
  have hl : ∀ l, l ∈ ls ↔ l ∈ ls' := fun l => ⟨lines_in n n' c l, lines_in n' n (fun p => (c p).symm) l⟩
  refine ⟨sorted_eq (fun _ => lt_irrefl) (fun _ _ _ => lt_trans) n.sd n'.sd fun d => ⟨fun hd => ?_, fun hd => ?_⟩, sorted_eq (fun _ => ltL_irrefl) (fun _ _ _ => ltL_trans) n.sl n'.sl hl⟩
  · rcases (c d).mp (.inl hd) with z | ⟨l, h, s⟩
    · exact z
    · exact absurd s (n.off d hd l ((hl l).mpr h))
  · rcases (c d).mpr (.inl hd) with z | ⟨l, h, s⟩
    · exact z
    · exact absurd s (n'.off d hd l ((hl l).mp h))
end L3.Ink

/-! ## IK2 -/
set_option Elab.async false
set_option linter.all false
set_option maxRecDepth 100000
set_option maxHeartbeats 1000000
/-! The ink of places of whole numbers: keys of lines, joined stretches, dots. -/
namespace L3.Ink
open NM
abbrev Pl := Int × Int
abbrev Sg := Pl × Pl
abbrev Ky := Int × Int × Int
def ltI (a b : Pl) : Prop := a.1 < b.1 ∨ (a.1 = b.1 ∧ a.2 < b.2)
def leI (a b : Pl) : Prop := a.1 < b.1 ∨ (a.1 = b.1 ∧ a.2 ≤ b.2)
instance (a b : Pl) : Decidable (ltI a b) := by unfold ltI; exact inferInstance
instance (a b : Pl) : Decidable (leI a b) := by unfold leI; exact inferInstance
def minI (a b : Pl) : Pl := if ltI b a then b else a
def maxI (a b : Pl) : Pl := if ltI a b then b else a
/-- what tells the line through two places -/
def keyI (a b : Pl) : Ky :=
  let r := (b.1 - a.1).fdiv (gz (b.1 - a.1) (b.2 - a.2))
  let u := (b.2 - a.2).fdiv (gz (b.1 - a.1) (b.2 - a.2))
  if r < 0 ∨ r = 0 ∧ u < 0 then (0 - r, 0 - u, a.1 * (0 - u) - a.2 * (0 - r)) else (r, u, a.1 * u - a.2 * r)
/-- (right, up) of a key -/
def KyOk (k : Ky) : Prop := gz k.1 k.2.1 = 1 ∧ (0 < k.1 ∨ k.1 = 0 ∧ 0 < k.2.1)
theorem gz_mul_l {g a b : Int} (h : 0 < g) : gz (g * a) (g * b) = g * gz a b := by
  unfold gz
  rw [Int.gcd_mul_left]
  have : (g.natAbs : Int) = g := by omega
  rw [Int.natCast_mul, this]
theorem key_spec {a b : Pl} (h : a ≠ b) : ∃ g : Int, g ≠ 0 ∧ b.1 - a.1 = g * (keyI a b).1 ∧ b.2 - a.2 = g * (keyI a b).2.1 ∧ KyOk (keyI a b) ∧ (keyI a b).2.2 = a.1 * (keyI a b).2.1 - a.2 * (keyI a b).1 := by
  have ne : ¬ (b.1 - a.1 = 0 ∧ b.2 - a.2 = 0) := fun ⟨e1, e2⟩ => h (Prod.ext (by omega) (by omega))
  have g0 : 0 < gz (b.1 - a.1) (b.2 - a.2) := by
    by_cases e : b.2 - a.2 = 0
    · have e1 : b.1 - a.1 ≠ 0 := fun z => ne ⟨z, e⟩
      unfold gz
      rw [Int.gcd_comm]
      exact gz_pos e1
    · exact gz_pos e
  obtain ⟨r, hr⟩ := gz_dl (b.1 - a.1) (b.2 - a.2)
  obtain ⟨u, hu⟩ := gz_dr (b.1 - a.1) (b.2 - a.2)
  have er : (b.1 - a.1).fdiv (gz (b.1 - a.1) (b.2 - a.2)) = r := by
    conv => lhs; arg 1; rw [hr]
    exact fdiv_mul' (by omega)
  have eu : (b.2 - a.2).fdiv (gz (b.1 - a.1) (b.2 - a.2)) = u := by
    conv => lhs; arg 1; rw [hu]
    exact fdiv_mul' (by omega)
  have cop : gz r u = 1 := by
    have := gz_mul_l (a := r) (b := u) g0
    rw [← hr, ← hu] at this
    have z : gz (b.1 - a.1) (b.2 - a.2) * 1 = gz (b.1 - a.1) (b.2 - a.2) * gz r u := by rw [Int.mul_one]; exact this
    exact (Int.eq_of_mul_eq_mul_left (by omega) z).symm
  generalize hg : gz (b.1 - a.1) (b.2 - a.2) = g at *
  unfold keyI
  rw [hg, er, eu]
  dsimp only
  by_cases c : r < 0 ∨ r = 0 ∧ u < 0
  · rw [if_pos c]
    refine ⟨-g, by omega, by dsimp only; rw [hr]; grind, by dsimp only; rw [hu]; grind, ⟨by dsimp only; rw [gz_neg, gz_neg']; exact cop, by dsimp only; omega⟩, rfl⟩
  · rw [if_neg c]
    refine ⟨g, by omega, hr, hu, ⟨cop, ?_⟩, rfl⟩
    have : ¬ (r = 0 ∧ u = 0) := fun ⟨e1, e2⟩ => by
      rw [e1, e2] at cop
      exact absurd cop (by decide)
    dsimp only
    omega
theorem cop_dvd {r u x : Int} (h : gz r u = 1) (k : r ∣ x * u) : r ∣ x := by
  unfold gz at h
  have h : Nat.Coprime r.natAbs u.natAbs := by
    have : Int.gcd r u = 1 := by exact_mod_cast h
    exact this
  refine Int.natAbs_dvd_natAbs.mp (h.dvd_of_dvd_mul_right ?_)
  rw [← Int.natAbs_mul]
  exact Int.natAbs_dvd_natAbs.mpr k
/-- two ways that go along each other are the same -/
theorem way_one {r u r' u' : Int} (h : gz r u = 1) (s : 0 < r ∨ r = 0 ∧ 0 < u) (h' : gz r' u' = 1) (s' : 0 < r' ∨ r' = 0 ∧ 0 < u') (e : r * u' = r' * u) : r = r' ∧ u = u' := by
  have d1 : r ∣ r' := cop_dvd h ⟨u', by rw [e]⟩
  have d2 : r' ∣ r := cop_dvd h' ⟨u, by rw [← e]⟩
  have er : r = r' := Int.dvd_antisymm (by omega) (by omega) d1 d2
  subst er
  refine ⟨rfl, ?_⟩
  by_cases z : r = 0
  · subst z
    have a1 : u.natAbs = 1 := by
      have : gz 0 u = (u.natAbs : Int) := by unfold gz; rw [Int.gcd_zero_left]
      omega
    have a2 : u'.natAbs = 1 := by
      have : gz 0 u' = (u'.natAbs : Int) := by unfold gz; rw [Int.gcd_zero_left]
      omega
    omega
  · exact (Int.eq_of_mul_eq_mul_left z e).symm
/-- a place lies on a line -/
def onK (k : Ky) (p : Pl) : Prop := p.1 * k.2.1 - p.2 * k.1 = k.2.2
theorem key_on {a b : Pl} (h : a ≠ b) : onK (keyI a b) a ∧ onK (keyI a b) b := by
  obtain ⟨g, hg, e1, e2, _, e3⟩ := key_spec h
  unfold onK
  have b1 : b.1 = a.1 + g * (keyI a b).1 := by omega
  have b2 : b.2 = a.2 + g * (keyI a b).2.1 := by omega
  refine ⟨e3.symm, ?_⟩
  rw [e3, b1, b2]
  grind
/-- two different places of a line tell its key -/
theorem key_one {a b : Pl} (h : a ≠ b) {k : Ky} (ok : KyOk k) (ha : onK k a) (hb : onK k b) : keyI a b = k := by
  obtain ⟨g, hg, e1, e2, ⟨c, s⟩, e3⟩ := key_spec h
  unfold onK at ha hb
  have z : g * ((keyI a b).1 * k.2.1) = g * (k.1 * (keyI a b).2.1) := by
    have : (b.1 - a.1) * k.2.1 = (b.2 - a.2) * k.1 := by grind
    rw [e1, e2] at this
    grind
  obtain ⟨q1, q2⟩ := way_one c s ok.1 ok.2 (Int.eq_of_mul_eq_mul_left hg z)
  refine Prod.ext q1 (Prod.ext q2 ?_)
  rw [e3, q1, q2]
  exact ha
/-! ### places as spots -/
def qP (S : Int) (p : Pl) : Q2 := ((p.1 : Rat) / (S : Rat), (p.2 : Rat) / (S : Rat))
def qL (S : Int) (s : Sg) : Ln := (qP S s.1, qP S s.2)
section
variable {S : Int} (hS : 0 < S) {a b c : Pl}
include hS
theorem rS : (0 : Rat) < (S : Rat) := by exact_mod_cast hS
theorem div_lt (x y : Int) : (x : Rat) / (S : Rat) < (y : Rat) / (S : Rat) ↔ x < y := by
  have := rS hS
  rw [Rat.div_lt_iff this, Rat.div_mul_cancel (by grind)]
  exact_mod_cast Iff.rfl
theorem div_eq (x y : Int) : (x : Rat) / (S : Rat) = (y : Rat) / (S : Rat) ↔ x = y := by
  have h1 := div_lt hS x y
  have h2 := div_lt hS y x
  constructor
  · intro e
    rw [e] at h1 h2
    have n : ¬ ((y : Rat) / (S : Rat) < (y : Rat) / (S : Rat)) := by grind
    have : ¬ x < y := fun z => n (h1.mpr z)
    have : ¬ y < x := fun z => n (h2.mpr z)
    omega
  · intro e; rw [e]
theorem qP_lt : lt (qP S a) (qP S b) ↔ ltI a b := by
  unfold lt ltI qP
  dsimp only
  rw [div_lt hS, div_lt hS, div_eq hS]
theorem qP_le : le (qP S a) (qP S b) ↔ leI a b := by
  rw [le_iff, qP_lt hS]
  unfold ltI leI
  omega
/-- on the line through two places -/
theorem crs_key (h : a ≠ b) (q : Q2) : crs (qP S a) (qP S b) q = 0 ↔ q.1 * ((keyI a b).2.1 : Rat) - q.2 * ((keyI a b).1 : Rat) = ((keyI a b).2.2 : Rat) / (S : Rat) := by
  obtain ⟨g, hg, e1, e2, _, e3⟩ := key_spec h
  have s := rS hS
  have b1 : ((b.1 : Int) : Rat) = (a.1 : Rat) + (g : Rat) * ((keyI a b).1 : Rat) := by
    have : b.1 = a.1 + g * (keyI a b).1 := by omega
    exact_mod_cast this
  have b2 : ((b.2 : Int) : Rat) = (a.2 : Rat) + (g : Rat) * ((keyI a b).2.1 : Rat) := by
    have : b.2 = a.2 + g * (keyI a b).2.1 := by omega
    exact_mod_cast this
  have b3 : ((keyI a b).2.2 : Rat) = (a.1 : Rat) * ((keyI a b).2.1 : Rat) - (a.2 : Rat) * ((keyI a b).1 : Rat) := by exact_mod_cast e3
  have g0 : (g : Rat) ≠ 0 := cast_ne hg
  generalize ((keyI a b).1 : Rat) = r at *
  generalize ((keyI a b).2.1 : Rat) = u at *
  have e : crs (qP S a) (qP S b) q = (g : Rat) / (S : Rat) * (q.1 * u - q.2 * r - ((keyI a b).2.2 : Rat) / (S : Rat)) := by
    unfold crs qP
    dsimp only
    rw [b1, b2, b3]
    grind
  rw [e]
  constructor
  · intro z
    rcases Rat.mul_eq_zero.mp z with z | z
    · exfalso
      have : (g : Rat) = 0 := by grind
      exact g0 this
    · grind
  · intro z
    rw [z]
    grind
theorem crs_same {a' b' : Pl} (h : a ≠ b) (h' : a' ≠ b') (e : keyI a b = keyI a' b') (q : Q2) : crs (qP S a) (qP S b) q = 0 ↔ crs (qP S a') (qP S b') q = 0 := by
  rw [crs_key hS h, crs_key hS h', e]
theorem crs_onK (h : a ≠ b) : crs (qP S a) (qP S b) (qP S c) = 0 ↔ onK (keyI a b) c := by
  rw [crs_key hS h]
  have s := rS hS
  unfold qP onK
  dsimp only
  have e : (c.1 : Rat) / (S : Rat) * ((keyI a b).2.1 : Rat) - (c.2 : Rat) / (S : Rat) * ((keyI a b).1 : Rat) = ((c.1 * (keyI a b).2.1 - c.2 * (keyI a b).1 : Int) : Rat) / (S : Rat) := by
    push_cast
    grind
  rw [e, div_eq hS]
theorem key_eq {a' b' : Pl} (h : a ≠ b) (h' : a' ≠ b') (e1 : crs (qP S a) (qP S b) (qP S a') = 0) (e2 : crs (qP S a) (qP S b) (qP S b') = 0) : keyI a' b' = keyI a b := by
  obtain ⟨_, _, _, _, ok, _⟩ := key_spec h
  exact key_one h' ok ((crs_onK hS h).mp e1) ((crs_onK hS h).mp e2)
end
end L3.Ink

/-! ## IK3 -/
set_option Elab.async false
set_option linter.all false
set_option maxRecDepth 100000
set_option maxHeartbeats 1000000
/-! The ink of places of whole numbers is the normal form of what they cover. -/
namespace L3.Ink
open NM
section
variable {a b c : Pl}
theorem leI_iff : leI a b ↔ ¬ ltI b a := by unfold leI ltI; omega
theorem ltI_iff : ltI a b ↔ ¬ leI b a := by unfold leI ltI; omega
theorem leI_refl : leI a a := by unfold leI; omega
theorem leI_trans (h : leI a b) (k : leI b c) : leI a c := by unfold leI at *; omega
theorem leI_anti (h : leI a b) (k : leI b a) : a = b := by unfold leI at *; exact Prod.ext (by omega) (by omega)
theorem leI_total : leI a b ∨ leI b a := by unfold leI; omega
theorem ltI_le (h : ltI a b) : leI a b := by unfold leI ltI at *; omega
theorem ltI_of (h : leI a b) (k : leI b c) (n : ltI a b ∨ ltI b c) : ltI a c := by unfold leI ltI at *; omega
theorem ltI_ne (h : ltI a b) : a ≠ b := fun e => by subst e; unfold ltI at h; omega
theorem mm_lt (h : a ≠ b) : ltI (minI a b) (maxI a b) := by
  have : ¬ (a.1 = b.1 ∧ a.2 = b.2) := fun e => h (Prod.ext e.1 e.2)
  unfold minI maxI
  by_cases c : ltI b a
  · have : ¬ ltI a b := by unfold ltI at *; omega
    rw [if_pos c, if_neg this]; exact c
  · have : ltI a b := by unfold ltI at *; omega
    rw [if_neg c, if_pos this]; exact this
theorem mm_or : (minI a b = a ∧ maxI a b = b) ∨ (minI a b = b ∧ maxI a b = a) := by
  unfold minI maxI
  by_cases c : ltI b a
  · have : ¬ ltI a b := by unfold ltI at *; omega
    rw [if_pos c, if_neg this]; exact .inr ⟨rfl, rfl⟩
  · rw [if_neg c]
    by_cases d : ltI a b
    · rw [if_pos d]; exact .inl ⟨rfl, rfl⟩
    · rw [if_neg d]
      have : a = b := Prod.ext (by unfold ltI at *; omega) (by unfold ltI at *; omega)
      exact .inl ⟨rfl, this⟩
theorem maxI_l : leI a (maxI a b) := by unfold maxI; split <;> first | exact ltI_le ‹_› | exact leI_refl
theorem maxI_r : leI b (maxI a b) := by unfold maxI; split <;> first | exact leI_refl | exact leI_iff.mpr ‹_›
theorem maxI_or : maxI a b = a ∨ maxI a b = b := by unfold maxI; split <;> simp
end
/-! ### stretches joined -/
def leS (a b : Sg) : Bool := decide (ltI a.1 b.1 ∨ (a.1 = b.1 ∧ leI a.2 b.2))
def leP (a b : Pl) : Bool := decide (leI a b)
def joinR : List Sg → List Sg → List Sg
  | acc, [] => acc.reverse
  | [], s :: r => joinR [s] r
  | l :: acc, s :: r => if leI s.1 l.2 then joinR ((l.1, maxI l.2 s.2) :: acc) r else joinR (s :: l :: acc) r
def In (S : Int) (z : Q2) (s : Sg) : Prop := le (qP S s.1) z ∧ le z (qP S s.2)
theorem joinR_spec {S : Int} (hS : 0 < S) : ∀ (ss acc : List Sg), (∀ s ∈ ss, ltI s.1 s.2) → (∀ s ∈ acc, ltI s.1 s.2) → acc.Pairwise (fun a b => ltI b.2 a.1) → ss.Pairwise (fun a b => leI a.1 b.1) → (∀ l ∈ acc.head?, ∀ s ∈ ss, leI l.1 s.1) →
    (∀ s ∈ joinR acc ss, ltI s.1 s.2) ∧ (joinR acc ss).Pairwise (fun a b => ltI a.2 b.1) ∧
    (∀ z, (∃ s ∈ joinR acc ss, In S z s) ↔ ∃ s ∈ acc ++ ss, In S z s) ∧
    (∀ s ∈ joinR acc ss, (∃ t ∈ acc ++ ss, s.1 = t.1) ∧ ∃ t ∈ acc ++ ss, s.2 = t.2)
  | [], acc, h1, h2, h3, h4, h5 => by
    have e : joinR acc [] = acc.reverse := by cases acc <;> rfl
    rw [e]
    refine ⟨fun s m => h2 s (by simpa using m), ?_, fun z => by simp, fun s m => ?_⟩
    · rw [List.pairwise_reverse]; exact h3
    · have : s ∈ acc ++ [] := by simpa using m
      exact ⟨⟨s, this, rfl⟩, s, this, rfl⟩
  | s :: r, [], h1, h2, h3, h4, h5 => by
    rw [List.pairwise_cons] at h4
    have := joinR_spec hS r [s] (fun t m => h1 t (List.mem_cons_of_mem _ m)) (fun t m => by
      rcases List.mem_cons.mp m with rfl | m
      · exact h1 _ (List.mem_cons_self ..)
      · exact nomatch m) (List.pairwise_singleton ..) h4.2 (fun l m t k => by
      simp only [List.head?_cons, Option.mem_def, Option.some.injEq] at m
      subst m
      exact h4.1 t k)
    exact this
  | s :: r, l :: acc, h1, h2, h3, h4, h5 => by
    rw [List.pairwise_cons] at h4
    have hs := h1 s (List.mem_cons_self ..)
    have hl := h2 l (List.mem_cons_self ..)
    have h1' : ∀ t ∈ r, ltI t.1 t.2 := fun t m => h1 t (List.mem_cons_of_mem _ m)
    have ls : leI l.1 s.1 := h5 l (by simp) s (List.mem_cons_self ..)
    have lr : ∀ t ∈ r, leI l.1 t.1 := fun t m => h5 l (by simp) t (List.mem_cons_of_mem _ m)
    unfold joinR
    by_cases c : leI s.1 l.2
    · rw [if_pos c]
      have asc : ltI l.1 (maxI l.2 s.2) := ltI_of (ltI_le hl) maxI_l (.inl hl)
      rw [List.pairwise_cons] at h3
      obtain ⟨p1, p2, p3, p4⟩ := joinR_spec hS r ((l.1, maxI l.2 s.2) :: acc) h1' (fun t m => by
        rcases List.mem_cons.mp m with rfl | m
        · exact asc
        · exact h2 t (List.mem_cons_of_mem _ m)) (List.pairwise_cons.mpr ⟨h3.1, h3.2⟩) h4.2 (fun t m u k => by
        simp only [List.head?_cons, Option.mem_def, Option.some.injEq] at m
        subst m
        exact lr u k)
      refine ⟨p1, p2, fun z => ?_, fun t m => ?_⟩
      · rw [p3 z]
        simp only [List.cons_append, List.mem_cons, List.mem_append]
        constructor
        · rintro ⟨t, (rfl | m | m), i1, i2⟩
          · dsimp only at i1 i2
            by_cases q : le z (qP S l.2)
            · exact ⟨l, .inl rfl, i1, q⟩
            · have q : lt (qP S l.2) z := lt_iff.mpr q
              rcases maxI_or (a := l.2) (b := s.2) with e | e
              · rw [e] at i2
                exact absurd i2 (lt_iff.mp q)
              · rw [e] at i2
                exact ⟨s, .inr (.inr (.inl rfl)), le_trans ((qP_le hS).mpr c) q.le, i2⟩
          · exact ⟨t, .inr (.inl m), i1, i2⟩
          · exact ⟨t, .inr (.inr (.inr m)), i1, i2⟩
        · rintro ⟨t, (rfl | m | rfl | m), i1, i2⟩
          · exact ⟨(t.1, maxI t.2 s.2), .inl rfl, i1, le_trans i2 ((qP_le hS).mpr maxI_l)⟩
          · exact ⟨t, .inr (.inl m), i1, i2⟩
          · exact ⟨(l.1, maxI l.2 t.2), .inl rfl, le_trans ((qP_le hS).mpr ls) i1, le_trans i2 ((qP_le hS).mpr maxI_r)⟩
          · exact ⟨t, .inr (.inr m), i1, i2⟩
      · obtain ⟨⟨t1, m1, e1⟩, t2, m2, e2⟩ := p4 t m
        simp only [List.cons_append, List.mem_cons, List.mem_append] at m1 m2 ⊢
        refine ⟨?_, ?_⟩
        · rcases m1 with rfl | m1 | m1
          · exact ⟨l, .inl rfl, e1⟩
          · exact ⟨t1, .inr (.inl m1), e1⟩
          · exact ⟨t1, .inr (.inr (.inr m1)), e1⟩
        · rcases m2 with rfl | m2 | m2
          · rcases maxI_or (a := l.2) (b := s.2) with e | e
            · exact ⟨l, .inl rfl, e2.trans e⟩
            · exact ⟨s, .inr (.inr (.inl rfl)), e2.trans e⟩
          · exact ⟨t2, .inr (.inl m2), e2⟩
          · exact ⟨t2, .inr (.inr (.inr m2)), e2⟩
    · rw [if_neg c]
      have c : ltI l.2 s.1 := ltI_iff.mpr c
      obtain ⟨p1, p2, p3, p4⟩ := joinR_spec hS r (s :: l :: acc) h1' (fun t m => by
        rcases List.mem_cons.mp m with rfl | m
        · exact hs
        · exact h2 t m) (List.pairwise_cons.mpr ⟨fun t m => by
          rcases List.mem_cons.mp m with rfl | m
          · exact c
          · rw [List.pairwise_cons] at h3
            exact ltI_of (ltI_le (h3.1 t m)) ls (.inl (h3.1 t m)), h3⟩) h4.2 (fun t m u k => by
        simp only [List.head?_cons, Option.mem_def, Option.some.injEq] at m
        subst m
        exact h4.1 u k)
      have sw : ∀ t, t ∈ s :: l :: acc ++ r ↔ t ∈ l :: acc ++ s :: r := fun t => by
        simp only [List.cons_append, List.mem_cons, List.mem_append]
        constructor
        · rintro (h | h | h | h)
          · exact .inr (.inr (.inl h))
          · exact .inl h
          · exact .inr (.inl h)
          · exact .inr (.inr (.inr h))
        · rintro (h | h | h | h)
          · exact .inr (.inl h)
          · exact .inr (.inr (.inl h))
          · exact .inl h
          · exact .inr (.inr (.inr h))
      refine ⟨p1, p2, fun z => ?_, fun t m => ?_⟩
      · rw [p3 z]
        exact ⟨fun ⟨t, m, i⟩ => ⟨t, (sw t).mp m, i⟩, fun ⟨t, m, i⟩ => ⟨t, (sw t).mpr m, i⟩⟩
      · obtain ⟨⟨t1, m1, e1⟩, t2, m2, e2⟩ := p4 t m
        exact ⟨⟨t1, (sw t1).mp m1, e1⟩, t2, (sw t2).mp m2, e2⟩
theorem leS_trans (a b c : Sg) (h : leS a b = true) (k : leS b c = true) : leS a c = true := by
  unfold leS at *
  simp only [decide_eq_true_eq] at *
  rcases h with h | ⟨e, h⟩
  · rcases k with k | ⟨f, k⟩
    · exact .inl (ltI_of (ltI_le h) (ltI_le k) (.inl h))
    · exact .inl (f ▸ h)
  · rcases k with k | ⟨f, k⟩
    · exact .inl (e ▸ k)
    · exact .inr ⟨e.trans f, leI_trans h k⟩
theorem leS_total (a b : Sg) : (leS a b || leS b a) = true := by
  unfold leS
  simp only [Bool.or_eq_true, decide_eq_true_eq]
  by_cases h : ltI a.1 b.1
  · exact .inl (.inl h)
  · by_cases k : ltI b.1 a.1
    · exact .inr (.inl k)
    · have e : a.1 = b.1 := leI_anti (leI_iff.mpr k) (leI_iff.mpr h)
      rcases leI_total (a := a.2) (b := b.2) with z | z
      · exact .inl (.inr ⟨e, z⟩)
      · exact .inr (.inr ⟨e.symm, z⟩)
theorem leS_fst {a b : Sg} (h : leS a b = true) : leI a.1 b.1 := by
  unfold leS at h
  simp only [decide_eq_true_eq] at h
  rcases h with h | ⟨e, _⟩
  · exact ltI_le h
  · exact e ▸ leI_refl
/-- stretches of one line, joined -/
def joinS (l : List Sg) : List Sg := joinR [] (l.mergeSort leS)
theorem joinS_spec {S : Int} (hS : 0 < S) {l : List Sg} (h : ∀ s ∈ l, ltI s.1 s.2) : (∀ s ∈ joinS l, ltI s.1 s.2) ∧ (joinS l).Pairwise (fun a b => ltI a.2 b.1) ∧ (∀ z, (∃ s ∈ joinS l, In S z s) ↔ ∃ s ∈ l, In S z s) ∧ (∀ s ∈ joinS l, (∃ t ∈ l, s.1 = t.1) ∧ ∃ t ∈ l, s.2 = t.2) := by
  have pm := List.mergeSort_perm l leS
  have so : (l.mergeSort leS).Pairwise (fun a b => leI a.1 b.1) := (List.pairwise_mergeSort leS_trans leS_total l).imp leS_fst
  obtain ⟨p1, p2, p3, p4⟩ := joinR_spec hS (l.mergeSort leS) [] (fun s m => h s (pm.mem_iff.mp m)) (fun _ m => nomatch m) List.Pairwise.nil so (fun _ m => nomatch m)
  refine ⟨p1, p2, fun z => ?_, fun s m => ?_⟩
  · unfold joinS
    rw [p3 z]
    exact ⟨fun ⟨t, m, i⟩ => ⟨t, pm.mem_iff.mp m, i⟩, fun ⟨t, m, i⟩ => ⟨t, pm.mem_iff.mpr m, i⟩⟩
  · obtain ⟨⟨t1, m1, e1⟩, t2, m2, e2⟩ := p4 s m
    exact ⟨⟨t1, pm.mem_iff.mp m1, e1⟩, t2, pm.mem_iff.mp m2, e2⟩
/-! ### parts by their lines -/
def segsI : List Pl → List (Pl × Pl)
  | a :: b :: r => (a, b) :: segsI (b :: r)
  | _ => []
def partsI (ss : List (List Pl)) : List (Pl × Pl) := ss.flatMap segsI
def mmS (x : Pl × Pl) : Sg := (minI x.1 x.2, maxI x.1 x.2)
def insK (k : Ky) (s : Sg) : List (Ky × List Sg) → List (Ky × List Sg)
  | [] => [(k, [s])]
  | x :: r => if x.1 = k then (x.1, x.2 ++ [s]) :: r else x :: insK k s r
def putP (G : List (Ky × List Sg)) (x : Pl × Pl) : List (Ky × List Sg) := insK (keyI x.1 x.2) (mmS x) G
def groupI (ps : List (Pl × Pl)) : List (Ky × List Sg) := ps.foldl putP []
def linesI (ss : List (List Pl)) : List (Ky × List Sg) := (groupI (partsI ss)).map fun x => (x.1, joinS x.2)
theorem insK_mem {k : Ky} {s : Sg} {x : Ky × List Sg} : ∀ {G : List (Ky × List Sg)}, x ∈ insK k s G → x ∈ G ∨ (x.1 = k ∧ ((∃ l, (k, l) ∈ G ∧ x.2 = l ++ [s]) ∨ x.2 = [s]))
  | [], h => by
    have : x = (k, [s]) := by simpa [insK] using h
    subst this
    exact .inr ⟨rfl, .inr rfl⟩
  | y :: G, h => by
    unfold insK at h
    by_cases c : y.1 = k
    · rw [if_pos c] at h
      rcases List.mem_cons.mp h with e | e
      · subst e
        refine .inr ⟨c, .inl ⟨y.2, ?_, rfl⟩⟩
        rw [← c]
        exact List.mem_cons_self ..
      · exact .inl (List.mem_cons_of_mem _ e)
    · rw [if_neg c] at h
      rcases List.mem_cons.mp h with e | e
      · exact .inl (e ▸ List.mem_cons_self ..)
      · rcases insK_mem e with z | ⟨z, ⟨l, m, w⟩ | w⟩
        · exact .inl (List.mem_cons_of_mem _ z)
        · exact .inr ⟨z, .inl ⟨l, List.mem_cons_of_mem _ m, w⟩⟩
        · exact .inr ⟨z, .inr w⟩
theorem insK_keys {k : Ky} {s : Sg} : ∀ {G : List (Ky × List Sg)}, (insK k s G).map (·.1) = if k ∈ G.map (·.1) then G.map (·.1) else G.map (·.1) ++ [k]
  | [] => by simp [insK]
  | y :: G => by
    unfold insK
    by_cases c : y.1 = k
    · rw [if_pos c]
      simp [c]
    · rw [if_neg c, List.map_cons, insK_keys (G := G), List.map_cons]
      have e : k ∈ y.1 :: G.map (·.1) ↔ k ∈ G.map (·.1) := by
        rw [List.mem_cons]
        exact ⟨fun h => h.elim (fun z => absurd z.symm c) id, .inr⟩
      by_cases d : k ∈ G.map (·.1)
      · rw [if_pos d, if_pos (e.mpr d)]
      · rw [if_neg d, if_neg (fun z => d (e.mp z))]
        rfl
theorem insK_has {k : Ky} {s : Sg} : ∀ {G : List (Ky × List Sg)}, (∃ l, (k, l) ∈ insK k s G ∧ s ∈ l) ∧ ∀ x ∈ G, ∃ l, (x.1, l) ∈ insK k s G ∧ ∀ t ∈ x.2, t ∈ l
  | [] => ⟨⟨[s], by simp [insK], by simp⟩, fun x h => nomatch h⟩
  | y :: G => by
    unfold insK
    by_cases c : y.1 = k
    · rw [if_pos c]
      refine ⟨⟨y.2 ++ [s], by rw [← c]; exact List.mem_cons_self .., by simp⟩, fun x h => ?_⟩
      rcases List.mem_cons.mp h with e | e
      · subst e
        exact ⟨_, List.mem_cons_self .., fun t m => List.mem_append_left _ m⟩
      · exact ⟨x.2, List.mem_cons_of_mem _ e, fun t m => m⟩
    · rw [if_neg c]
      obtain ⟨⟨l, m, q⟩, z⟩ := insK_has (k := k) (s := s) (G := G)
      refine ⟨⟨l, List.mem_cons_of_mem _ m, q⟩, fun x h => ?_⟩
      rcases List.mem_cons.mp h with e | e
      · subst e
        exact ⟨x.2, List.mem_cons_self .., fun t m => m⟩
      · obtain ⟨l', m', q'⟩ := z x e
        exact ⟨l', List.mem_cons_of_mem _ m', q'⟩
structure GOk (ps : List (Pl × Pl)) (G : List (Ky × List Sg)) : Prop where
  nd : (G.map (·.1)).Nodup
  from_ : ∀ x ∈ G, x.2 ≠ [] ∧ ∀ s ∈ x.2, ∃ y ∈ ps, keyI y.1 y.2 = x.1 ∧ mmS y = s
  has : ∀ y ∈ ps, ∃ l, (keyI y.1 y.2, l) ∈ G ∧ mmS y ∈ l
theorem GOk.step {ps : List (Pl × Pl)} {G : List (Ky × List Sg)} (g : GOk ps G) (x : Pl × Pl) : GOk (ps ++ [x]) (putP G x) := by
  unfold putP
  refine ⟨?_, fun y h => ?_, fun y h => ?_⟩
  · rw [insK_keys]
    by_cases c : keyI x.1 x.2 ∈ G.map (·.1)
    · rw [if_pos c]; exact g.nd
    · rw [if_neg c, List.nodup_append]
      refine ⟨g.nd, by simp, fun a ha b hb e => ?_⟩
      have : b = keyI x.1 x.2 := by simpa using hb
      exact c (this ▸ e ▸ ha)
  · rcases insK_mem h with z | ⟨z, ⟨l, m, w⟩ | w⟩
    · obtain ⟨n, q⟩ := g.from_ y z
      exact ⟨n, fun s hs => let ⟨p, m, e⟩ := q s hs; ⟨p, List.mem_append_left _ m, e⟩⟩
    · obtain ⟨n, q⟩ := g.from_ _ m
      rw [w, z]
      refine ⟨by simp, fun s hs => ?_⟩
      rcases List.mem_append.mp hs with hs | hs
      · obtain ⟨p, m, e⟩ := q s hs
        exact ⟨p, List.mem_append_left _ m, e⟩
      · have : s = mmS x := by simpa using hs
        exact ⟨x, by simp, rfl, this.symm⟩
    · rw [w, z]
      refine ⟨by simp, fun s hs => ?_⟩
      have : s = mmS x := by simpa using hs
      exact ⟨x, by simp, rfl, this.symm⟩
  · obtain ⟨h1, h2⟩ := insK_has (k := keyI x.1 x.2) (s := mmS x) (G := G)
    rcases List.mem_append.mp h with h | h
    · obtain ⟨l, m, q⟩ := g.has y h
      obtain ⟨l', m', q'⟩ := h2 _ m
      exact ⟨l', m', q' _ q⟩
    · have : y = x := by simpa using h
      subst this
      exact h1
theorem GOk.fold : ∀ {qs ps : List (Pl × Pl)} {G : List (Ky × List Sg)}, GOk ps G → GOk (ps ++ qs) (qs.foldl putP G)
  | [], ps, G, g => by simpa using g
  | x :: qs, ps, G, g => by
    have := GOk.fold (qs := qs) (g.step x)
    rw [List.append_assoc] at this
    exact this
theorem group_ok (ps : List (Pl × Pl)) : GOk ps (groupI ps) := by
  have := GOk.fold (qs := ps) (ps := []) (G := []) ⟨List.Pairwise.nil, (fun _ h => nomatch h), (fun _ h => nomatch h)⟩
  exact this
/-! ### dots, all together -/
instance (k : Ky) (p : Pl) : Decidable (onK k p) := by unfold onK; exact inferInstance
def lieI (p : Pl) (L : List (Ky × List Sg)) : Bool := L.any fun x => decide (onK x.1 p) && x.2.any fun s => decide (leI s.1 p) && decide (leI p s.2)
def putDot (L : List (Ky × List Sg)) (acc : List Pl) (s : List Pl) : List Pl := match s with
  | [p] => if lieI p L = true then acc else if p ∈ acc then acc else acc ++ [p]
  | _ => acc
def dotsI (ss : List (List Pl)) (L : List (Ky × List Sg)) : List Pl := ss.foldl (putDot L) []
def inkDots (ss : List (List Pl)) : List Pl := (dotsI ss (linesI ss)).mergeSort leP
def inkLines (ss : List (List Pl)) : List Sg := ((linesI ss).flatMap (·.2)).mergeSort leS
theorem dots_fold {L : List (Ky × List Sg)} : ∀ (ss : List (List Pl)) (acc : List Pl), acc.Nodup → (ss.foldl (putDot L) acc).Nodup ∧ ∀ p, p ∈ ss.foldl (putDot L) acc ↔ p ∈ acc ∨ ([p] ∈ ss ∧ lieI p L = false)
  | [], acc, h => ⟨h, fun p => by simp⟩
  | s :: ss, acc, h => by
    rw [List.foldl_cons]
    have key : (putDot L acc s).Nodup ∧ ∀ p, p ∈ putDot L acc s ↔ p ∈ acc ∨ (s = [p] ∧ lieI p L = false) := by
      unfold putDot
      split
      · rename_i q
        by_cases c : lieI q L = true
        · rw [if_pos c]
          refine ⟨h, fun p => ⟨.inl, fun z => z.elim id fun ⟨e, w⟩ => ?_⟩⟩
          have : q = p := by simpa using e
          subst this
          rw [c] at w; cases w
        · rw [if_neg c]
          by_cases d : q ∈ acc
          · rw [if_pos d]
            refine ⟨h, fun p => ⟨.inl, fun z => z.elim id fun ⟨e, w⟩ => ?_⟩⟩
            have : q = p := by simpa using e
            exact this ▸ d
          · rw [if_neg d]
            refine ⟨List.nodup_append.mpr ⟨h, by simp, fun a ha b hb e => ?_⟩, fun p => ?_⟩
            · have : b = q := by simpa using hb
              exact d (this ▸ e ▸ ha)
            · rw [List.mem_append]
              constructor
              · rintro (z | z)
                · exact .inl z
                · have : p = q := by simpa using z
                  subst this
                  exact .inr ⟨rfl, by simpa using c⟩
              · rintro (z | ⟨e, w⟩)
                · exact .inl z
                · have : q = p := by simpa using e
                  subst this
                  exact .inr (by simp)
      · rename_i n
        exact ⟨h, fun p => ⟨.inl, fun z => z.elim id fun ⟨e, w⟩ => absurd e (n p)⟩⟩
    obtain ⟨i1, i2⟩ := dots_fold ss (putDot L acc s) key.1
    refine ⟨i1, fun p => ?_⟩
    rw [i2 p, key.2 p, List.mem_cons]
    constructor
    · rintro ((z | ⟨e, w⟩) | ⟨e, w⟩)
      · exact .inl z
      · exact .inr ⟨.inl e.symm, w⟩
      · exact .inr ⟨.inr e, w⟩
    · rintro (z | ⟨e | e, w⟩)
      · exact .inl (.inl z)
      · exact .inl (.inr ⟨e.symm, w⟩)
      · exact .inr ⟨e, w⟩
/-- a spot between two, on their line -/
def sg (a b p : Q2) : Prop := crs a b p = 0 ∧ ((le a p ∧ le p b) ∨ (le b p ∧ le p a))
def covI (S : Int) (ss : List (List Pl)) (z : Q2) : Prop := ∃ s ∈ ss, (∃ p, s = [p] ∧ z = qP S p) ∨ ∃ y ∈ segsI s, sg (qP S y.1) (qP S y.2) z
section
variable {S : Int} (hS : 0 < S) {ss : List (List Pl)} (hd : ∀ y ∈ partsI ss, y.1 ≠ y.2)
include hS hd
theorem line_facts {x : Ky × List Sg} (hx : x ∈ linesI ss) : (∀ s ∈ x.2, ltI s.1 s.2 ∧ keyI s.1 s.2 = x.1) ∧ x.2.Pairwise (fun a b => ltI a.2 b.1) ∧
    (∀ z, (∃ s ∈ x.2, In S z s) ↔ ∃ y ∈ partsI ss, keyI y.1 y.2 = x.1 ∧ In S z (mmS y)) := by
  obtain ⟨g, hg, rfl⟩ := List.mem_map.mp hx
  have ok := group_ok (partsI ss)
  obtain ⟨_, q⟩ := ok.from_ g hg
  have lt : ∀ s ∈ g.2, ltI s.1 s.2 := fun s m => by
    obtain ⟨y, hy, _, e⟩ := q s m
    rw [← e]
    exact mm_lt (hd y hy)
  obtain ⟨p1, p2, p3, p4⟩ := joinS_spec hS lt
  have on : ∀ s ∈ g.2, KyOk g.1 ∧ onK g.1 s.1 ∧ onK g.1 s.2 := fun s m => by
    obtain ⟨y, hy, e1, e⟩ := q s m
    obtain ⟨_, _, _, _, ok, _⟩ := key_spec (hd y hy)
    obtain ⟨o1, o2⟩ := key_on (hd y hy)
    rw [e1] at ok o1 o2
    rw [← e]
    rcases mm_or (a := y.1) (b := y.2) with ⟨f1, f2⟩ | ⟨f1, f2⟩
    · exact ⟨ok, by show onK g.1 (minI y.1 y.2); rw [f1]; exact o1, by show onK g.1 (maxI y.1 y.2); rw [f2]; exact o2⟩
    · exact ⟨ok, by show onK g.1 (minI y.1 y.2); rw [f1]; exact o2, by show onK g.1 (maxI y.1 y.2); rw [f2]; exact o1⟩
  refine ⟨fun s m => ⟨p1 s m, ?_⟩, p2, fun z => ?_⟩
  · obtain ⟨⟨t1, m1, e1⟩, t2, m2, e2⟩ := p4 s m
    obtain ⟨k1, k2, _⟩ := on t1 m1
    obtain ⟨_, _, k3⟩ := on t2 m2
    exact key_one (ltI_ne (p1 s m)) k1 (e1 ▸ k2) (e2 ▸ k3)
  · rw [p3 z]
    constructor
    · rintro ⟨s, m, i⟩
      obtain ⟨y, hy, e1, e⟩ := q s m
      exact ⟨y, hy, e1, e ▸ i⟩
    · rintro ⟨y, hy, e1, i⟩
      obtain ⟨l, m, w⟩ := ok.has y hy
      have e : g = (keyI y.1 y.2, l) := by
        have nd := ok.nd
        obtain ⟨i1, hi1, z1⟩ := List.mem_iff_getElem.mp hg
        obtain ⟨i2, hi2, z2⟩ := List.mem_iff_getElem.mp m
        have : i1 = i2 := by
          refine (List.getElem_inj (h₀ := by simpa using hi1) (h₁ := by simpa using hi2) nd).mp ?_
          rw [List.getElem_map, List.getElem_map, z1, z2]
          exact e1.symm
        subst this
        exact z1.symm.trans z2
      exact ⟨mmS y, by rw [e]; exact w, i⟩
theorem line_one {x y : Ky × List Sg} (hx : x ∈ linesI ss) (hy : y ∈ linesI ss) (e : x.1 = y.1) : x = y := by
  have nd : ((linesI ss).map (·.1)).Nodup := by
    unfold linesI
    rw [List.map_map]
    exact (group_ok (partsI ss)).nd
  obtain ⟨i1, hi1, z1⟩ := List.mem_iff_getElem.mp hx
  obtain ⟨i2, hi2, z2⟩ := List.mem_iff_getElem.mp hy
  have : i1 = i2 := by
    refine (List.getElem_inj (h₀ := by simpa using hi1) (h₁ := by simpa using hi2) nd).mp ?_
    rw [List.getElem_map, List.getElem_map, z1, z2]
    exact e
  subst this
  exact z1.symm.trans z2
theorem mem_lines {s : Sg} : s ∈ inkLines ss ↔ ∃ x ∈ linesI ss, s ∈ x.2 := by
  unfold inkLines
  rw [(List.mergeSort_perm _ _).mem_iff, List.mem_flatMap]
theorem lie_iff {p : Pl} : lieI p (linesI ss) = true ↔ ∃ s ∈ inkLines ss, seg (qP S s.1) (qP S s.2) (qP S p) := by
  unfold lieI
  rw [List.any_eq_true]
  constructor
  · rintro ⟨x, hx, h⟩
    rw [Bool.and_eq_true, List.any_eq_true] at h
    obtain ⟨h1, s, hs, h2⟩ := h
    simp only [Bool.and_eq_true, decide_eq_true_eq] at h1 h2
    obtain ⟨f1, _, _⟩ := line_facts hS hd hx
    obtain ⟨a, e⟩ := f1 s hs
    exact ⟨s, (mem_lines hS hd).mpr ⟨x, hx, hs⟩, (crs_onK hS (ltI_ne a)).mpr (e ▸ h1), (qP_le hS).mpr h2.1, (qP_le hS).mpr h2.2⟩
  · rintro ⟨s, hs, h1, h2, h3⟩
    obtain ⟨x, hx, m⟩ := (mem_lines hS hd).mp hs
    obtain ⟨f1, _, _⟩ := line_facts hS hd hx
    obtain ⟨a, e⟩ := f1 s m
    refine ⟨x, hx, ?_⟩
    rw [Bool.and_eq_true, List.any_eq_true]
    refine ⟨decide_eq_true (e ▸ (crs_onK hS (ltI_ne a)).mp h1), s, m, ?_⟩
    rw [Bool.and_eq_true]
    exact ⟨decide_eq_true ((qP_le hS).mp h2), decide_eq_true ((qP_le hS).mp h3)⟩
theorem mem_dots {p : Pl} : p ∈ inkDots ss ↔ [p] ∈ ss ∧ lieI p (linesI ss) = false := by
  unfold inkDots dotsI
  rw [(List.mergeSort_perm _ _).mem_iff, (dots_fold ss [] List.Pairwise.nil).2 p]
  simp
theorem ink_nf : NF ((inkDots ss).map (qP S)) ((inkLines ss).map (qL S)) := by
  have two : ∀ {x : Ky × List Sg} {s t : Sg}, x ∈ linesI ss → s ∈ x.2 → t ∈ x.2 → s = t ∨ ltI s.2 t.1 ∨ ltI t.2 s.1 := fun {x s t} hx hs ht => by
    obtain ⟨_, pw, _⟩ := line_facts hS hd hx
    obtain ⟨i, hi, rfl⟩ := List.mem_iff_getElem.mp hs
    obtain ⟨j, hj, rfl⟩ := List.mem_iff_getElem.mp ht
    rw [List.pairwise_iff_getElem] at pw
    rcases Nat.lt_trichotomy i j with h | h | h
    · exact .inr (.inl (pw i j hi hj h))
    · subst h; exact .inl rfl
    · exact .inr (.inr (pw j i hj hi h))
  have ndl : (inkLines ss).Nodup := by
    unfold inkLines
    rw [(List.mergeSort_perm _ _).nodup_iff]
    unfold List.Nodup
    rw [List.pairwise_flatMap]
    refine ⟨fun x hx => ?_, ?_⟩
    · obtain ⟨f1, pw, _⟩ := line_facts hS hd hx
      have : x.2.Pairwise (fun a b => ltI a.2 b.1) := pw
      rw [List.pairwise_iff_getElem] at this ⊢
      intro i j hi hj h e
      have w := this i j hi hj h
      rw [← e] at w
      have a := (f1 _ (List.getElem_mem hi)).1
      exact absurd (ltI_of (ltI_le a) (ltI_le w) (.inl a)) (fun z => ltI_ne z rfl)
    · have nd : ((linesI ss).map (·.1)).Nodup := by
        unfold linesI
        rw [List.map_map]
        exact (group_ok (partsI ss)).nd
      unfold List.Nodup at nd
      rw [List.pairwise_map] at nd
      rw [List.pairwise_iff_getElem] at nd ⊢
      intro i j hi hj h s hs t ht e
      subst e
      have e1 := ((line_facts hS hd (List.getElem_mem hi)).1 s hs).2
      have e2 := ((line_facts hS hd (List.getElem_mem hj)).1 s ht).2
      exact nd i j hi hj h (e1.symm.trans e2)
  refine ⟨fun l hl => ?_, fun l hl m hm h1 h2 p hp hq => ?_, fun d hdd l hl hs => ?_, ?_, ?_⟩
  · obtain ⟨s, hs, rfl⟩ := List.mem_map.mp hl
    obtain ⟨x, hx, m⟩ := (mem_lines hS hd).mp hs
    exact (qP_lt hS).mpr ((line_facts hS hd hx).1 s m).1
  · obtain ⟨s, hs, rfl⟩ := List.mem_map.mp hl
    obtain ⟨t, ht, rfl⟩ := List.mem_map.mp hm
    obtain ⟨x, hx, ms⟩ := (mem_lines hS hd).mp hs
    obtain ⟨y, hy, mt⟩ := (mem_lines hS hd).mp ht
    obtain ⟨as, es⟩ := (line_facts hS hd hx).1 s ms
    obtain ⟨at_, et⟩ := (line_facts hS hd hy).1 t mt
    have e := key_eq hS (ltI_ne as) (ltI_ne at_) h1 h2
    have := line_one hS hd hx hy (es.symm.trans (e.symm.trans et))
    subst this
    rcases two hx ms mt with z | z | z
    · rw [z]
    · exact absurd (le_trans hq.2.1 hp.2.2) (lt_iff.mp ((qP_lt hS).mpr z))
    · exact absurd (le_trans hp.2.1 hq.2.2) (lt_iff.mp ((qP_lt hS).mpr z))
  · obtain ⟨p, hp, rfl⟩ := List.mem_map.mp hdd
    obtain ⟨s, hs', rfl⟩ := List.mem_map.mp hl
    have := ((mem_dots hS hd).mp hp).2
    rw [(lie_iff hS hd).mpr ⟨s, hs', hs⟩] at this
    cases this
  · rw [List.pairwise_map]
    have so : (inkDots ss).Pairwise (fun a b => leP a b = true) := List.pairwise_mergeSort (fun a b c h k => by
      unfold leP at *
      simp only [decide_eq_true_eq] at *
      exact leI_trans h k) (fun a b => by
      unfold leP
      simp only [Bool.or_eq_true, decide_eq_true_eq]
      exact leI_total) _
    have nd : (inkDots ss).Nodup := by
      unfold inkDots dotsI
      rw [(List.mergeSort_perm _ _).nodup_iff]
      exact (dots_fold ss [] List.Pairwise.nil).1
    refine (so.and nd).imp fun {a b} ⟨h, n⟩ => (qP_lt hS).mpr ?_
    unfold leP at h
    simp only [decide_eq_true_eq] at h
    exact ltI_iff.mpr fun z => n (leI_anti h z)
  · rw [List.pairwise_map]
    have so : (inkLines ss).Pairwise (fun a b => leS a b = true) := List.pairwise_mergeSort leS_trans leS_total _
    refine (so.and ndl).imp fun {a b} ⟨h, n⟩ => ?_
    unfold leS at h
    simp only [decide_eq_true_eq] at h
    rcases h with h | ⟨e, h⟩
    · exact .inl ((qP_lt hS).mpr h)
    · exact .inr ⟨congrArg (qP S) e, (qP_lt hS).mpr (ltI_iff.mpr fun z => n (Prod.ext e (leI_anti h z)))⟩
/-- the ends of the stretches are ends of parts -/
theorem ends_of {s : Sg} (h : s ∈ inkLines ss) : (∃ y ∈ partsI ss, s.1 = y.1 ∨ s.1 = y.2) ∧ ∃ y ∈ partsI ss, s.2 = y.1 ∨ s.2 = y.2 := by
  obtain ⟨x, hx, m⟩ := (mem_lines hS hd).mp h
  obtain ⟨g, hg, rfl⟩ := List.mem_map.mp hx
  obtain ⟨_, q⟩ := (group_ok (partsI ss)).from_ g hg
  have lt : ∀ s ∈ g.2, ltI s.1 s.2 := fun s m => by
    obtain ⟨y, hy, _, e⟩ := q s m
    rw [← e]
    exact mm_lt (hd y hy)
  obtain ⟨_, _, _, p4⟩ := joinS_spec hS lt
  obtain ⟨⟨t1, m1, e1⟩, t2, m2, e2⟩ := p4 s m
  obtain ⟨y1, h1, _, z1⟩ := q t1 m1
  obtain ⟨y2, h2, _, z2⟩ := q t2 m2
  refine ⟨⟨y1, h1, ?_⟩, y2, h2, ?_⟩
  · rw [e1, ← z1]
    rcases mm_or (a := y1.1) (b := y1.2) with ⟨f, _⟩ | ⟨f, _⟩
    · exact .inl f
    · exact .inr f
  · rw [e2, ← z2]
    rcases mm_or (a := y2.1) (b := y2.2) with ⟨_, f⟩ | ⟨_, f⟩
    · exact .inr f
    · exact .inl f
theorem in_mm {y : Pl × Pl} {z : Q2} : In S z (mmS y) ↔ (le (qP S y.1) z ∧ le z (qP S y.2)) ∨ (le (qP S y.2) z ∧ le z (qP S y.1)) := by
  unfold In mmS
  dsimp only
  rcases mm_or (a := y.1) (b := y.2) with ⟨f1, f2⟩ | ⟨f1, f2⟩
  · rw [f1, f2]
    refine ⟨.inl, fun h => h.elim id fun ⟨h1, h2⟩ => ?_⟩
    have : leI y.1 y.2 := by
      have := maxI_l (a := y.1) (b := y.2)
      rw [f2] at this; exact this
    have := (qP_le hS).mpr this
    exact ⟨le_trans this h1, le_trans h2 this⟩
  · rw [f1, f2]
    refine ⟨.inr, fun h => h.elim (fun ⟨h1, h2⟩ => ?_) id⟩
    have : leI y.2 y.1 := by
      have := maxI_r (a := y.1) (b := y.2)
      rw [f2] at this; exact this
    have := (qP_le hS).mpr this
    exact ⟨le_trans this h1, le_trans h2 this⟩
theorem ink_cov (z : Q2) : cov ((inkDots ss).map (qP S)) ((inkLines ss).map (qL S)) z ↔ covI S ss z := by
  constructor
  · rintro (h | ⟨l, hl, h⟩)
    · obtain ⟨p, hp, rfl⟩ := List.mem_map.mp h
      exact ⟨[p], ((mem_dots hS hd).mp hp).1, .inl ⟨p, rfl, rfl⟩⟩
    · obtain ⟨s, hs, rfl⟩ := List.mem_map.mp hl
      obtain ⟨x, hx, m⟩ := (mem_lines hS hd).mp hs
      obtain ⟨f1, _, f3⟩ := line_facts hS hd hx
      obtain ⟨a, e⟩ := f1 s m
      obtain ⟨y, hy, e1, i⟩ := (f3 z).mp ⟨s, m, h.2.1, h.2.2⟩
      obtain ⟨t, ht, hy'⟩ := List.mem_flatMap.mp hy
      exact ⟨t, ht, .inr ⟨y, hy', (crs_same hS (hd y hy) (ltI_ne a) (e1.trans e.symm) z).mpr h.1, (in_mm hS hd).mp i⟩⟩
  · rintro ⟨t, ht, ⟨p, rfl, rfl⟩ | ⟨y, hy, h1, h2⟩⟩
    · by_cases c : lieI p (linesI ss) = true
      · obtain ⟨s, hs, w⟩ := (lie_iff hS hd).mp c
        exact .inr ⟨qL S s, List.mem_map.mpr ⟨s, hs, rfl⟩, w⟩
      · exact .inl (List.mem_map.mpr ⟨p, (mem_dots hS hd).mpr ⟨ht, by simpa using c⟩, rfl⟩)
    · have hy' : y ∈ partsI ss := List.mem_flatMap.mpr ⟨t, ht, hy⟩
      obtain ⟨l, m, w⟩ := (group_ok (partsI ss)).has y hy'
      have hx : (keyI y.1 y.2, L3.Ink.joinS l) ∈ linesI ss := List.mem_map.mpr ⟨_, m, rfl⟩
      obtain ⟨f1, _, f3⟩ := line_facts hS hd hx
      obtain ⟨s, ms, i1, i2⟩ := (f3 z).mpr ⟨y, hy', rfl, (in_mm hS hd).mpr h2⟩
      obtain ⟨a, e⟩ := f1 s ms
      exact .inr ⟨qL S s, List.mem_map.mpr ⟨s, (mem_lines hS hd).mpr ⟨_, hx, ms⟩, rfl⟩, (crs_same hS (ltI_ne a) (hd y hy') e z).mpr h1, i1, i2⟩
end
end L3.Ink

/-! ## L5a -/
set_option Elab.async false
set_option linter.all false
set_option maxRecDepth 100000
set_option maxHeartbeats 4000000
/-! Dicts whose keys are tuples: what stands in the heap, and the rules over addresses. -/
namespace L3
open PySem PySem.Spec PyProof.Rows L2

/-! ### keys -/
mutual
/-- no text in it -/
def ktf : NestedKey → Bool
  | .none => true
  | .num _ => true
  | .text _ => false
  | .tup ks => ktfs ks
def ktfs : List NestedKey → Bool
  | [] => true
  | k :: ks => ktf k && ktfs ks
end
section
variable {X : Cx} {pins : List (Addr × Obj)} {σ : L2.St} {H S : Hp} {s : Shared}
end
/-- the tuple at b is the key k -/
def KvAt (K : PySem.W.Frag) (H : Hp) (b : Addr) (k : NestedKey) : Prop := ktf k = true ∧ k.depth ≤ 8 ∧ ∀ (X : Cx) (pins : List (Addr × Obj)) (σ : L2.St) (s : Shared), X.K = K → Inv X pins σ H s → NestedIs s.heap k (.ref b)
theorem KvAt.is {X : Cx} {H : Hp} {b : Addr} {k : NestedKey} {pins : List (Addr × Obj)} {σ : L2.St} {s : Shared} (x : KvAt X.K H b k) (I : Inv X pins σ H s) : (nestedKind X.prog X.w).is s.heap k b := ⟨x.2.2 X pins σ s rfl I, x.2.1⟩

/-! ### entries -/
abbrev Ent := NestedKey × Addr × V
/-! ### the dict -/
section
variable {X : Cx} {pins : List (Addr × Obj)} {σ : L2.St} {H : Hp} {s : Shared} {a b : Addr} {o : Obj} {vs : List Ent} {k : NestedKey} {v : V} {u : Value} {A : Around} {E : Value → Shared → Prop}
end
end L3

/-! ## L5b -/
set_option Elab.async false
set_option linter.all false
set_option maxRecDepth 100000
set_option maxHeartbeats 4000000
/-! Dicts whose keys are tuples: walks, operations, comprehensions over addresses. -/
namespace L3
open PySem PySem.Spec PyProof.Rows L2

/-! ### walks -/
section
variable {X : Cx} {pins : List (Addr × Obj)} {σ : L2.St} {H : Hp} {s : Shared} {a : Addr} {o : Obj} {vs : List Ent}
end
section
variable {P : Program} {w : World} {K : PySem.W.Frag} {tg : Expr} {a it : Addr} {o : Obj} {es : Array DictEntry} {ep : Nat}
end
section
variable {X : Cx} {tg e : Expr} {td : TE} {apos cpos : Pos}
end

/-! ### operations -/
section
variable {X : Cx} {o i e f value : Expr} {pos pos' apos cpos : Pos} {td ty tv : TE}
end
end L3

/-! ## L5c -/
set_option Elab.async false
set_option linter.all false
set_option maxRecDepth 100000
set_option maxHeartbeats 4000000
/-! Dict comprehensions whose keys are tuples, over addresses. -/
namespace L3
open PySem PySem.Spec PyProof.Rows L2

section
variable {X : Cx}
section
variable {kx vx tg iter : Expr} {ifs : List Expr} {scope : Scope} {own : List (Str × Nat)} {pos : Pos} {wi : TI} {g : TG} {tt : TT} {tk tv : TE}
end
end
end L3

/-! ## L5d -/
set_option Elab.async false
set_option linter.all false
set_option maxRecDepth 100000
set_option maxHeartbeats 4000000
/-! Dicts whose keys are tuples, as data. -/
namespace L3
open PySem PySem.Spec PyProof.Rows L2

/-! ### keys and entries as data -/
/-- the key that a tuple is, not too deep -/
def keyD (d : D) : Option NestedKey := match d with
  | .tup ds => (match nkDs ds with
    | some ks => if (NestedKey.tup ks).depth ≤ 8 then some (.tup ks) else none
    | none => none)
  | _ => none
theorem keyD_of {d : D} {k : NestedKey} (h : keyD d = some k) : nkD d = some k ∧ k.depth ≤ 8 ∧ ∃ ds, d = .tup ds := by
  cases d with
  | tup ds =>
    unfold keyD at h
    dsimp only at h
    cases e : nkDs ds with
    | none => rw [e] at h; cases h
    | some ks =>
      rw [e] at h
      dsimp only at h
      by_cases c : (NestedKey.tup ks).depth ≤ 8
      · rw [if_pos c] at h
        cases h
        exact ⟨by rw [nkD, e]; rfl, c, ds, rfl⟩
      · rw [if_neg c] at h; cases h
  | _ => cases h
def atD (kvs : List (D × D)) (k : NestedKey) : Option D := (kvs.find? fun x => decide (nkD x.1 = some k)).map (·.2)
def putC (kvs : List (D × D)) (d : D) (k : NestedKey) (v : D) : List (D × D) :=
  if (atD kvs k).isSome then kvs.map (fun x => if nkD x.1 = some k then (x.1, v) else x) else kvs ++ [(d, v)]
section
variable {K : PySem.W.Frag} {S : Hp} {vs : List Ent} {kvs : List (D × D)}
end

/-! ### readings -/
section
variable {X : Cx} {n : Nat} {a b o i e f value tg : Expr} {fa fb fo fi fe ff fv : RX} {ga : RA} {p pos pos' apos cpos : Pos}
/-! ### walks -/
end
/-! ### comprehensions -/
section
variable {X : Cx}
variable {n : Nat} {kx vx tg iter : Expr} {ifs : List Expr} {scope : Scope} {pos : Pos} {fi : RI} {g : RG} {t : RT} {fk fv : RX}
end
end L3

/-! ## L5e -/
set_option Elab.async false
set_option linter.all false
set_option maxRecDepth 100000
set_option maxHeartbeats 4000000
/-! The order of nested tuples: <, <=, min, max, sorted. -/
namespace L3
open PySem PySem.Spec PyProof.Rows L2

/-! ### operators -/
section
variable {X : Cx}
end
section
variable {X : Cx} {n : Nat} {a b c : Expr} {fa fb fc : RX} {pos : Pos}
end

/-! ### min, max of two -/
section
variable {prog : Program} {w : World} {A : Around} {E : Value → Shared → Prop} {s : Shared} {Q : Value → Shared → Prop} {a b : Value} {da db : PyData} {as bs : List Addr}
end
section
variable {X : Cx}
theorem res_pure {μ : MH} {n : Nat} {d : D} (h : pureN n d = true) : res μ d = d := by
  cases d with
  | ref a => cases n <;> cases h
  | _ => rfl
end
end L3

/-! ## L5f -/
set_option Elab.async false
set_option linter.all false
set_option maxRecDepth 100000
set_option maxHeartbeats 4000000
/-! sorted(list), sorted(dict): by the order of nested tuples. -/
namespace L3
open PySem PySem.Spec PyProof.Rows L2
section
variable {X : Cx} {pins : List (Addr × Obj)} {σ : L2.St} {H S : Hp} {s : Shared} {vs : List V} {ds : List D} {us : List Value}
end
section
variable {X : Cx} {n : Nat} {e : Expr} {fa : RA} {p pos : Pos}
/-! ### sorted(dict) -/
end
end L3

/-! ## L6a -/
set_option Elab.async false
set_option linter.all false
set_option maxRecDepth 100000
set_option maxHeartbeats 4000000
/-! List comprehensions of two clauses. -/
namespace L3
open PySem PySem.Spec PyProof.Rows L2
/-- a list that is being built stays as it is -/
theorem keepD {K : PySem.W.Frag} {S2 S3 H2 H3 : Hp} {μ2 μ3 : MH} {D : Addr} {ws : List V} {acc : List L3.D} (k3 : OK K S3 μ3 H3) (z : Stp S2 μ2 H2 S3 μ3 H3) (hS : S2 D = none) (hM : μ2 D = none) (hL : H2 D = some (.lst ws)) (ra : Reps K S2 ws acc) :
    S3 D = none ∧ μ3 D = none ∧ H3 D = some (.lst ws) ∧ Reps K S3 ws acc := by
  refine ⟨?_, ?_, z.keep _ _ hL hM (fun _ w => by cases w), ra.mono z.same⟩
  · cases w : S3 D with
    | none => rfl
    | some o =>
      rcases z.news D o w with a | (a | ⟨m, a⟩) | ⟨q, a⟩
      · rw [hS] at a; cases a
      · exact (free_no a hL fun _ w => by cases w).elim
      · rw [hM] at a; cases a
      · have a1 := k3.sub D o w
        rw [z.keep _ _ hL hM (fun _ w => by cases w), a] at a1
        unfold LamX.CodeO at a1
        cases a1
  · cases w : μ3 D with
    | none => rfl
    | some o =>
      rcases z.mus D o w with a | ⟨m, a⟩
      · exact (free_no a hL fun _ w => by cases w).elim
      · rw [hM] at a; cases a
def lc2D (g : RG) (t : RT) (fi1 : RI) (g1 : RG) (t1 : RT) (f : RX) (vs1 : List Nat) (C : MH → Prop) (ρ : EV) : List L3.D → List L3.D → MH → (List L3.D → MH → Prop) → Prop
  | [], acc, μ, R => C μ ∧ R acc μ
  | d :: r, acc, μ, R => C μ ∧ g d ρ μ fun ρ1 μ1 => t ρ1 μ1 fun b μ2 => if b = true then fi1 ρ1 μ2 fun ds1 C1 μ3 => acc.length + ds1.length ≤ sizeLine ∧ lcD g1 t1 f C1 (rms ρ1 vs1) ds1 acc μ3 fun acc2 μ4 => lc2D g t fi1 g1 t1 f vs1 C ρ r acc2 μ4 R
    else lc2D g t fi1 g1 t1 f vs1 C ρ r acc μ2 R
theorem lc2D_c {g : RG} {t : RT} {fi1 : RI} {g1 : RG} {t1 : RT} {f : RX} {vs1 : List Nat} {C : MH → Prop} {ρ : EV} {ds acc : List L3.D} {μ : MH} {R : List L3.D → MH → Prop} (h : lc2D g t fi1 g1 t1 f vs1 C ρ ds acc μ R) : C μ := by
  cases ds with
  | nil => exact h.1
  | cons _ _ => exact h.1
def rLc2 (fi : RI) (g : RG) (t : RT) (fi1 : RI) (g1 : RG) (t1 : RT) (f : RX) (vs vs1 : List Nat) : RX := fun ρ μ R => fi ρ μ fun ds C μ1 => lc2D g t fi1 g1 t1 f vs1 C (rms ρ vs) ds [] μ1 fun zs μ2 => R (.lst zs) μ2
section
variable {X : Cx}
theorem up_lc2 {K : PySem.W.Frag} {fi fi1 : RI} {g g1 : RG} {t t1 : RT} {f : RX} {vs vs1 : List Nat} {S H : Hp} {μ : MH} {ρ : EV} {σ : L2.St} {Q : VK} {RR : List L3.D → MH → Prop} (k : OK K S μ H) (e : RepE K S σ ρ)
    (h : fi ρ μ fun ds C μ1 => lc2D g t fi1 g1 t1 f vs1 C (rms ρ vs) ds [] μ1 RR)
    (fin : ∀ S' μ' H' D zs ws, OK K S' μ' H' → Stp S μ H S' μ' H' → (Free H D ∨ ∃ m, μ D = some m) → S' D = none → μ' D = none → H' D = some (.lst ws) → Reps K S' ws zs → RR zs μ' → Q (.ref D) H') :
    tLc2 (upI K fi) (upG K g vs) (upT K t) (upI K fi1) (upG K g1 vs1) (upT K t1) (up K f) vs vs1 σ H Q := by
  refine ⟨S, μ, ρ, _, k, e, h, fun S1 μ1 H1 J ds C k1 s1 it q1 D hD => ?_⟩
  obtain ⟨hSD, hMD⟩ := k1.free hD
  have HD : Free H D ∨ ∃ m, μ D = some m := by
    cases w : H D with
    | none => exact .inl (free_none w)
    | some o =>
      cases w2 : μ D with
      | none =>
        by_cases n : ∃ ps, o = .tbl ps
        · exact .inl fun o' e' => by rw [w] at e'; cases e'; exact n
        · rw [s1.keep D o w w2 fun ps z => n ⟨ps, z⟩] at hD; cases hD
      | some m => exact .inr ⟨m, rfl⟩
  refine ⟨fun i m H' => m = ds.length - i ∧ i ≤ ds.length ∧ ∃ S' μ' ws acc, OK K S' μ' H' ∧ Stp S1 μ1 H1 S' μ' H' ∧ S' D = none ∧ μ' D = none ∧ H' D = some (.lst ws) ∧ Reps K S' ws acc ∧ lc2D g t fi1 g1 t1 f vs1 C (rms ρ vs) (ds.drop i) acc μ' RR,
    ⟨_, rfl, Nat.zero_le _, S1, μ1, [], [], k1.hide hD, Stp.refl.aside hD, hSD, hMD, upd_same, .nil, by rw [List.drop_zero]; exact q1⟩, ?_⟩
  rintro i m H2 ⟨rfl, hi, S2, μ2, ws, acc, k2, s2, hS, hM, hL, ra, q2⟩
  have io := it S2 μ2 H2 k2 s2.same (lc2D_c q2) i
  by_cases hlt : i < ds.length
  · have hd : ds[i]? = some ds[i] := List.getElem?_eq_getElem hlt
    have ed : ds.drop i = ds[i] :: ds.drop (i + 1) := List.drop_eq_getElem_cons hlt
    rw [ed] at q2
    obtain ⟨hgo, hy⟩ := io.1 _ hd
    refine .inr ⟨hgo, fun H' => ∃ S' μ' ws acc, OK K S' μ' H' ∧ Stp S1 μ1 H1 S' μ' H' ∧ S' D = none ∧ μ' D = none ∧ H' D = some (.lst ws) ∧ Reps K S' ws acc ∧ lc2D g t fi1 g1 t1 f vs1 C (rms ρ vs) (ds.drop (i + 1)) acc μ' RR, fun H' z => ⟨ds.length - (i + 1), by omega, rfl, hlt, z⟩, fun x H' y => ?_⟩
    obtain ⟨S3, k3, s3, r3⟩ := hy x H' y
    have e3 : RepE K S3 (wipe σ vs) (rms ρ vs) := (((e.mono s1.same).mono s2.same).mono s3.same).wipe vs
    refine ⟨S3, μ2, rms ρ vs, _, _, k3, e3, r3, q2.2, fun S4 μ4 H4 σ4 ρ4 k4 s4 e4 w4 q4 => ?_⟩
    have s24 := s3.trans s4
    refine ⟨w4.trans (wipe_idem vs σ), S4, μ4, ρ4, _, k4, e4, q4, fun S5 μ5 H5 b5 k5 s5 q5 => ?_⟩
    have s25 := s24.trans s5
    cases b5 with
    | false =>
      rw [if_neg Bool.false_ne_true] at q5
      refine iteF ?_
      obtain ⟨a1, a2, a3, a4⟩ := keepD k5 s25 hS hM hL ra
      exact ⟨S5, μ5, ws, acc, k5, s2.trans s25, a1, a2, a3, a4, q5⟩
    | true =>
      rw [if_pos rfl] at q5
      refine iteT ?_
      refine ⟨S5, μ5, ρ4, _, k5, e4.mono s5.same, q5, fun S6 μ6 H6 J1 ds1 C1 k6 s6 it1 q6 => ?_⟩
      obtain ⟨hz, q6⟩ := q6
      have s26 := s25.trans s6
      obtain ⟨a1, a2, a3, a4⟩ := keepD k6 s26 hS hM hL ra
      have e6 : RepE K S6 σ4 ρ4 := (e4.mono s5.same).mono s6.same
      refine ⟨fun j m H' => m = ds1.length - j ∧ j ≤ ds1.length ∧ ∃ S' μ' ws' acc', OK K S' μ' H' ∧ Stp S1 μ1 H1 S' μ' H' ∧ Same S6 S' ∧ S' D = none ∧ μ' D = none ∧ H' D = some (.lst ws') ∧ Reps K S' ws' acc' ∧ acc'.length ≤ acc.length + j ∧ lcD g1 t1 f C1 (rms ρ4 vs1) (ds1.drop j) acc' μ' (fun acc2 μ4 => lc2D g t fi1 g1 t1 f vs1 C (rms ρ vs) (ds.drop (i + 1)) acc2 μ4 RR),
        ⟨_, rfl, Nat.zero_le _, S6, μ6, ws, acc, k6, s2.trans s26, fun _ _ z => z, a1, a2, a3, a4, Nat.le_refl _, by rw [List.drop_zero]; exact q6⟩, ?_⟩
      rintro j m7 H7 ⟨rfl, hj, S7, μ7, ws7, acc7, k7, s7, sm7, hS7, hM7, hL7, ra7, la7, q7⟩
      have io1 := it1 S7 μ7 H7 k7 sm7 (lcD_c q7) j
      by_cases hlt1 : j < ds1.length
      · have hd1 : ds1[j]? = some ds1[j] := List.getElem?_eq_getElem hlt1
        have ed1 : ds1.drop j = ds1[j] :: ds1.drop (j + 1) := List.drop_eq_getElem_cons hlt1
        rw [ed1] at q7
        obtain ⟨hgo1, hy1⟩ := io1.1 _ hd1
        refine .inr ⟨hgo1, fun H' => ∃ S' μ' ws' acc', OK K S' μ' H' ∧ Stp S1 μ1 H1 S' μ' H' ∧ Same S6 S' ∧ S' D = none ∧ μ' D = none ∧ H' D = some (.lst ws') ∧ Reps K S' ws' acc' ∧ acc'.length ≤ acc.length + (j + 1) ∧ lcD g1 t1 f C1 (rms ρ4 vs1) (ds1.drop (j + 1)) acc' μ' (fun acc2 μ4 => lc2D g t fi1 g1 t1 f vs1 C (rms ρ vs) (ds.drop (i + 1)) acc2 μ4 RR), fun H' z => ⟨ds1.length - (j + 1), by omega, rfl, hlt1, z⟩, fun x8 H8 y8 => ?_⟩
        obtain ⟨S8, k8, s8, r8⟩ := hy1 x8 H8 y8
        have e8 : RepE K S8 (wipe σ4 vs1) (rms ρ4 vs1) := ((e6.mono sm7).mono s8.same).wipe vs1
        refine ⟨S8, μ7, rms ρ4 vs1, _, _, k8, e8, r8, q7.2, fun S9 μ9 H9 σ9 ρ9 k9 s9 e9 w9 q9 => ?_⟩
        have s79 := s8.trans s9
        refine ⟨w9.trans (wipe_idem vs1 σ4), S9, μ9, ρ9, _, k9, e9, q9, fun Sa μa Ha ba ka sa qa => ?_⟩
        have s7a := s79.trans sa
        cases ba with
        | false =>
          rw [if_neg Bool.false_ne_true] at qa
          refine iteF ?_
          obtain ⟨b1, b2, b3, b4⟩ := keepD ka s7a hS7 hM7 hL7 ra7
          exact ⟨Sa, μa, ws7, acc7, ka, s7.trans s7a, sm7.trans s7a.same, b1, b2, b3, b4, by omega, qa⟩
        | true =>
          rw [if_pos rfl] at qa
          refine iteT ?_
          refine ⟨Sa, μa, ρ9, _, ka, e9.mono sa.same, qa, fun Sb μb Hb vb db kb sb rb qb => ?_⟩
          have s7b := s7a.trans sb
          obtain ⟨b1, b2, b3, b4⟩ := keepD kb s7b hS7 hM7 hL7 ra7
          exact ⟨ws7, b3, by rw [ra7.length]; omega, Sb, μb, ws7 ++ [vb], acc7 ++ [db], kb.aside b1 b2, (s7.trans s7b).aside hD, sm7.trans s7b.same, b1, b2, upd_same, b4.append (.cons rb .nil), by simp; omega, qb⟩
      · have ej : j = ds1.length := by omega
        subst ej
        rw [List.drop_length] at q7
        exact .inl ⟨io1.2 rfl, S7, μ7, ws7, acc7, k7, s7, hS7, hM7, hL7, ra7, q7.2⟩
  · have ei : i = ds.length := by omega
    subst ei
    rw [List.drop_length] at q2
    exact .inl ⟨io.2 rfl, fin S2 μ2 H2 D acc ws k2 (s1.trans s2) HD hS hM hL ra q2.2⟩
theorem up_lc2F {K : PySem.W.Frag} {fi fi1 : RI} {g g1 : RG} {t t1 : RT} {f : RX} {vs vs1 : List Nat} : ∀ σ H Q, up K (rLc2 fi g t fi1 g1 t1 f vs vs1) σ H Q → tLc2 (upI K fi) (upG K g vs) (upT K t) (upI K fi1) (upG K g1 vs1) (upT K t1) (up K f) vs vs1 σ H Q := fun σ H Q ⟨S, μ, ρ, R, k, e, h, post⟩ =>
  up_lc2 k e h fun S' μ' H' D zs ws k' s' n1 n2 n3 n4 r q => post _ _ _ _ _ (k'.take n4 n2 n3) (s'.takeS n1 n2) (.lst upd_same (r.mono (same_updn n2))) q
theorem de_lc2 {elt tg iter tg1 iter1 : Expr} {ifs ifs1 : List Expr} {scope : Scope} (own : List (Str × Nat)) (vs1 : List Nat) {pos : Pos} {fi fi1 : RI} {g g1 : RG} {t t1 : RT} {f : RX} (hN : X.N.Nodup) (hi : DI X tg iter fi) (ok : blkC X.N X.env.scope scope own = true)
    (hg : ∀ (s : Shared) (H : Hp) (C : Addr) (cl : List (Str × Addr)) (fp : List Addr), DG (X.blk s H scope (compEnvC scope cl C X.env) fp) tg g (own.map (·.2))) (ht : ∀ (s : Shared) (H : Hp) (C : Addr) (cl : List (Str × Addr)) (fp : List Addr), DTs (X.blk s H scope (compEnvC scope cl C X.env) fp) ifs t)
    (hi1 : ∀ (s : Shared) (H : Hp) (C : Addr) (cl : List (Str × Addr)) (fp : List Addr), DI (X.blk s H scope (compEnvC scope cl C X.env) fp) tg1 iter1 fi1)
    (hg1 : ∀ (s : Shared) (H : Hp) (C : Addr) (cl : List (Str × Addr)) (fp : List Addr), DG (X.blk s H scope (compEnvC scope cl C X.env) fp) tg1 g1 vs1) (ht1 : ∀ (s : Shared) (H : Hp) (C : Addr) (cl : List (Str × Addr)) (fp : List Addr), DTs (X.blk s H scope (compEnvC scope cl C X.env) fp) ifs1 t1)
    (he : ∀ (s : Shared) (H : Hp) (C : Addr) (cl : List (Str × Addr)) (fp : List Addr), DE (X.blk s H scope (compEnvC scope cl C X.env) fp) elt f) (hv : ∀ i ∈ vs1, i ∈ own.map (·.2) := by decide) (hc : X.calm = true := by rfl) (hs : ∀ x, foldedSetIterable iter X.env x = pure x := by intro _; rfl) (hs1 : ∀ env x, foldedSetIterable iter1 env x = pure x := by intro _ _; rfl) :
    DE X (.ListComp elt [⟨tg, iter, ifs, 0⟩, ⟨tg1, iter1, ifs1, 0⟩] scope pos) (rLc2 fi g t fi1 g1 t1 f (own.map (·.2)) vs1) := pe_imp (pe_lc2 hc hN hi (blkOk_by ok) hv hg ht hi1 hg1 ht1 he hs hs1) up_lc2F
end
end L3

/-! ## L6b -/
set_option Elab.async false
set_option linter.all false
set_option maxRecDepth 100000
set_option maxHeartbeats 4000000
/-! f(*e, x, ..); promises that forget what was made on the way. -/
namespace L3
open PySem PySem.Spec PyProof.Rows L2
section
variable {M : Model} {A : Around} {E : Value → Shared → Prop} {s : Shared} {K : PySem.W.Frag} {env : Env} {pos p : Pos} {f : Value} {first : List Value} {Q : Value → Shared → Prop} {h₀ : Heap} {e e2 : Expr} {rest : List Expr}
end
section
variable {X : Cx} {CX : CXT} {k : Nat} {f : Addr} {sp : Sp} {E : XK} {x : Str} {e e2 : Expr} {es : List Expr} {t : TA} {p p2 pos : Pos}
end
/-! ### forgetting -/
def Sub (μ μ' : MH) : Prop := ∀ b m, μ b = some m → μ' b = some m
theorem Sub.refl {μ : MH} : Sub μ μ := fun _ _ h => h
theorem Sub.trans {a b c : MH} (x : Sub a b) (y : Sub b c) : Sub a c := fun d m h => y d m (x d m h)
theorem Sub.upd {μ : MH} {p : Addr} {m : MO} (h : μ p = none) : Sub μ (updM μ p m) := fun b x e => by rw [updM_ne (fun z => by rw [z, h] at e; cases e)]; exact e
theorem Sub.put {μ μ' : MH} {p : Addr} {m : MO} (h : Sub μ μ') (n : μ p = none) : Sub μ (updM μ' p m) := fun b x e => by rw [updM_ne (fun z => by rw [z, n] at e; cases e)]; exact h b x e
theorem Sub.both {μ μ' : MH} {p : Addr} {m : MO} (h : Sub μ μ') : Sub (updM μ p m) (updM μ' p m) := fun b x e => by
  by_cases q : b = p
  · subst q; rw [updM_same] at e ⊢; exact e
  · rw [updM_ne q] at e ⊢; exact h b x e
theorem Sub.del {μ μ' : MH} {p : Addr} (h : Sub μ μ') (n : μ p = none) : Sub μ (delM μ' p) := fun b x e => by
  rw [delM_ne (fun z => by rw [z, n] at e; cases e)]; exact h b x e
theorem Sub.none {μ μ' : MH} {p : Addr} (h : Sub μ μ') (n : μ' p = none) : μ p = Option.none := by
  cases e : μ p with
  | none => rfl
  | some m => rw [h p m e] at n; cases n
section
variable {K : PySem.W.Frag} {S S' H H' : Hp} {μ μ' μ2 : MH}
theorem OK.forget (k : OK K S μ' H) (h : Sub μ2 μ') : OK K S μ2 H := ⟨k.sub, fun a m e => k.mts a m (h a m e), k.nst, fun a b q r ea eb => k.one a b q r (h _ _ ea) (h _ _ eb)⟩
theorem Stp.forget (s : Stp S μ H S' μ' H') (h : Sub μ2 μ') : Stp S μ H S' μ2 H' := ⟨s.same, s.news, s.keep, fun b m e => s.mus b m (h b m e)⟩
end
section
variable {P : Program} {w : World} {K : PySem.W.Frag} {mg : Str → Option Value} {base : Heap}
end
end L3

/-! ## SP7 -/
set_option Elab.async false
set_option linter.all false
set_option maxRecDepth 100000
set_option maxHeartbeats 4000000
/-! Inks of drawings. -/
namespace L3
open PySem NM L2
open Ink (Q2 Pl Sg Ky)
def numQ (z : Num) : Q2 := (re z, im z)
def numL (l : Num × Num) : Ink.Ln := (numQ l.1, numQ l.2)
theorem numQ_inj {a b : Num} (ha : Can a) (hb : Can b) (h : numQ a = numQ b) : a = b := NM.ext ha hb (congrArg Prod.fst h) (congrArg Prod.snd h)
/-- what strokes cover -/
def covS (ss : List Stk) (p : Q2) : Prop := ∃ s ∈ ss, (∃ z, s = [z] ∧ p = numQ z) ∨ ∃ y ∈ segs s, Ink.sg (numQ y.1) (numQ y.2) p
structure Inkd where
  dots : List Num
  lines : List (Num × Num)
theorem inkd_ext {I J : Inkd} (h : I.dots = J.dots) (k : I.lines = J.lines) : I = J := by
  cases I; cases J; cases h; cases k; rfl
def inkD (I : Inkd) : D := .tup [.tup (I.dots.map numD), .tup (I.lines.map pairD)]
structure IsInk (C : Q2 → Prop) (I : Inkd) : Prop where
  cd : ∀ z ∈ I.dots, Can z
  cl : ∀ l ∈ I.lines, Can l.1 ∧ Can l.2
  nf : Ink.NF (I.dots.map numQ) (I.lines.map numL)
  cov : ∀ p, Ink.cov (I.dots.map numQ) (I.lines.map numL) p ↔ C p
theorem map_injL {α β : Type} {f : α → β} : ∀ {xs ys : List α}, (∀ x ∈ xs, ∀ y ∈ ys, f x = f y → x = y) → xs.map f = ys.map f → xs = ys
  | [], [], _, _ => rfl
  | [], y :: ys, _, h => by simp at h
  | x :: xs, [], _, h => by simp at h
  | x :: xs, y :: ys, i, h => by
    rw [List.map_cons, List.map_cons] at h
    injection h with h1 h2
    rw [i x (List.mem_cons_self ..) y (List.mem_cons_self ..) h1, map_injL (fun a ha b hb => i a (List.mem_cons_of_mem _ ha) b (List.mem_cons_of_mem _ hb)) h2]
theorem IsInk.uniq {C C' : Q2 → Prop} {I I' : Inkd} (h : IsInk C I) (h' : IsInk C' I') (e : ∀ p, C p ↔ C' p) : I = I' := by
  obtain ⟨a, b⟩ := Ink.unique h.nf h'.nf fun p => (h.cov p).trans ((e p).trans (h'.cov p).symm)
  refine inkd_ext (map_injL (fun x hx y hy => numQ_inj (h.cd x hx) (h'.cd y hy)) a) (map_injL (fun x hx y hy q => ?_) b)
  have q1 := congrArg Prod.fst q
  have q2 := congrArg Prod.snd q
  exact Prod.ext (numQ_inj (h.cl x hx).1 (h'.cl y hy).1 q1) (numQ_inj (h.cl x hx).2 (h'.cl y hy).2 q2)
/-! ### places of whole numbers -/
def plI (S : Int) (z : Num) : Pl := (z.x * S.fdiv z.d, z.y * S.fdiv z.d)
def plsI (S : Int) (ss : List Stk) : List (List Pl) := ss.map fun s => s.map (plI S)
theorem plI_q {S : Int} (hS : 0 < S) {z : Num} (hz : Can z) (hd : z.d ∣ S) : Ink.qP S (plI S z) = numQ z := by
  obtain ⟨k, hk⟩ := hd
  have e : S.fdiv z.d = k := by rw [hk]; exact fdiv_mul' (ne_d hz)
  have n1 := rat_d hz
  have n2 : (S : Rat) ≠ 0 := cast_ne (by omega)
  have n3 : (S : Rat) = (z.d : Rat) * (k : Rat) := by rw [hk]; exact Rat.intCast_mul ..
  have n4 : (k : Rat) ≠ 0 := fun q => n2 (by rw [n3, q]; grind)
  unfold Ink.qP plI numQ re im
  rw [e]
  refine Prod.ext ?_ ?_
  · show ((z.x * k : Int) : Rat) / (S : Rat) = _
    rw [n3, Rat.intCast_mul]
    grind
  · show ((z.y * k : Int) : Rat) / (S : Rat) = _
    rw [n3, Rat.intCast_mul]
    grind
theorem segs_map2 (f : Num → Pl) : ∀ s : Stk, Ink.segsI (s.map f) = (segs s).map fun y => (f y.1, f y.2)
  | [] => rfl
  | [_] => rfl
  | a :: b :: r => by
    show (f a, f b) :: Ink.segsI ((b :: r).map f) = _
    rw [segs_map2 f (b :: r)]
    rfl
theorem segs_mem2 : ∀ {s : Stk} {y : Num × Num}, y ∈ segs s → y.1 ∈ s ∧ y.2 ∈ s
  | [], _, h => nomatch h
  | [_], _, h => nomatch h
  | a :: b :: r, y, h => by
    rcases List.mem_cons.mp h with rfl | h
    · exact ⟨List.mem_cons_self .., List.mem_cons_of_mem _ (List.mem_cons_self ..)⟩
    · obtain ⟨p, q⟩ := segs_mem2 h
      exact ⟨List.mem_cons_of_mem _ p, List.mem_cons_of_mem _ q⟩
theorem segs_ne2 : ∀ {s : Stk} {y : Num × Num}, moves s → y ∈ segs s → y.1 ≠ y.2
  | [], _, _, h => nomatch h
  | [_], _, _, h => nomatch h
  | a :: b :: r, y, m, h => by
    rcases List.mem_cons.mp h with rfl | h
    · exact m.1
    · exact segs_ne2 m.2 h
/-- strokes that go on, their denominators within S -/
structure okS (S : Int) (ss : List Stk) : Prop where
  pos : 0 < S
  mv : ∀ s ∈ ss, moves s
  can : ∀ s ∈ ss, ∀ z ∈ s, Can z ∧ z.d ∣ S
section
variable {S : Int} {ss : List Stk} (k : okS S ss)
include k
theorem okS.q {s : Stk} (hs : s ∈ ss) {z : Num} (hz : z ∈ s) : Ink.qP S (plI S z) = numQ z := plI_q k.pos (k.can s hs z hz).1 (k.can s hs z hz).2
theorem okS.part {y : Pl × Pl} (h : y ∈ Ink.partsI (plsI S ss)) : ∃ s ∈ ss, ∃ x ∈ segs s, y = (plI S x.1, plI S x.2) := by
  obtain ⟨t, ht, hy⟩ := List.mem_flatMap.mp h
  obtain ⟨s, hs, rfl⟩ := List.mem_map.mp ht
  rw [segs_map2] at hy
  obtain ⟨x, hx, rfl⟩ := List.mem_map.mp hy
  exact ⟨s, hs, x, hx, rfl⟩
theorem okS.ne : ∀ y ∈ Ink.partsI (plsI S ss), y.1 ≠ y.2 := fun y h e => by
  obtain ⟨s, hs, x, hx, rfl⟩ := k.part h
  have m := segs_mem2 hx
  have e2 : numQ x.1 = numQ x.2 := by
    rw [← k.q hs m.1, ← k.q hs m.2]
    exact congrArg (Ink.qP S) e
  exact segs_ne2 (k.mv s hs) hx (numQ_inj (k.can s hs _ m.1).1 (k.can s hs _ m.2).1 e2)
theorem okS.cov (p : Q2) : Ink.covI S (plsI S ss) p ↔ covS ss p := by
  constructor
  · rintro ⟨t, ht, h⟩
    obtain ⟨s, hs, rfl⟩ := List.mem_map.mp ht
    refine ⟨s, hs, ?_⟩
    rcases h with ⟨q, e, rfl⟩ | ⟨y, hy, h⟩
    · cases s with
      | nil => cases e
      | cons z r =>
        cases r with
        | nil =>
          rw [List.map_cons, List.map_nil] at e
          injection e with e1 e2
          exact .inl ⟨z, rfl, by rw [← e1]; exact k.q hs (List.mem_cons_self ..)⟩
        | cons _ _ => simp at e
    · rw [segs_map2] at hy
      obtain ⟨x, hx, rfl⟩ := List.mem_map.mp hy
      have m := segs_mem2 hx
      refine .inr ⟨x, hx, ?_⟩
      rw [← k.q hs m.1, ← k.q hs m.2]
      exact h
  · rintro ⟨s, hs, h⟩
    refine ⟨s.map (plI S), List.mem_map.mpr ⟨s, hs, rfl⟩, ?_⟩
    rcases h with ⟨z, rfl, rfl⟩ | ⟨x, hx, h⟩
    · exact .inl ⟨plI S z, rfl, (k.q hs (List.mem_cons_self ..)).symm⟩
    · have m := segs_mem2 hx
      refine .inr ⟨(plI S x.1, plI S x.2), by rw [segs_map2]; exact List.mem_map.mpr ⟨x, hx, rfl⟩, ?_⟩
      rw [← k.q hs m.1, ← k.q hs m.2] at h
      exact h
def lowP (S : Int) (p : Pl) : Num := low p.1 p.2 S
theorem lowP_q (p : Pl) : numQ (lowP S p) = Ink.qP S p := by
  have n : S ≠ 0 := by have := k.pos; omega
  exact Prod.ext (re_low n) (im_low n)
theorem lowP_self {s : Stk} (hs : s ∈ ss) {z : Num} (hz : z ∈ s) : lowP S (plI S z) = z := by
  have n : S ≠ 0 := by have := k.pos; omega
  refine numQ_inj (low_can n) (k.can s hs z hz).1 ?_
  exact (lowP_q k _).trans (k.q hs hz)
def inkP (S : Int) (pl : List (List Pl)) : Inkd := ⟨(Ink.inkDots pl).map (lowP S), (Ink.inkLines pl).map fun s => (lowP S s.1, lowP S s.2)⟩
theorem okS.ink : IsInk (covS ss) (inkP S (plsI S ss)) := by
  have n : S ≠ 0 := by have := k.pos; omega
  have e1 : (inkP S (plsI S ss)).dots.map numQ = (Ink.inkDots (plsI S ss)).map (Ink.qP S) := by
    show ((Ink.inkDots (plsI S ss)).map (lowP S)).map numQ = _
    rw [List.map_map]
    exact List.map_congr_left fun p _ => lowP_q k p
  have e2 : (inkP S (plsI S ss)).lines.map numL = (Ink.inkLines (plsI S ss)).map (Ink.qL S) := by
    show ((Ink.inkLines (plsI S ss)).map fun s => (lowP S s.1, lowP S s.2)).map numL = _
    rw [List.map_map]
    exact List.map_congr_left fun s _ => Prod.ext (lowP_q k s.1) (lowP_q k s.2)
  refine ⟨fun z hz => ?_, fun l hl => ?_, ?_, fun p => ?_⟩
  · obtain ⟨p, _, rfl⟩ := List.mem_map.mp hz
    exact low_can n
  · obtain ⟨s, _, rfl⟩ := List.mem_map.mp hl
    exact ⟨low_can n, low_can n⟩
  · rw [e1, e2]
    exact Ink.ink_nf k.pos k.ne
  · rw [e1, e2, Ink.ink_cov k.pos k.ne p]
    exact k.cov p
theorem okS.dot_of {p : Pl} (h : p ∈ Ink.inkDots (plsI S ss)) : ∃ s ∈ ss, ∃ z ∈ s, p = plI S z := by
  obtain ⟨h, _⟩ := (Ink.mem_dots k.pos k.ne).mp h
  obtain ⟨s, hs, e⟩ := List.mem_map.mp h
  have : p ∈ s.map (plI S) := by rw [e]; exact List.mem_cons_self ..
  obtain ⟨z, hz, rfl⟩ := List.mem_map.mp this
  exact ⟨s, hs, z, hz, rfl⟩
theorem okS.end_of {x : Sg} (h : x ∈ Ink.inkLines (plsI S ss)) : (∃ s ∈ ss, ∃ z ∈ s, x.1 = plI S z) ∧ ∃ s ∈ ss, ∃ z ∈ s, x.2 = plI S z := by
  have one : ∀ p, (∃ y ∈ Ink.partsI (plsI S ss), p = y.1 ∨ p = y.2) → ∃ s ∈ ss, ∃ z ∈ s, p = plI S z := fun p ⟨y, hy, e⟩ => by
    obtain ⟨s, hs, w, hw, rfl⟩ := k.part hy
    have m := segs_mem2 hw
    rcases e with e | e
    · exact ⟨s, hs, w.1, m.1, e⟩
    · exact ⟨s, hs, w.2, m.2, e⟩
  obtain ⟨a, b⟩ := Ink.ends_of k.pos k.ne h
  exact ⟨one _ a, one _ b⟩
end
open Classical in
/-- the ink of strokes -/
noncomputable def inkS (ss : List Stk) : Inkd := if h : ∃ I, IsInk (covS ss) I then h.choose else ⟨[], []⟩
theorem inkS_of {ss : List Stk} {I : Inkd} (h : IsInk (covS ss) I) : inkS ss = I := by
  have e : ∃ I, IsInk (covS ss) I := ⟨I, h⟩
  unfold inkS
  rw [dif_pos e]
  exact e.choose_spec.uniq h fun _ => Iff.rfl
/-! ### specs -/
def plD (p : Pl) : D := .tup [.int p.1, .int p.2]
def plsD (s : List Pl) : D := .tup (s.map plD)
/-- strokes that are not too large, their denominators within N -/
structure okI (N : Int) (ss : List Stk) : Prop where
  pos : 0 < N
  bn : Bt 6000 N
  le : ss.length ≤ 500
  st : ∀ s ∈ ss, 1 ≤ s.length ∧ s.length ≤ 12 ∧ moves s
  can : ∀ s ∈ ss, ∀ z ∈ s, Can z ∧ Sz 1500 z ∧ z.d ∣ N
def BtP (n : Nat) (p : Pl) : Prop := Bt n p.1 ∧ Bt n p.2
def sp_scaled (Γ : CL) : GN := fun ds μ R => ∃ ss N, (ds = [strsD ss] ∨ ds = [.lst (ss.map strD)]) ∧ okI N ss ∧ ∀ S : Int, Bt 6000 S → S ∣ N → okS S ss → R (.tup [.int S, .lst ((plsI S ss).map plsD)]) μ
end L3

/-! ## RB7 -/
set_option Elab.async false
set_option linter.all false
set_option maxRecDepth 100000
set_option maxHeartbeats 4000000
namespace L3
open PySem NM L2
/-- scaled(strokes) : 0 strokes, 1 scale, 2 stroke, 3 spot, 4 found -/
def rd_scaled (Γ : CL) : RS := (rSeq (rAsg (rCl (sp_common_multiple Γ) (rCons (rLc2 (rISeq (rVar 0)) (rGN 2) rTrue (rITup (rVar 2)) (rGN 3) rTrue (rOp gIx (rVar 3) (rC (.int 2))) [2, 3] [3]) rNil)) (rGN 1))
 (rSeq (rAsg (rLstM rNil) (rGN 4))
 (rSeq (rFor (rISeq (rVar 0)) (rGN 2)
 (rDrop (rMut (rVar 4) (rCons (rCl gTuple (rCons (rLc (rITup (rVar 2)) (rGN 3) rTrue (rTup (rCons (rOp gMul (rOp gIx (rVar 3) (rC (.int 0))) (rOp gDiv (rVar 1) (rOp gIx (rVar 3) (rC (.int 2))))) (rCons (rOp gMul (rOp gIx (rVar 3) (rC (.int 1))) (rOp gDiv (rVar 1) (rOp gIx (rVar 3) (rC (.int 2))))) rNil))) [3]) rNil)) rNil) gAppend)))
 (rRet (rTup (rCons (rVar 1) (rCons (rFrz (rVar 4)) rNil)))))))
end L3

/-! ## SP8 -/
set_option Elab.async false
set_option linter.all false
set_option maxRecDepth 100000
set_option maxHeartbeats 1000000
/-! Random spots, turns, strokes: finer bounds. -/
namespace L3
open PySem NM L2
def Tiny (z : Num) : Prop := Small z ∧ -6 ≤ z.x ∧ z.x ≤ 6 ∧ -6 ≤ z.y ∧ z.y ≤ 6 ∧ z.d ≤ 4
def growT (t : Num) : Prop := t.d * t.d ≤ 9 * (t.x * t.x + t.y * t.y) ∧ Sz 3 t
def Am.tiny (a : Am) : Prop := a.small ∧ Tiny a.p ∧ growT a.t
def okTn (s : Stk) : Prop := okSm s ∧ ∀ z ∈ s, Tiny z
def sp_law_spotT (Γ : CL) : GN := fun ds μ R => ∃ g xs, ds = [.ref g] ∧ μ g = some (.lst xs) ∧ RL xs ∧ ∀ z ys, Tiny z → RL ys → R (numD z) (updM μ g (.lst ys))
def sp_law_turnT (Γ : CL) : GN := fun ds μ R => ∃ g xs, ds = [.ref g] ∧ μ g = some (.lst xs) ∧ RL xs ∧ ∀ z ys, Small z → NZ z → growT z → RL ys → R (numD z) (updM μ g (.lst ys))
end L3

/-! ## L7a -/
set_option Elab.async false
set_option linter.all false
set_option maxRecDepth 100000
set_option maxHeartbeats 4000000
/-! sorted(set(list of tuples of ints)). -/
namespace L3
open PySem PySem.Spec PyProof.Rows L2
def tupI (z : List Int) : D := .tup (z.map D.int)
section
variable {X : Cx}
end
section
variable {X : Cx} {n : Nat} {e : Expr} {fa : RA} {p p2 pos pos2 : Pos}
end
end L3

/-! ## RB8 -/
set_option Elab.async false
set_option linter.all false
set_option maxRecDepth 100000
set_option maxHeartbeats 4000000
namespace L3
open PySem NM L2
/-- _law_spot(_law_d) : 0 _law_d, 1 _law_below_here -/
def rd_law_spotT (Γ : CL) : RS := (rSeq (rAsg (rOp gIx (rLst (rCons (rC (.int 1)) (rCons (rC (.int 1)) (rCons (rC (.int 1)) (rCons (rC (.int 2)) (rCons (rC (.int 3)) (rCons (rC (.int 4)) rNil))))))) (rCl (sp_law_below Γ) (rCons (rVar 0) (rCons (rC (.int 6)) rNil)))) (rGN 1))
 (rRet (rCl (sp_law_lowest Γ) (rCons (rOp gSub (rCl (sp_law_below Γ) (rCons (rVar 0) (rCons (rC (.int 13)) rNil))) (rC (.int 6))) (rCons (rOp gSub (rCl (sp_law_below Γ) (rCons (rVar 0) (rCons (rC (.int 13)) rNil))) (rC (.int 6))) (rCons (rVar 1) rNil))))))
/-- _law_turn(_law_d) : 0 _law_d, 1 _law_some -/
def rd_law_turnT (Γ : CL) : RS := (rSeq (rAsg (rLst (rCons (rTup (rCons (rC (.int 1)) (rCons (rC (.int 0)) (rCons (rC (.int 1)) rNil)))) (rCons (rTup (rCons (rOp gSub (rC (.int 0)) (rC (.int 1))) (rCons (rC (.int 0)) (rCons (rC (.int 1)) rNil)))) (rCons (rTup (rCons (rC (.int 0)) (rCons (rC (.int 1)) (rCons (rC (.int 1)) rNil)))) (rCons (rTup (rCons (rC (.int 0)) (rCons (rOp gSub (rC (.int 0)) (rC (.int 1))) (rCons (rC (.int 1)) rNil)))) (rCons (rTup (rCons (rC (.int 2)) (rCons (rC (.int 0)) (rCons (rC (.int 1)) rNil)))) (rCons (rTup (rCons (rC (.int 1)) (rCons (rC (.int 0)) (rCons (rC (.int 2)) rNil)))) (rCons (rTup (rCons (rC (.int 1)) (rCons (rC (.int 1)) (rCons (rC (.int 1)) rNil)))) (rCons (rTup (rCons (rC (.int 3)) (rCons (rC (.int 4)) (rCons (rC (.int 5)) rNil)))) rNil))))))))) (rGN 1))
 (rSeq (rAsg (rOp gAdd (rVar 1) (rLst (rCons (rTup (rCons (rC (.int 0)) (rCons (rC (.int 2)) (rCons (rC (.int 1)) rNil)))) (rCons (rTup (rCons (rOp gSub (rC (.int 0)) (rC (.int 1))) (rCons (rC (.int 0)) (rCons (rC (.int 3)) rNil)))) (rCons (rTup (rCons (rC (.int 1)) (rCons (rOp gSub (rC (.int 0)) (rC (.int 1))) (rCons (rC (.int 2)) rNil)))) (rCons (rTup (rCons (rC (.int 2)) (rCons (rC (.int 1)) (rCons (rC (.int 1)) rNil)))) (rCons (rTup (rCons (rOp gSub (rC (.int 0)) (rC (.int 4))) (rCons (rC (.int 3)) (rCons (rC (.int 5)) rNil)))) rNil))))))) (rGN 1))
 (rRet (rOp gIx (rVar 1) (rCl (sp_law_below Γ) (rCons (rVar 0) (rCons (rC (.int 13)) rNil)))))))
end L3

/-! ## SP9 -/
set_option Elab.async false
set_option linter.all false
set_option maxRecDepth 100000
set_option maxHeartbeats 1000000
/-! Copies that carry pairs of spots. -/
namespace L3
open PySem NM L2
/-- the copy, mirrored or not, that carries p.1 to p.2 and q.1 to q.2 -/
def carC (m : Bool) (p q : Num × Num) : Cp :=
  let b := sub q.1 p.1
  let t := mul (sub q.2 p.2) (NM.inv (if m then ovr b else b))
  ⟨t, sub p.2 (mul t (if m then ovr p.1 else p.1)), m⟩
def carriesB (c : Cp) (ps : List (Num × Num)) : Bool := ps.all fun x => decide (c.at x.1 = x.2)
def carM (ps : List (Num × Num)) (p q : Num × Num) (m : Bool) : List Cp := if q.2 = p.2 then [] else if carriesB (carC m p q) ps then [carC m p q] else []
def othersL : List (Num × Num) → List (Num × Num)
  | [] => []
  | p :: r => (p :: r).filter fun q => !decide (q.1 = p.1)
def carL (ps : List (Num × Num)) : List Cp := match ps, othersL ps with
  | p :: _, q :: _ => carM ps p q false ++ carM ps p q true
  | _, _ => []
def okPr (n : Nat) (p : Num × Num) : Prop := (Can p.1 ∧ Sz n p.1) ∧ Can p.2 ∧ Sz n p.2
def Cp.tn (c : Cp) : Prop := c.small ∧ c.sz 3
def sp_law_toldT (Γ : CL) : GN := fun ds μ R => ∃ g xs, ds = [.ref g] ∧ μ g = some (.lst xs) ∧ RL xs ∧ ∀ c ys, c.tn → RL ys → R (toldD c) (updM μ g (.lst ys))
end L3

/-! ## RB9 -/
set_option Elab.async false
set_option linter.all false
set_option maxRecDepth 100000
set_option maxHeartbeats 4000000
namespace L3
open PySem NM L2
/-- _law_told(_law_d) : 0 _law_d -/
def rd_law_toldT (Γ : CL) : RS := (rRet (rTup (rCons (rCl (sp_law_turnT Γ) (rCons (rVar 0) rNil)) (rCons (rCl (sp_law_spotT Γ) (rCons (rVar 0) rNil)) (rCons (rOp gEq (rCl (sp_law_below Γ) (rCons (rVar 0) (rCons (rC (.int 2)) rNil))) (rC (.int 0))) rNil)))))
end L3

/-! ## SP10 -/
set_option Elab.async false
set_option linter.all false
set_option maxRecDepth 100000
set_option maxHeartbeats 1000000
/-! The laws' own words for what strokes cover. -/
namespace L3
open PySem NM L2
def okZ3 (z : Num) : Prop := Can z ∧ Sz 300 z
def okL3 (ss : List Stk) : Prop := ss.length ≤ 1000 ∧ ∀ s ∈ ss, 1 ≤ s.length ∧ s.length ≤ 1000 ∧ ∀ z ∈ s, okZ3 z
/-! ### crossings -/
open Ink (Pl Sg Ky Q2)
/-- two drawings that are not too large: places of m bits, lines' directions of e bits, c pairs of parts -/
structure okC (N : Int) (n m e c : Nat) (as bs : List Stk) : Prop where
  ok : okI N (as ++ bs)
  a12 : as.length ≤ 12
  b12 : bs.length ≤ 12
  bn : Bt n N
  pl : ∀ S : Int, S ∣ N → okS S (as ++ bs) → ∀ s ∈ as ++ bs, ∀ z ∈ s, BtP m (plI S z)
  dr : ∀ S : Int, S ∣ N → okS S (as ++ bs) → ∀ s ∈ as ++ bs, ∀ y ∈ segs s, Bt e (Ink.keyI (plI S y.1) (plI S y.2)).1 ∧ Bt e (Ink.keyI (plI S y.1) (plI S y.2)).2.1
  cn : (inkS as).lines.length * (inkS bs).lines.length ≤ c
  le : as.length + bs.length + c ≤ 500
  hm : m ≤ 1500
  he : e ≤ 1501
  h0 : m + e + 1 ≤ 3003
  h1 : m + 2 * e + 2 ≤ 1500
  h2 : 2 * e + 1 + n ≤ 1500
  h3 : n + (1 + (2 * e + 1) * c) ≤ 6000
end L3

/-! ## RB10 -/
set_option Elab.async false
set_option linter.all false
set_option maxRecDepth 100000
set_option maxHeartbeats 4000000
namespace L3
open PySem NM L2
end L3

/-! ## SP11 -/
set_option Elab.async false
set_option linter.all false
set_option maxRecDepth 100000
set_option maxHeartbeats 1000000
/-! More of the laws' own words. -/
namespace L3
open PySem NM L2
end L3

/-! ## RB11 -/
set_option Elab.async false
set_option linter.all false
set_option maxRecDepth 100000
set_option maxHeartbeats 4000000
namespace L3
open PySem NM L2
end L3

/-! ## SP12 -/
set_option Elab.async false
set_option linter.all false
set_option maxRecDepth 100000
set_option maxHeartbeats 1000000
/-! Spots by their places, measures of drawings. -/
namespace L3
open PySem NM L2
def leN (a b : Num) : Bool := decide (Ink.le (numQ a) (numQ b))
def ascL (zs : List Num) : List Num := zs.mergeSort leN
structure isMeas (zs : List Num) (a b c d : Rat) : Prop where
  lx : (∃ z ∈ zs, re z = a) ∧ ∀ z ∈ zs, a ≤ re z
  hx : (∃ z ∈ zs, re z = b) ∧ ∀ z ∈ zs, re z ≤ b
  ly : (∃ z ∈ zs, im z = c) ∧ ∀ z ∈ zs, c ≤ im z
  hy : (∃ z ∈ zs, im z = d) ∧ ∀ z ∈ zs, im z ≤ d
end L3

/-! ## RB12 -/
set_option Elab.async false
set_option linter.all false
set_option maxRecDepth 100000
set_option maxHeartbeats 4000000
namespace L3
open PySem NM L2
end L3

/-! ## SP13 -/
set_option Elab.async false
set_option linter.all false
set_option maxRecDepth 100000
set_option maxHeartbeats 1000000
/-! Spots that stand in order; covers, told what is no spot. -/
namespace L3
open PySem NM L2
end L3

/-! ## RB13 -/
set_option Elab.async false
set_option linter.all false
set_option maxRecDepth 100000
set_option maxHeartbeats 4000000
namespace L3
open PySem NM L2
end L3

/-! ## L8c -/
set_option Elab.async false
set_option linter.all false
set_option maxRecDepth 100000
set_option maxHeartbeats 4000000
/-! Texts: join, split, a sign of a text. -/
namespace L3
open PySem PySem.Spec PySem.Calls PyProof.Rows L2
section
variable {X : Cx} {o e a b : Expr} {fo fe fa fb : RX} {apos pos : Pos}
end
end L3

/-! ## SP14 -/
set_option Elab.async false
set_option linter.all false
set_option maxRecDepth 100000
set_option maxHeartbeats 1000000
/-! Pictures. -/
namespace L3
open PySem PySem.Spec PySem.Calls PyProof.Rows L2 NM
end L3

/-! ## RB14 -/
set_option Elab.async false
set_option linter.all false
set_option maxRecDepth 100000
set_option maxHeartbeats 4000000
namespace L3
open PySem NM L2
end L3

/-! ## L8d -/
set_option Elab.async false
set_option linter.all false
set_option maxRecDepth 100000
set_option maxHeartbeats 4000000
/-! A text times an int; range with a step of minus one. -/
namespace L3
open PySem PySem.Spec PySem.Calls PyProof.Rows L2
section
variable {X : Cx}
end
section
variable {X : Cx} {tg a b c : Expr} {fa fb : RX} {ga : RA} {p pos : Pos}
end
end L3

/-! ## SP15 -/
set_option Elab.async false
set_option linter.all false
set_option maxRecDepth 100000
set_option maxHeartbeats 1000000
/-! Pictures that cannot be. -/
namespace L3
open PySem PySem.Spec PySem.Calls PyProof.Rows L2 NM
end L3

/-! ## RB15 -/
set_option Elab.async false
set_option linter.all false
set_option maxRecDepth 100000
set_option maxHeartbeats 4000000
namespace L3
open PySem NM L2
end L3

/-! ## L9a -/
set_option Elab.async false
set_option linter.all false
set_option maxRecDepth 100000
set_option maxHeartbeats 4000000
/-! d[y] as a target among others. -/
namespace L3
open PySem PySem.Spec PySem.Calls PyProof.Rows L2
section
variable {X : Cx} {o i : Expr} {fo fi : RX} {vs : List Nat} {pos : Pos} {n : Nat}
end
end L3

/-! ## SP16 -/
set_option Elab.async false
set_option linter.all false
set_option maxRecDepth 100000
set_option maxHeartbeats 1000000
/-! Corners; copies in order. -/
namespace L3
open PySem PySem.Spec PySem.Calls PyProof.Rows L2 NM
def insL (l : List Num) (z : Num) : List Num := if z ∈ l then l else l ++ [z]
def nubL (l : List Num) : List Num := l.foldl insL []
def cornK (I : Inkd) : List Num := I.lines.foldl (fun l y => insL (insL l y.1) y.2) (nubL I.dots)
def cornS (I : Inkd) : List Num := ascL (cornK I)
end L3

/-! ## RB16 -/
set_option Elab.async false
set_option linter.all false
set_option maxRecDepth 100000
set_option maxHeartbeats 4000000
namespace L3
open PySem NM L2
end L3

/-! ## V21 -/
set_option Elab.async false
set_option linter.all false
set_option maxRecDepth 100000
set_option maxHeartbeats 1000000
/-! Arms at random. -/
namespace L3
open PySem NM L2
theorem Am.small.ok {a : Am} (h : a.small) : a.ok := ⟨h.1.1, h.2.1.1, h.2.2.1, h.2.2.2.1, h.2.2.2.2.2.1, by have := h.2.2.2.2.2.2; omega⟩
theorem Am.small.sz {a : Am} (h : a.small) : a.sz 5 := ⟨h.1.2, h.2.1.2⟩
section
variable {Γ : CL} {μ : MH} {Q : D → MH → Prop} {as : List Am} {ss : List Stk} {a : Am}
end
end L3

/-! ## V23 -/
set_option Elab.async false
set_option linter.all false
set_option maxRecDepth 100000
set_option maxHeartbeats 1000000
/-! Chains that draw, and what is seen from elsewhere. -/
namespace L3
open PySem NM L2
/-! ### a chain that draws -/
/-! ### the law's helpers -/
end L3

/-! ## V24 -/
set_option Elab.async false
set_option linter.all false
set_option maxRecDepth 100000
set_option maxHeartbeats 1000000
/-! What is seen from elsewhere: carried by a copy of size 1. -/
namespace L3
open PySem NM L2
def conjC (u c : Cp) : Cp := (u.inv.comp c).comp u
theorem conj_ok {u c : Cp} (hu : u.ok) (hc : c.ok) : (conjC u c).ok := Cp.comp_ok (Cp.comp_ok (Cp.inv_ok hu) hc) hu
theorem conj_at {u c : Cp} {z : Num} (hu : u.ok) (hc : c.ok) (hz : Can z) : (conjC u c).at (u.at z) = u.at (c.at z) := by
  have hi := Cp.inv_ok hu
  have hw := Cp.can_at hu hz
  unfold conjC
  rw [Cp.comp_at (Cp.comp_ok hi hc) hu hw, Cp.comp_at hi hc hw, Cp.inv_at hu hz]
/-! ### distances -/
section
variable {u : Cp} (hu : u.ok) (h : u.unit) {p a b : Num} (hp : Can p) (ha : Can a) (hb : Can b)
include hu h hp ha
include hb
end
def CanS (ss : List Stk) : Prop := ∀ s ∈ ss, ∀ z ∈ s, Can z
theorem CanS.at {c : Cp} {ss : List Stk} (hc : c.ok) (k : CanS ss) : CanS (movedBy c ss) := by
  intro s hs z hz
  obtain ⟨s', h1, rfl⟩ := List.mem_map.mp hs
  obtain ⟨w, h2, rfl⟩ := List.mem_map.mp hz
  exact Cp.can_at hc (k s' h1 w h2)
theorem okDr.canS {n : Nat} {ss : List Stk} (k : okDr n ss) : CanS ss := fun s hs z hz => ((k.st s hs).can z hz).1
theorem moved_moved (a b : Cp) (ss : List Stk) : movedBy b (movedBy a ss) = ss.map fun s => s.map fun z => b.at (a.at z) := by
  unfold movedBy
  rw [List.map_map]
  refine List.map_congr_left fun s _ => ?_
  show (s.map a.at).map b.at = _
  rw [List.map_map]
  rfl
theorem moved_conj {u c : Cp} {ss : List Stk} (hu : u.ok) (hc : c.ok) (k : CanS ss) : movedBy (conjC u c) (movedBy u ss) = movedBy u (movedBy c ss) := by
  rw [moved_moved, moved_moved]
  exact List.map_congr_left fun s hs => List.map_congr_left fun z hz => conj_at hu hc (k s hs z hz)
section
variable {u : Cp} (hu : u.ok) (h : u.unit)
include hu h
end
/-! ### zones -/
/-! ### sizes -/
/-! ### what is kept -/
end L3

/-! ## V25 -/
set_option Elab.async false
set_option linter.all false
set_option maxRecDepth 100000
set_option maxHeartbeats 1000000
/-! Spots in reach. -/
namespace L3
open PySem NM L2
section
variable {Γ : CL} {E : Ed} {as : List Am} {n : Int} {p : Addr} {μ : MH} {s0 s1 : Option D}
end
end L3

/-! ## V26 -/
set_option Elab.async false
set_option linter.all false
set_option maxRecDepth 100000
set_option maxHeartbeats 1000000
/-! Zones of chains and dots that are traced. -/
namespace L3
open PySem NM L2
/-! ### plain laws of zones -/
section
variable {Γ : CL} {μ : MH} {as : List Am}
end
end L3

/-! ## V27 -/
set_option Elab.async false
set_option linter.all false
set_option maxRecDepth 100000
set_option maxHeartbeats 1000000
/-! Chains one behind another; poles of single arms. -/
namespace L3
open PySem NM L2
/-! ### chains one behind another -/
/-! ### the same data -/
theorem deq_self : ∀ (n : Nat) (d : D), pureN n d = true → deq d d = true := by
  intro n
  induction n with
  | zero =>
    intro d h
    cases d with
    | bl b => rw [deq_bl]; simp
    | int i => rw [deq_int]; simp
    | str x => rw [deq_str]; simp
    | non => rfl
    | _ => cases h
  | succ n ih =>
    have allT : ∀ ds : List D, ds.all (pureN n) = true → deq (.tup ds) (.tup ds) = true := by
      intro ds
      induction ds with
      | nil => intro _; rfl
      | cons d r ihr =>
        intro h
        rw [List.all_cons, Bool.and_eq_true] at h
        rw [deq_tt, ih d h.1, ihr h.2]
        rfl
    have allL : ∀ ds : List D, ds.all (pureN n) = true → deq (.lst ds) (.lst ds) = true := by
      intro ds
      induction ds with
      | nil => intro _; rfl
      | cons d r ihr =>
        intro h
        rw [List.all_cons, Bool.and_eq_true] at h
        rw [deq_ll, ih d h.1, ihr h.2]
        rfl
    intro d h
    cases d with
    | tup ds => exact allT ds h
    | lst ds => exact allL ds h
    | bl b => rw [deq_bl]; simp
    | int i => rw [deq_int]; simp
    | str x => rw [deq_str]; simp
    | non => rfl
    | _ => cases h
end L3

/-! ## V28 -/
set_option Elab.async false
set_option linter.all false
set_option maxRecDepth 100000
set_option maxHeartbeats 1000000
/-! Chains: equal ones, too many arms. -/
namespace L3
open PySem NM L2
end L3

/-! ## V30 -/
set_option Elab.async false
set_option linter.all false
set_option maxRecDepth 100000
set_option maxHeartbeats 1000000
/-! Inks: what the defs keep. -/
namespace L3
open PySem NM L2
open Ink (Q2 Pl Sg Ky)
theorem lcD_gen {α : Type} {i : Nat} {f : RX} {ρ : EV} {R : List D → MH → Prop} {μ : MH} {C : MH → Prop} (hC : C μ) (xs : List α) (p g : α → D) (hf : ∀ x ∈ xs, ∀ Q : D → MH → Prop, Q (g x) μ → f (st ρ i (p x)) μ Q) {acc : List D} (h : R (acc ++ xs.map g) μ) : lcD (rGN i) rTrue f C ρ (xs.map p) acc μ R := by
  induction xs generalizing acc with
  | nil =>
    rw [List.map_nil, List.append_nil] at h
    exact ⟨hC, h⟩
  | cons x r ih =>
    refine ⟨hC, ?_⟩
    simp only [rGN, rTrue, if_true]
    refine hf x (List.mem_cons_self ..) _ (ih (fun y m => hf y (List.mem_cons_of_mem _ m)) ?_)
    rw [List.map_cons] at h
    rw [List.append_assoc]
    exact h
theorem lc2D_gen {α β : Type} {i j : Nat} {fi1 : RI} {f : RX} {ρ : EV} {μ : MH} {R : List D → MH → Prop} {C : MH → Prop} (hC : C μ) (fx : α → D) (ys : α → List β) (fy : α → β → D) (e : α → β → D) : ∀ (xs : List α) (acc : List D),
    (∀ x ∈ xs, ∀ Q : List D → (MH → Prop) → MH → Prop, (∀ C1 : MH → Prop, C1 μ → Q ((ys x).map (fy x)) C1 μ) → fi1 (st ρ i (fx x)) μ Q) →
    (∀ x ∈ xs, ∀ y ∈ ys x, ∀ Q : D → MH → Prop, Q (e x y) μ → f (st (rms (st ρ i (fx x)) [j]) j (fy x y)) μ Q) →
    acc.length + (xs.map fun x => (ys x).length).sum ≤ sizeLine → R (acc ++ xs.flatMap fun x => (ys x).map (e x)) μ →
    lc2D (rGN i) rTrue fi1 (rGN j) rTrue f [j] C ρ (xs.map fx) acc μ R
  | [], acc, _, _, _, h => ⟨hC, by simpa using h⟩
  | x :: xs, acc, h1, h2, hz, h => by
    rw [List.map_cons, List.sum_cons] at hz
    refine ⟨hC, ?_⟩
    simp only [rGN, rTrue, if_true]
    refine h1 x (List.mem_cons_self ..) _ fun C1 hC1 => ?_
    refine ⟨by rw [List.length_map]; omega, ?_⟩
    refine lcD_gen hC1 (ys x) (fy x) (e x) (fun y m Q q => h2 x (List.mem_cons_self ..) y m Q q) ?_
    refine lc2D_gen hC fx ys fy e xs _ (fun z m => h1 z (List.mem_cons_of_mem _ m)) (fun z m => h2 z (List.mem_cons_of_mem _ m)) (by rw [List.length_append, List.length_map]; omega) ?_
    rw [List.flatMap_cons] at h
    rw [List.append_assoc]
    exact h
theorem row_seq {d : D} {ss : List Stk} (hd : d = strsD ss ∨ d = .lst (ss.map strD)) {i : Nat} {ρ : EV} {μ : MH} {R : List D → (MH → Prop) → MH → Prop} (hi : gt ρ i = some d) (q : R (ss.map strD) tru μ) : rISeq (rVar i) ρ μ R := by
  unfold rISeq rVar
  rw [hi]
  rcases hd with rfl | rfl <;> exact q
theorem sum_le {α : Type} (f : α → Nat) (m : Nat) : ∀ xs : List α, (∀ x ∈ xs, f x ≤ m) → (xs.map f).sum ≤ xs.length * m
  | [], _ => by simp
  | x :: xs, h => by
    have := sum_le f m xs fun y hy => h y (List.mem_cons_of_mem _ hy)
    have := h x (List.mem_cons_self ..)
    rw [List.map_cons, List.sum_cons, List.length_cons, Nat.succ_mul]
    omega
theorem vc_scaled (Γ : CL) : ∀ ds μ R, sp_scaled Γ ds μ R → rd_scaled Γ (fin R) (startD 5 ds) μ := by
  rintro ds μ R ⟨ss, N0, hrow, k, h⟩
  obtain ⟨d, rfl, hd⟩ : ∃ d, ds = [d] ∧ (d = strsD ss ∨ d = .lst (ss.map strD)) := by
    rcases hrow with rfl | rfl
    · exact ⟨_, rfl, .inl rfl⟩
    · exact ⟨_, rfl, .inr rfl⟩
  unfold rd_scaled
  rw [show startD 5 [d] = [some d, none, none, none, none] from rfl]
  refine seq_g fun N hN => ?_
  simp only [rAsg, rCl, rCons, rNil, rLc2]
  refine row_seq hd rfl ?_
  have tot := sum_le (fun s : Stk => s.length) 12 ss fun s hs => (k.st s hs).2.1
  refine lc2D_gen (C := tru) trivial strD (fun s => s) (fun _ z => numD z) (fun _ z => D.int z.d) ss [] (fun s hs Q q => ?_) (fun s hs z hz Q q => ?_) ?_ ?_
  · exact q tru trivial
  · simp only [rms, rm, rOp, rVar, rC, gt, st]
    exact q
  · have := k.le
    have := Nat.mul_le_mul_right 12 this
    show 0 + _ ≤ 2 ^ 24
    omega
  have em : (ss.flatMap fun s => s.map fun z => D.int z.d) = (ss.flatMap fun s => s.map fun z => z.d).map D.int := by
    rw [List.map_flatMap]
    refine congrArg (List.flatMap · ss) ?_
    funext s
    rw [List.map_map]
    rfl
  rw [List.nil_append, em]
  refine ⟨_, N0, rfl, k.pos, k.bn.mono (by decide), fun x m => ?_, fun S hS dS dall => ?_⟩
  · obtain ⟨s, hs, m⟩ := List.mem_flatMap.mp m
    obtain ⟨z, hz, rfl⟩ := List.mem_map.mp m
    obtain ⟨a, _, c⟩ := k.can s hs z hz
    exact ⟨a.1, c⟩
  have bS : Bt 6000 S := k.bn.le (by
    have := Int.le_of_dvd k.pos dS
    omega)
  have kS : okS S ss := ⟨hS, fun s hs => (k.st s hs).2.2, fun s hs z hz => ⟨(k.can s hs z hz).1, dall _ (List.mem_flatMap.mpr ⟨s, hs, List.mem_map.mpr ⟨z, hz, rfl⟩⟩)⟩⟩
  simp only [rGN, st]
  refine hN _ _ ?_
  clear hN N
  refine seq_g fun N hN => ?_
  simp only [rAsg, rLstM, rNil, rGN, st]
  refine ⟨by decide, fun p hp => ?_⟩
  refine hN _ _ ?_
  clear hN N
  refine seq_g fun N hN => ?_
  simp only [rFor]
  refine row_seq hd rfl ?_
  have loop : ∀ (r pre : List Stk) (x2 x3 : Option D), (∀ s ∈ r, s ∈ ss) → pre.length + r.length ≤ 500 → (∀ x2 x3, N [some d, some (.int S), x2, x3, some (.ref p)] (updM μ p (.lst ((plsI S (pre ++ r)).map plsD)))) →
      forD (rGN 2) (rDrop (rMut (rVar 4) (rCons (rCl gTuple (rCons (rLc (rITup (rVar 2)) (rGN 3) rTrue (rTup (rCons (rOp gMul (rOp gIx (rVar 3) (rC (.int 0))) (rOp gDiv (rVar 1) (rOp gIx (rVar 3) (rC (.int 2))))) (rCons (rOp gMul (rOp gIx (rVar 3) (rC (.int 1))) (rOp gDiv (rVar 1) (rOp gIx (rVar 3) (rC (.int 2))))) rNil))) [3]) rNil)) rNil) gAppend)) tru { (fin R) with nx := N } (r.map strD) [some d, some (.int S), x2, x3, some (.ref p)] (updM μ p (.lst ((plsI S pre).map plsD))) := by
    intro r
    induction r with
    | nil =>
      intro pre x2 x3 _ _ q
      have := q x2 x3
      rw [List.append_nil] at this
      exact ⟨trivial, this⟩
    | cons s r ih =>
      intro pre x2 x3 hr hl q
      rw [List.length_cons] at hl
      have hs := hr s (List.mem_cons_self ..)
      refine ⟨trivial, ?_⟩
      simp only [rGN, st, rDrop, rMut, rVar, gt, rCons, rCl, rNil, rLc, rITup, rms, rm, updM_same, strD]
      refine ⟨by rw [List.length_map]; exact Nat.le_trans (k.st s hs).2.1 (by decide), ?_⟩
      refine lcD_gen (C := tru) trivial s numD (fun z => plD (plI S z)) (fun z hz Q qq => ?_) ?_
      · obtain ⟨cz, sz, dz⟩ := k.can s hs z hz
        obtain ⟨kk, hk⟩ := (kS.can s hs z hz).2
        have ek : S.fdiv z.d = kk := by rw [hk]; exact fdiv_mul' (ne_d cz)
        have bk : Bt 6000 (S.fdiv z.d) := by
          rw [ek]
          refine bS.le ?_
          rw [hk, Int.natAbs_mul]
          have := cz.1
          exact Nat.le_mul_of_pos_left _ (by omega)
        simp only [rTup, rCons, rNil, rOp, rVar, rC, gt, st]
        refine ⟨⟨ne_d cz, sz.2.2.mono (by decide)⟩, ⟨sz.1.mono (by decide), bk.mono (by decide)⟩, ?_⟩
        refine ⟨⟨ne_d cz, sz.2.2.mono (by decide)⟩, ⟨sz.2.1.mono (by decide), bk.mono (by decide)⟩, ?_⟩
        exact ⟨by show 2 ≤ 2 ^ 24; decide, qq⟩
      · simp only [gTuple, res, seqD, List.nil_append, gAppend, updM_same, updM_updM]
        refine ⟨by rw [List.length_map, plsI, List.length_map]; show _ < 2 ^ 24; omega, ?_⟩
        have e : (plsI S pre).map plsD ++ [D.tup (s.map fun z => plD (plI S z))] = (plsI S (pre ++ [s])).map plsD := by
          simp [plsI, plsD, List.map_map, Function.comp_def]
        rw [e]
        refine ih (pre ++ [s]) _ _ (fun t m => hr t (List.mem_cons_of_mem _ m)) (by rw [List.length_append]; simp only [List.length_cons, List.length_nil]; omega) fun y2 y3 => ?_
        have := q y2 y3
        rw [List.append_assoc]
        exact this
  refine loop ss [] none none (fun _ m => m) (by have := k.le; simp; omega) fun x2 x3 => ?_
  refine hN _ _ ?_
  simp only [rRet, rTup, rCons, rVar, gt, rFrz, frz, rNil, updM_same]
  refine ⟨by show 2 ≤ 2 ^ 24; decide, ?_⟩
  rw [delM_updM hp]
  exact h S bS dS kS
end L3

/-! ## V31 -/
set_option Elab.async false
set_option linter.all false
set_option maxRecDepth 100000
set_option maxHeartbeats 1000000
/-! Inks: keys of lines, joined stretches, lines, dots. -/
namespace L3
open PySem NM L2
open Ink (Q2 Pl Sg Ky)
section
variable {μ : MH} {R : D → MH → Prop}
end
end L3

/-! ## V32 -/
set_option Elab.async false
set_option linter.all false
set_option maxRecDepth 100000
set_option maxHeartbeats 1000000
/-! Inks: joined stretches. -/
namespace L3
open PySem NM L2
open Ink (Q2 Pl Sg Ky)
section
variable {Γ : CL} {E : Ed} {μ : MH} {d : Option D} {p : Addr}
end
end L3

/-! ## V33 -/
set_option Elab.async false
set_option linter.all false
set_option maxRecDepth 100000
set_option maxHeartbeats 1000000
/-! Inks: parts by their lines. -/
namespace L3
open PySem NM L2
open Ink (Q2 Pl Sg Ky)
section
variable {Γ : CL} {E : Ed} {μ μ0 : MH} {p : Addr} {x0 x2 x5 x6 : Option D} {G : List (Ky × List Sg)}
end
end L3

/-! ## V34 -/
set_option Elab.async false
set_option linter.all false
set_option maxRecDepth 100000
set_option maxHeartbeats 1000000
/-! Inks: lines, places that lie on them. -/
namespace L3
open PySem NM L2
open Ink (Q2 Pl Sg Ky)
def totG (G : List (Ky × List Sg)) : Nat := (G.map fun x => x.2.length).sum
theorem ins_tot (k : Ky) (s : Sg) : ∀ G : List (Ky × List Sg), totG (Ink.insK k s G) = totG G + 1 ∧ (Ink.insK k s G).length ≤ G.length + 1
  | [] => ⟨rfl, Nat.le_refl _⟩
  | x :: G => by
    unfold Ink.insK
    by_cases c : x.1 = k
    · rw [if_pos c]
      refine ⟨?_, by simp⟩
      unfold totG
      rw [List.map_cons, List.map_cons, List.sum_cons, List.sum_cons, List.length_append]
      simp only [List.length_cons, List.length_nil]
      omega
    · rw [if_neg c]
      obtain ⟨h1, h2⟩ := ins_tot k s G
      refine ⟨?_, by rw [List.length_cons, List.length_cons]; omega⟩
      unfold totG at *
      rw [List.map_cons, List.map_cons, List.sum_cons, List.sum_cons, h1]
      omega
theorem fold_tot : ∀ (ps : List (Pl × Pl)) (G : List (Ky × List Sg)), totG (ps.foldl Ink.putP G) = totG G + ps.length ∧ (ps.foldl Ink.putP G).length ≤ G.length + ps.length
  | [], G => ⟨rfl, Nat.le_refl _⟩
  | x :: ps, G => by
    obtain ⟨h1, h2⟩ := fold_tot ps (Ink.putP G x)
    obtain ⟨k1, k2⟩ := ins_tot (Ink.keyI x.1 x.2) (Ink.mmS x) G
    rw [List.foldl_cons, List.length_cons]
    unfold Ink.putP at *
    omega
theorem joinR_len : ∀ (ss acc : List Sg), (Ink.joinR acc ss).length ≤ acc.length + ss.length
  | [], acc => by
    rw [show Ink.joinR acc [] = acc.reverse from by cases acc <;> rfl]
    simp
  | s :: r, [] => by
    have := joinR_len r [s]
    show (Ink.joinR [s] r).length ≤ _
    simp only [List.length_cons, List.length_nil] at *
    omega
  | s :: r, l :: acc => by
    unfold Ink.joinR
    split
    · have := joinR_len r ((l.1, Ink.maxI l.2 s.2) :: acc)
      simp only [List.length_cons] at *
      omega
    · have := joinR_len r (s :: l :: acc)
      simp only [List.length_cons] at *
      omega
theorem joinS_len (l : List Sg) : (Ink.joinS l).length ≤ l.length := by
  have := joinR_len (l.mergeSort Ink.leS) []
  rw [List.length_mergeSort] at this
  unfold Ink.joinS
  simpa using this
section
variable {Γ : CL} {E : Ed} {μ μ0 : MH} {p : Addr} {x0 : Option D} {G : List (Ky × List Sg)}
end
end L3

/-! ## V35 -/
set_option Elab.async false
set_option linter.all false
set_option maxRecDepth 100000
set_option maxHeartbeats 1000000
/-! Inks: ink_of and what rests on it. -/
namespace L3
open PySem NM L2
open Ink (Q2 Pl Sg Ky)
theorem sum_map_le {α : Type} (f g : α → Nat) : ∀ l : List α, (∀ x ∈ l, f x ≤ g x) → (l.map f).sum ≤ (l.map g).sum
  | [], _ => Nat.le_refl _
  | x :: l, h => by
    have := sum_map_le f g l fun y m => h y (List.mem_cons_of_mem _ m)
    have := h x (List.mem_cons_self ..)
    rw [List.map_cons, List.map_cons, List.sum_cons, List.sum_cons]
    omega
section
variable {Γ : CL} {μ : MH} {R : MH → Prop} {s0 s1 s2 : Option D} {p q : Addr} {o : Obj} {L : List (Ky × List Sg)}
end
end L3

/-! ## V36 -/
set_option Elab.async false
set_option linter.all false
set_option maxRecDepth 100000
set_option maxHeartbeats 1000000
/-! Inks of drawings; what inks say of covered spots. -/
namespace L3
open PySem NM L2
open Ink (Q2 Pl Sg Ky)
/-! ### inks and what is covered -/
theorem okI.okS {N : Int} {ss : List Stk} (k : okI N ss) : okS N ss := ⟨k.pos, fun s hs => (k.st s hs).2.2, fun s hs z hz => ⟨(k.can s hs z hz).1, (k.can s hs z hz).2.2⟩⟩
theorem okI.is {N : Int} {ss : List Stk} (k : okI N ss) : IsInk (covS ss) (inkS ss) := by
  rw [inkS_of k.okS.ink]
  exact k.okS.ink
theorem cov_app {as bs : List Stk} {p : Q2} : covS (as ++ bs) p ↔ covS as p ∨ covS bs p := by
  constructor
  · rintro ⟨s, hs, h⟩
    rcases List.mem_append.mp hs with m | m
    · exact .inl ⟨s, m, h⟩
    · exact .inr ⟨s, m, h⟩
  · rintro (⟨s, hs, h⟩ | ⟨s, hs, h⟩)
    · exact ⟨s, List.mem_append_left _ hs, h⟩
    · exact ⟨s, List.mem_append_right _ hs, h⟩
theorem cov_one {z : Num} {p : Q2} : covS [[z]] p ↔ p = numQ z := by
  constructor
  · rintro ⟨s, hs, h⟩
    rcases List.mem_cons.mp hs with rfl | hs
    · rcases h with ⟨w, e, h⟩ | ⟨y, hy, _⟩
      · injection e with e
        exact e ▸ h
      · exact nomatch hy
    · exact nomatch hs
  · intro h
    exact ⟨[z], List.mem_cons_self .., .inl ⟨z, rfl, h⟩⟩
theorem okI.left {N : Int} {as bs : List Stk} (k : okI N (as ++ bs)) : okI N as := ⟨k.pos, k.bn, by have := k.le; rw [List.length_append] at this; omega, fun s hs => k.st s (List.mem_append_left _ hs), fun s hs => k.can s (List.mem_append_left _ hs)⟩
theorem okI.right {N : Int} {as bs : List Stk} (k : okI N (as ++ bs)) : okI N bs := ⟨k.pos, k.bn, by have := k.le; rw [List.length_append] at this; omega, fun s hs => k.st s (List.mem_append_right _ hs), fun s hs => k.can s (List.mem_append_right _ hs)⟩
/-- the ink's spots are spots of the strokes -/
theorem ink_spots {N : Int} {ss : List Stk} (k : okI N ss) : (∀ z ∈ (inkS ss).dots, ∃ s ∈ ss, z ∈ s) ∧ ∀ l ∈ (inkS ss).lines, (∃ s ∈ ss, l.1 ∈ s) ∧ ∃ s ∈ ss, l.2 ∈ s := by
  rw [inkS_of k.okS.ink]
  refine ⟨fun z hz => ?_, fun l hl => ?_⟩
  · obtain ⟨p, hp, rfl⟩ := List.mem_map.mp hz
    obtain ⟨s, hs, w, hw, rfl⟩ := k.okS.dot_of hp
    refine ⟨s, hs, ?_⟩
    rw [lowP_self k.okS hs hw]
    exact hw
  · obtain ⟨x, hx, rfl⟩ := List.mem_map.mp hl
    obtain ⟨⟨s, hs, w, hw, e⟩, t, ht, v, hv, f⟩ := k.okS.end_of hx
    refine ⟨⟨s, hs, ?_⟩, t, ht, ?_⟩
    · show lowP N x.1 ∈ s
      rw [e, lowP_self k.okS hs hw]
      exact hw
    · show lowP N x.2 ∈ t
      rw [f, lowP_self k.okS ht hv]
      exact hv
/-! ### equal inks -/
/-! ### the defs -/
/-! ### strokes whose inks can be told -/
def prodD (ss : List Stk) : Int := ss.foldl (fun a s => s.foldl (fun b z => b * z.d) a) 1
theorem prod_in : ∀ (s : Stk) (a : Int) (n : Nat), 0 < a → Bt n a → (∀ z ∈ s, Can z) → (m : Nat) → (∀ z ∈ s, Bt m z.d) → 0 < s.foldl (fun b z => b * z.d) a ∧ Bt (n + m * s.length) (s.foldl (fun b z => b * z.d) a) ∧ a ∣ s.foldl (fun b z => b * z.d) a ∧ ∀ z ∈ s, z.d ∣ s.foldl (fun b z => b * z.d) a
  | [], a, n, ha, hb, _, m, _ => ⟨ha, hb, Int.dvd_refl _, fun _ h => nomatch h⟩
  | w :: s, a, n, ha, hb, hc, m, hm => by
    obtain ⟨p1, p2, p3, p4⟩ := prod_in s (a * w.d) (n + m) (Int.mul_pos ha (hc w (List.mem_cons_self ..)).1) (hb.mul (hm w (List.mem_cons_self ..))) (fun z h => hc z (List.mem_cons_of_mem _ h)) m (fun z h => hm z (List.mem_cons_of_mem _ h))
    rw [List.foldl_cons]
    refine ⟨p1, p2.mono (by rw [List.length_cons, Nat.mul_add]; omega), Int.dvd_trans ⟨w.d, rfl⟩ p3, fun z h => ?_⟩
    rcases List.mem_cons.mp h with rfl | h
    · exact Int.dvd_trans ⟨a, Int.mul_comm ..⟩ p3
    · exact p4 z h
theorem prod_all : ∀ (ss : List Stk) (a : Int) (n : Nat), 0 < a → Bt n a → (m : Nat) → (∀ s ∈ ss, ∀ z ∈ s, Can z ∧ Bt m z.d) → 0 < ss.foldl (fun a s => s.foldl (fun b z => b * z.d) a) a ∧ Bt (n + m * (ss.map List.length).sum) (ss.foldl (fun a s => s.foldl (fun b z => b * z.d) a) a) ∧ a ∣ ss.foldl (fun a s => s.foldl (fun b z => b * z.d) a) a ∧
    ∀ s ∈ ss, ∀ z ∈ s, z.d ∣ ss.foldl (fun a s => s.foldl (fun b z => b * z.d) a) a
  | [], a, n, ha, hb, m, _ => ⟨ha, hb, Int.dvd_refl _, fun _ h => nomatch h⟩
  | s :: ss, a, n, ha, hb, m, hc => by
    obtain ⟨q1, q2, q3, q4⟩ := prod_in s a n ha hb (fun z h => (hc s (List.mem_cons_self ..) z h).1) m (fun z h => (hc s (List.mem_cons_self ..) z h).2)
    obtain ⟨p1, p2, p3, p4⟩ := prod_all ss _ _ q1 q2 m fun t ht => hc t (List.mem_cons_of_mem _ ht)
    rw [List.foldl_cons]
    refine ⟨p1, p2.mono (by rw [List.map_cons, List.sum_cons, Nat.mul_add]; omega), Int.dvd_trans q3 p3, fun t ht z hz => ?_⟩
    rcases List.mem_cons.mp ht with rfl | ht
    · exact Int.dvd_trans (q4 z hz) p3
    · exact p4 t ht z hz
theorem okI_prod {n c : Nat} {ss : List Stk} (h : ∀ s ∈ ss, okSt n s) (hc : (ss.map List.length).sum ≤ c) (hb : 1 + n * c ≤ 6000) (hn : n ≤ 1500) (hl : ss.length ≤ 500) : okI (prodD ss) ss := by
  obtain ⟨p1, p2, _, p4⟩ := prod_all ss 1 1 (by decide) (by show (1 : Int).natAbs < 2 ^ 1; decide) n fun s hs z hz => ⟨((h s hs).can z hz).1, ((h s hs).can z hz).2.2.2⟩
  have := Nat.mul_le_mul_left n hc
  exact ⟨p1, p2.mono (by omega), hl, fun s hs => ⟨(h s hs).ne, (h s hs).le, (h s hs).mv⟩, fun s hs z hz => ⟨((h s hs).can z hz).1, ((h s hs).can z hz).2.mono hn, p4 s hs z hz⟩⟩
end L3

/-! ## V39 -/
set_option Elab.async false
set_option linter.all false
set_option maxRecDepth 100000
set_option maxHeartbeats 1000000
/-! carriers, shuffled. -/
namespace L3
open PySem NM L2
section
variable {Γ : CL} {E : Ed} {μ : MH} {x3 x4 x5 x6 x7 x8 x9 x10 x11 : Option D}
theorem carC_eq (m : Bool) (p q : Num × Num) : carC m p q = ⟨mul (sub q.2 p.2) (NM.inv (flip m (sub q.1 p.1))), sub p.2 (mul (mul (sub q.2 p.2) (NM.inv (flip m (sub q.1 p.1)))) (flip m p.1)), m⟩ := rfl
theorem NZ_sub2 {a b : Num} (ha : Can a) (hb : Can b) (h : a ≠ b) : NZ (sub a b) := by
  have k := can_sub ha hb
  rw [nz_iff k]
  intro e
  unfold nrm at e
  rw [re_sub ha hb, im_sub ha hb] at e
  have h1 : 0 ≤ (re a - re b) * (re a - re b) := by
    by_cases h : 0 ≤ re a - re b
    · exact Rat.mul_nonneg h h
    · have : 0 ≤ (-(re a - re b)) * (-(re a - re b)) := Rat.mul_nonneg (by grind) (by grind)
      grind
  have h2 : 0 ≤ (im a - im b) * (im a - im b) := by
    by_cases h : 0 ≤ im a - im b
    · exact Rat.mul_nonneg h h
    · have : 0 ≤ (-(im a - im b)) * (-(im a - im b)) := Rat.mul_nonneg (by grind) (by grind)
      grind
  have e1 : (re a - re b) * (re a - re b) = 0 := by grind
  have e2 : (im a - im b) * (im a - im b) = 0 := by grind
  have z1 : re a - re b = 0 := (Rat.mul_eq_zero.mp e1).elim id id
  have z2 : im a - im b = 0 := (Rat.mul_eq_zero.mp e2).elim id id
  exact h (NM.ext ha hb (by grind) (by grind))
theorem carC_ok {m : Bool} {p q : Num × Num} (hp : okPr 100 p) (hq : okPr 100 q) (h1 : q.1 ≠ p.1) (h2 : q.2 ≠ p.2) : (carC m p q).ok ∧ (carC m p q).sz quart ∧ Can (mul (sub q.2 p.2) (NM.inv (flip m (sub q.1 p.1)))) := by
  obtain ⟨⟨a1, a2⟩, a3, a4⟩ := hp
  obtain ⟨⟨b1, b2⟩, b3, b4⟩ := hq
  have kb := can_sub b1 a1
  have nb := NZ_sub2 b1 a1 h1
  have kh := can_sub b3 a3
  have nh := NZ_sub2 b3 a3 h2
  have ki : Can (NM.inv (flip m (sub q.1 p.1))) := can_inv (NZ_flip nb)
  have ni : NZ (NM.inv (flip m (sub q.1 p.1))) := NZ_inv (can_flip kb) (NZ_flip nb)
  have kt := can_mul kh ki
  have nt := NZ_mul kh ki nh ni
  have sb : Sz 201 (sub q.1 p.1) := Sz.add b1 (can_opp a1) b2 a2.opp
  have sh : Sz 201 (sub q.2 p.2) := Sz.add b3 (can_opp a3) b4 a4.opp
  have stt : Sz 605 (mul (sub q.2 p.2) (NM.inv (flip m (sub q.1 p.1)))) := (Sz.mul kh ki sh (Sz.inv (NZ_flip nb) (sz_flip sb))).mono (by decide)
  have sm := Sz.mul kt (can_flip (m := m) a1) stt (sz_flip (m := m) a2)
  rw [carC_eq]
  exact ⟨⟨kt, nt, can_sub a3 (can_mul kt (can_flip a1))⟩, ⟨stt.mono (by decide), (Sz.add a3 (can_opp (can_mul kt (can_flip a1))) a4 sm.opp).mono (by decide)⟩, kt⟩
end
end L3

/-! ## V40 -/
set_option Elab.async false
set_option linter.all false
set_option maxRecDepth 100000
set_option maxHeartbeats 1000000
/-! shuffled; what carriers are. -/
namespace L3
open PySem NM L2
/-! ### what carriers are -/
theorem rdiv_eq {a b c : Rat} (h : b ≠ 0) : a / b = c ↔ a = c * b := by
  constructor <;> intro e <;> grind
section
variable {p q : Num × Num} {m : Bool} {c : Cp} {ps : List (Num × Num)}
theorem re_carT (hp : Can p.1 ∧ Can p.2) (hq : Can q.1 ∧ Can q.2) (h1 : q.1 ≠ p.1) :
    re (carC m p q).t = ((re q.2 - re p.2) * (re q.1 - re p.1) + sg m * (im q.2 - im p.2) * (im q.1 - im p.1)) / ((re q.1 - re p.1) * (re q.1 - re p.1) + (im q.1 - im p.1) * (im q.1 - im p.1)) ∧
    im (carC m p q).t = ((im q.2 - im p.2) * (re q.1 - re p.1) - sg m * (re q.2 - re p.2) * (im q.1 - im p.1)) / ((re q.1 - re p.1) * (re q.1 - re p.1) + (im q.1 - im p.1) * (im q.1 - im p.1)) := by
  have kb := can_sub hq.1 hp.1
  have nb := NZ_sub2 hq.1 hp.1 h1
  have kh := can_sub hq.2 hp.2
  have ki : Can (NM.inv (flip m (sub q.1 p.1))) := can_inv (NZ_flip nb)
  have nn : nrm (flip m (sub q.1 p.1)) = (re q.1 - re p.1) * (re q.1 - re p.1) + (im q.1 - im p.1) * (im q.1 - im p.1) := by
    unfold nrm
    rw [re_flip, im_flip, re_sub hq.1 hp.1, im_sub hq.1 hp.1]
    have := sg_sq m
    grind
  have n0 := (nz_iff (can_flip (m := m) kb)).mp (NZ_flip nb)
  rw [nn] at n0
  show re (mul (sub q.2 p.2) (NM.inv (flip m (sub q.1 p.1)))) = _ ∧ im (mul (sub q.2 p.2) (NM.inv (flip m (sub q.1 p.1)))) = _
  rw [re_mul kh ki, im_mul kh ki, re_inv (can_flip kb) (NZ_flip nb), im_inv (can_flip kb) (NZ_flip nb), nn, re_flip, im_flip, re_sub hq.1 hp.1, im_sub hq.1 hp.1, re_sub hq.2 hp.2, im_sub hq.2 hp.2]
  generalize (re q.1 - re p.1) * (re q.1 - re p.1) + (im q.1 - im p.1) * (im q.1 - im p.1) = n at n0 ⊢
  constructor <;> grind
/-- a copy is told by two spots -/
theorem car_unique (hp : okPr 100 p) (hq : okPr 100 q) (h1 : q.1 ≠ p.1) (kc : c.ok) (e1 : c.at p.1 = p.2) (e2 : c.at q.1 = q.2) : q.2 ≠ p.2 ∧ c = carC c.m p q := by
  have cp : Can p.1 ∧ Can p.2 := ⟨hp.1.1, hp.2.1⟩
  have cq : Can q.1 ∧ Can q.2 := ⟨hq.1.1, hq.2.1⟩
  have s := sg_sq c.m
  have f1 : re p.2 = re c.t * re p.1 - im c.t * (sg c.m * im p.1) + re c.s := by rw [← e1, re_at kc cp.1]
  have f2 : im p.2 = re c.t * (sg c.m * im p.1) + im c.t * re p.1 + im c.s := by rw [← e1, im_at kc cp.1]
  have f3 : re q.2 = re c.t * re q.1 - im c.t * (sg c.m * im q.1) + re c.s := by rw [← e2, re_at kc cq.1]
  have f4 : im q.2 = re c.t * (sg c.m * im q.1) + im c.t * re q.1 + im c.s := by rw [← e2, im_at kc cq.1]
  have nb := NZ_sub2 cq.1 cp.1 h1
  have n0 := (nz_iff (can_sub cq.1 cp.1)).mp nb
  unfold nrm at n0
  rw [re_sub cq.1 cp.1, im_sub cq.1 cp.1] at n0
  have d1 : re q.2 - re p.2 = re c.t * (re q.1 - re p.1) - im c.t * (sg c.m * (im q.1 - im p.1)) := by rw [f1, f3]; grind
  have d2 : im q.2 - im p.2 = re c.t * (sg c.m * (im q.1 - im p.1)) + im c.t * (re q.1 - re p.1) := by rw [f2, f4]; grind
  have ne : q.2 ≠ p.2 := fun e => by
    have := Cp.inv_at kc cq.1
    rw [e2, e, ← e1, Cp.inv_at kc cp.1] at this
    exact h1 this.symm
  refine ⟨ne, ?_⟩
  obtain ⟨ok, _, kt⟩ := carC_ok (m := c.m) hp hq h1 ne
  obtain ⟨r1, r2⟩ := re_carT (m := c.m) cp cq h1
  have t1 : re c.t = re (carC c.m p q).t := by
    rw [r1, d1, d2]
    clear f1 f2 f3 f4 d1 d2 r1 r2 e1 e2
    generalize re q.1 - re p.1 = X at *
    generalize im q.1 - im p.1 = Y at *
    generalize hn : X * X + Y * Y = n at *
    generalize sg c.m = g at *
    rw [eq_comm, rdiv_eq n0]
    grind
  have t2 : im c.t = im (carC c.m p q).t := by
    rw [r2, d1, d2]
    clear f1 f2 f3 f4 d1 d2 r1 r2 e1 e2
    generalize re q.1 - re p.1 = X at *
    generalize im q.1 - im p.1 = Y at *
    generalize hn : X * X + Y * Y = n at *
    generalize sg c.m = g at *
    rw [eq_comm, rdiv_eq n0]
    grind
  have et : c.t = (carC c.m p q).t := NM.ext kc.1 ok.1 t1 t2
  have km := can_mul ok.1 (can_flip (m := c.m) cp.1)
  have es : (carC c.m p q).s = sub p.2 (mul (carC c.m p q).t (flip c.m p.1)) := rfl
  refine Cp.ext' et (NM.ext kc.2.2 ok.2.2 ?_ ?_) rfl
  · rw [es, re_sub cp.2 km, re_mul ok.1 (can_flip cp.1), re_flip, im_flip, ← t1, ← t2, f1]
    grind
  · rw [es, im_sub cp.2 km, im_mul ok.1 (can_flip cp.1), re_flip, im_flip, ← t1, ← t2, f2]
    grind
theorem carries_iff : carriesB c ps = true ↔ ∀ x ∈ ps, c.at x.1 = x.2 := by
  unfold carriesB
  rw [List.all_eq_true]
  exact ⟨fun h x hx => of_decide_eq_true (h x hx), fun h x hx => decide_eq_true (h x hx)⟩
theorem carM_mem (hp : ∀ x ∈ ps, okPr 100 x) (mp : p ∈ ps) (mq : q ∈ ps) (h1 : q.1 ≠ p.1) : c ∈ carM ps p q m ↔ c.ok ∧ c.m = m ∧ ∀ x ∈ ps, c.at x.1 = x.2 := by
  unfold carM
  constructor
  · intro h
    split at h
    · cases h
    · rename_i ne
      split at h
      · rename_i w
        rcases List.mem_cons.mp h with rfl | h
        · exact ⟨(carC_ok (hp p mp) (hp q mq) h1 ne).1, rfl, carries_iff.mp w⟩
        · cases h
      · cases h
  · rintro ⟨kc, rfl, ha⟩
    obtain ⟨ne, e⟩ := car_unique (hp p mp) (hp q mq) h1 kc (ha p mp) (ha q mq)
    rw [if_neg ne, ← e, if_pos (carries_iff.mpr ha)]
    exact List.mem_cons_self
theorem carM_len (ps : List (Num × Num)) (p q : Num × Num) (m : Bool) : carM ps p q m = [] ∨ carM ps p q m = [carC m p q] := by
  unfold carM
  split
  · exact .inl rfl
  · split
    · exact .inr rfl
    · exact .inl rfl
theorem carL_eq (ho : othersL ps ≠ []) : ∃ p q, p ∈ ps ∧ q ∈ ps ∧ q.1 ≠ p.1 ∧ (∃ r, ps = p :: r) ∧ (∃ o, othersL ps = q :: o) ∧ carL ps = carM ps p q false ++ carM ps p q true := by
  cases ps with
  | nil => exact absurd rfl ho
  | cons p r =>
    cases e : othersL (p :: r) with
    | nil => exact absurd e ho
    | cons q o =>
      have mq : q ∈ (p :: r).filter fun x => !decide (x.1 = p.1) := by
        have : q ∈ othersL (p :: r) := by rw [e]; exact List.mem_cons_self
        exact this
      obtain ⟨hq, h1⟩ := List.mem_filter.mp mq
      refine ⟨p, q, List.mem_cons_self .., hq, by simpa using h1, ⟨r, rfl⟩, ⟨o, rfl⟩, ?_⟩
      show (match p :: r, othersL (p :: r) with | p' :: _, q' :: _ => carM (p :: r) p' q' false ++ carM (p :: r) p' q' true | _, _ => []) = _
      rw [e]
theorem carL_mem (hp : ∀ x ∈ ps, okPr 100 x) (ho : othersL ps ≠ []) : c ∈ carL ps ↔ c.ok ∧ ∀ x ∈ ps, c.at x.1 = x.2 := by
  obtain ⟨p, q, mp, mq, h1, _, _, e⟩ := carL_eq ho
  rw [e, List.mem_append, carM_mem hp mp mq h1, carM_mem hp mp mq h1]
  constructor
  · rintro (h | h) <;> exact ⟨h.1, h.2.2⟩
  · intro h
    cases hm : c.m
    · exact .inl ⟨h.1, rfl, h.2⟩
    · exact .inr ⟨h.1, rfl, h.2⟩
theorem others_ne : othersL ps ≠ [] ↔ ∃ x ∈ ps, ∃ y ∈ ps, x.1 ≠ y.1 := by
  constructor
  · intro h
    obtain ⟨p, q, mp, mq, h1, _⟩ := carL_eq h
    exact ⟨q, mq, p, mp, h1⟩
  · rintro ⟨x, mx, y, my, ne⟩
    cases ps with
    | nil => cases mx
    | cons p r =>
      intro e
      have all : ∀ z ∈ p :: r, z.1 = p.1 := fun z hz => by
        have := List.filter_eq_nil_iff.mp (show (p :: r).filter (fun w => !decide (w.1 = p.1)) = [] from e) z hz
        simpa using this
      exact ne ((all x mx).trans (all y my).symm)
end
end L3

/-! ## V43 -/
set_option Elab.async false
set_option linter.all false
set_option maxRecDepth 100000
set_option maxHeartbeats 1000000
/-! ahead, lies, covers. -/
namespace L3
open PySem NM L2
theorem seg_ix : ∀ {s : Stk} {a b : Num}, (a, b) ∈ segs s ↔ ∃ i : Nat, s[i]? = some a ∧ s[i + 1]? = some b
  | [], a, b => by simp [segs]
  | [x], a, b => by
    constructor
    · intro h
      cases h
    · rintro ⟨i, h1, h2⟩
      rw [List.getElem?_cons_succ, List.getElem?_nil] at h2
      cases h2
  | x :: y :: r, a, b => by
    show (a, b) ∈ (x, y) :: segs (y :: r) ↔ _
    rw [List.mem_cons, seg_ix]
    constructor
    · rintro (h | ⟨i, h1, h2⟩)
      · injection h with h1 h2
        subst h1 h2
        exact ⟨0, rfl, rfl⟩
      · exact ⟨i + 1, h1, h2⟩
    · rintro ⟨i, h1, h2⟩
      cases i with
      | zero =>
        left
        simp at h1 h2
        rw [h1, h2]
      | succ i => exact .inr ⟨i, h1, h2⟩
/-! ### what it says -/
end L3

/-! ## V44 -/
set_option Elab.async false
set_option linter.all false
set_option maxRecDepth 100000
set_option maxHeartbeats 1000000
/-! crossing. -/
namespace L3
open PySem NM L2
open Ink (Pl Sg Ky Q2)
end L3

/-! ## V45 -/
set_option Elab.async false
set_option linter.all false
set_option maxRecDepth 100000
set_option maxHeartbeats 1000000
/-! What two stretches have in common. -/
namespace L3
open PySem NM L2
open Ink (Pl Sg Ky Q2 qP keyI onK KyOk ltI leI minI maxI)
section
variable {S : Int} (hS : 0 < S) {p q a b : Pl} {k l : Ky} {P : Q2}
theorem ltI_ne {p q : Pl} (h : ltI p q) : p ≠ q := fun e => by
  subst e
  unfold ltI at h
  omega
end
end L3

/-! ## V46 -/
set_option Elab.async false
set_option linter.all false
set_option maxRecDepth 100000
set_option maxHeartbeats 1000000
/-! What two drawings have in common. -/
namespace L3
open PySem NM L2
open Ink (Pl Sg Ky Q2 qP keyI onK KyOk ltI leI minI maxI linesI partsI covI lieI inkLines inkDots)
/-- all stretches with their lines -/
def flatL (X : List (List Pl)) : List (Ky × Sg) := (linesI X).flatMap fun x => x.2.map fun s => (x.1, s)
section
variable {S : Int} (hS : 0 < S) {X Y : List (List Pl)} (hx : ∀ y ∈ partsI X, y.1 ≠ y.2) (hy : ∀ y ∈ partsI Y, y.1 ≠ y.2) {P : Q2}
end
end L3

/-! ## V47 -/
set_option Elab.async false
set_option linter.all false
set_option maxRecDepth 100000
set_option maxHeartbeats 1000000
/-! .. is not too large. -/
namespace L3
open PySem NM L2
open Ink (Pl Sg Ky Q2 qP keyI onK KyOk ltI leI minI maxI linesI partsI covI lieI inkLines inkDots)
section
variable {S : Int} (hS : 0 < S) {X Y : List (List Pl)} {n m e c : Nat}
end
end L3

/-! ## V48 -/
set_option Elab.async false
set_option linter.all false
set_option maxRecDepth 100000
set_option maxHeartbeats 1000000
/-! common: its dots. -/
namespace L3
open PySem NM L2
open Ink (Pl Sg Ky Q2 qP keyI onK KyOk ltI leI minI maxI linesI partsI covI lieI inkLines inkDots)
def ones (Y : List (List Pl)) : List (List Pl) := Y.filter fun s => decide (s.length = 1)
section
variable {Γ : CL} {E : Ed} {μ : MH} {s0 s1 s2 s3 s4 s6 s7 s8 s9 s10 s11 s12 s13 s16 s18 s20 : Option D} {q p1 p2 : Addr} {o1 o2 : Obj} {X Y : List (List Pl)}
end
end L3

/-! ## V49 -/
set_option Elab.async false
set_option linter.all false
set_option maxRecDepth 100000
set_option maxHeartbeats 1000000
/-! common: its loops. -/
namespace L3
open PySem NM L2
open Ink (Pl Sg Ky Q2 qP keyI onK KyOk ltI leI minI maxI linesI partsI covI lieI inkLines inkDots)
section
variable {Γ : CL} {E : Ed} {μ : MH} {s0 s1 s2 s3 s4 s5 s6 s7 s8 s9 s10 s11 s12 s13 s14 s15 s16 s17 s18 s19 s20 : Option D} {q p1 p2 pp : Addr} {o1 o2 : Obj} {X Y : List (List Pl)}
end
end L3

/-! ## V50 -/
set_option Elab.async false
set_option linter.all false
set_option maxRecDepth 100000
set_option maxHeartbeats 1000000
/-! common. -/
namespace L3
open PySem NM L2
open Ink (Pl Sg Ky Q2 qP keyI onK KyOk ltI leI minI maxI linesI partsI covI lieI inkLines inkDots)
section
variable {Γ : CL} {E : Ed} {μ : MH} {s0 s1 s2 s3 s4 s5 s6 s7 s8 s9 s10 s11 s12 s13 s14 s15 s16 s17 s18 s19 s20 : Option D} {q p pp : Addr} {o : Obj} {X : List (List Pl)}
end
section
variable {S : Int} (hS : 0 < S) {N : Int} {n m e c : Nat} {as bs : List Stk}
theorem okC.left (k : okC N n m e c as bs) : okI N as := k.ok.left
theorem okC.right (k : okC N n m e c as bs) : okI N bs := k.ok.right
theorem flat_len (ss : List Stk) : (flatL (plsI S ss)).length ≤ (ss.flatMap segs).length := by
  have h1 : (flatL (plsI S ss)).length = ((linesI (plsI S ss)).map fun x => x.2.length).sum := by
    unfold flatL
    rw [List.length_flatMap]
    congr 1
    exact List.map_congr_left fun x _ => List.length_map ..
  have h2 : (partsI (plsI S ss)).length = (ss.flatMap segs).length := by
    unfold partsI plsI
    rw [List.length_flatMap, List.length_flatMap, List.map_map]
    congr 1
    refine List.map_congr_left fun s _ => ?_
    show (Ink.segsI (s.map (plI S))).length = (segs s).length
    rw [segs_map2, List.length_map]
  rw [h1, ← h2]
  unfold linesI
  rw [List.map_map]
  have ft := fold_tot (partsI (plsI S ss)) []
  have := sum_map_le (fun x : Ky × List Sg => (Ink.joinS x.2).length) (fun x => x.2.length) (Ink.groupI (partsI (plsI S ss))) fun x _ => joinS_len x.2
  show ((Ink.groupI (partsI (plsI S ss))).map fun x => (Ink.joinS x.2).length).sum ≤ _
  have z : totG [] = 0 := rfl
  unfold totG Ink.groupI at *
  omega
end
end L3

/-! ## V51 -/
set_option Elab.async false
set_option linter.all false
set_option maxRecDepth 100000
set_option maxHeartbeats 1000000
/-! common. -/
namespace L3
open PySem NM L2
open Ink (Pl Sg Ky Q2 qP keyI onK KyOk ltI leI minI maxI linesI partsI covI lieI inkLines inkDots)
theorem cut_drop {xs ys : List D} : cutD (xs ++ ys) (some (xs.length : Int)) none = ys := by
  unfold cutD
  rw [HT.sIx_none, HT.sIx_nat, List.length_append, Nat.min_eq_left (by omega), List.drop_left' rfl, List.take_of_length_le (by omega)]
end L3

/-! ## V52 -/
set_option Elab.async false
set_option linter.all false
set_option maxRecDepth 100000
set_option maxHeartbeats 1000000
/-! within. -/
namespace L3
open PySem NM L2
end L3

/-! ## V37 -/
set_option Elab.async false
set_option linter.all false
set_option maxRecDepth 100000
set_option maxHeartbeats 1000000
/-! Random spots, turns, strokes: finer bounds. -/
namespace L3
open PySem NM L2
local macro_rules | `(tactic| walk_at "d") => `(tactic| (try (simp only [rSeq, rAsg, rRet, rRetN, rDrop, rIf, rNext, rPar, rPar3, rCons, rNil, rStar, rCl, rOp, rUn, rVar, rC, rGN, rTup, rLst, rB, rAnd, rOr, rNot, rIfE, rAndV, rOrV, rNotV, rNever, rFld, rOwn, rMeth, rMakeK, rMakeD, rFldS, rFrz, rSetIx, rMut, rILst, rITup, rIRng1, rIRng2, rFor, rLc, rLcM, rTrue, gt, st, gI, gI0, gU, gIx, gEq, gNe, gAdd, gSub, gMul, gDiv, gMod, gPow, gLt, gLe, gGt, gGe, gIsi, gAbs, gLen, gAll, gIsN, gNotN, gOwn1, gOwn2, isNonD, seqD, res, atI_0, atI_1, atI_2, atI_3, atI_4, List.getElem?_cons_zero, List.getElem?_cons_succ, List.length_cons, List.length_nil, decide_eq_true_eq, List.map_cons, List.map_nil, startD, List.cons_append, List.nil_append, List.replicate, Nat.zero_add, numD, if_true, if_false, Bool.false_eq_true, and_self, true_and, ite_true, ite_false, Nat.reduceAdd, Nat.reduceSub, ln, Nat.reduceLeDiff, fin, String.reduceBEq, Bool.not_true, Bool.not_false, pureN, deq_int, deq_tt, deq_t0, deq_bl, List.all_cons, List.all_nil, Bool.and_true, Bool.true_and, Bool.and_eq_true, List.append_nil, lk_turn, lk_shift, lk_mirrored, lk_key, insD, updM_same, updM_updM, Option.map_some, Option.map_none])))
theorem tiny_i1 {x y : Int} (a1 : -6 ≤ x) (a2 : x ≤ 6) (b1 : -6 ≤ y) (b2 : y ≤ 6) : Tiny ⟨x, y, 1⟩ := ⟨⟨can_i1 x y, by unfold Sz Bt; simp only; omega⟩, a1, a2, b1, b2, by show (1 : Int) ≤ 4; decide⟩
theorem abs_le_mul {k z n : Int} (hk : k ≠ 0) (h1 : -n ≤ k * z) (h2 : k * z ≤ n) : -n ≤ z ∧ z ≤ n := by
  have e : (k * z).natAbs ≤ n.natAbs := by omega
  rw [Int.natAbs_mul] at e
  have k1 : 1 ≤ k.natAbs := by omega
  have : 1 * z.natAbs ≤ k.natAbs * z.natAbs := Nat.mul_le_mul_right _ k1
  omega
theorem low_tiny {x y v : Int} (v0 : 0 < v) (v5 : v < 5) (a1 : -6 ≤ x) (a2 : x ≤ 6) (b1 : -6 ≤ y) (b2 : y ≤ 6) : Tiny (low x y v) := by
  have v0' : v ≠ 0 := by omega
  have f1 : Bt 5 x := by unfold Bt; omega
  have f2 : Bt 5 y := by unfold Bt; omega
  have f3 : Bt 5 v := by unfold Bt; omega
  refine ⟨⟨low_can v0', low_sz v0' f1 f2 f3⟩, ?_⟩
  obtain ⟨k, hk, ex, ey, ed, hp, _⟩ := low_spec (x := x) (y := y) v0'
  obtain ⟨x1, x2⟩ := abs_le_mul (n := 6) hk (by omega) (by omega : k * (low x y v).x ≤ 6)
  obtain ⟨y1, y2⟩ := abs_le_mul (n := 6) hk (by omega) (by omega : k * (low x y v).y ≤ 6)
  obtain ⟨d1, d2⟩ := abs_le_mul (n := 4) hk (by omega) (by omega : k * (low x y v).d ≤ 4)
  exact ⟨x1, x2, y1, y2, d2⟩
theorem vc_law_turnT (Γ : CL) : ∀ ds μ R, sp_law_turnT Γ ds μ R → rd_law_turnT Γ (fin R) (startD 2 ds) μ := by
  rintro ds μ R ⟨g, xs, rfl, hm, hx, h⟩
  unfold rd_law_turnT
  walk_at "d"
  refine ⟨g, 13, xs, rfl, by decide, by decide, hm, hx, fun r ys r0 r1 hy => ?_⟩
  have hh : ∀ x y d : Int, Small ⟨x, y, d⟩ → NZ ⟨x, y, d⟩ → growT ⟨x, y, d⟩ → R (.tup [.int x, .int y, .int d]) (updM μ g (.lst ys)) := fun x y d a b e => h _ ys a b e hy
  have : r = 0 ∨ r = 1 ∨ r = 2 ∨ r = 3 ∨ r = 4 ∨ r = 5 ∨ r = 6 ∨ r = 7 ∨ r = 8 ∨ r = 9 ∨ r = 10 ∨ r = 11 ∨ r = 12 := by omega
  rcases this with rfl | rfl | rfl | rfl | rfl | rfl | rfl | rfl | rfl | rfl | rfl | rfl | rfl <;> exact hh _ _ _ (small_i (by decide) (by decide) (by decide) (by decide) (by decide)) (by unfold NZ; decide) (by unfold growT Sz Bt; decide)
theorem vc_law_spotT (Γ : CL) : ∀ ds μ R, sp_law_spotT Γ ds μ R → rd_law_spotT Γ (fin R) (startD 2 ds) μ := by
  rintro ds μ R ⟨g, xs, rfl, hm, hx, h⟩
  unfold rd_law_spotT
  walk_at "d"
  refine ⟨g, 6, xs, rfl, by decide, by decide, hm, hx, fun r ys r0 r1 hy => ?_⟩
  have go : ∀ v : Int, 0 < v → v < 5 → sp_law_below Γ [.ref g, .int 13] (updM μ g (.lst ys)) fun d μ1 => rOp gSub (rCl (fun _ μ R => R d μ) rNil) (rC (.int 6)) [] μ1 fun a μ2 => sp_law_below Γ [.ref g, .int 13] μ2 fun d μ3 => rOp gSub (rCl (fun _ μ R => R d μ) rNil) (rC (.int 6)) [] μ3 fun b μ4 => sp_law_lowest Γ [a, b, .int v] μ4 R := by
    intro v v0 v5
    refine ⟨g, 13, ys, rfl, by decide, by decide, updM_same, hy, fun a ys1 a0 a1 hy1 => ?_⟩
    walk_at "d"
    refine ⟨g, 13, ys1, rfl, by decide, by decide, updM_same, hy1, fun b ys2 b0 b1 hy2 => ?_⟩
    walk_at "d"
    have f1 : Bt 5 (a - 6) := by unfold Bt; omega
    have f2 : Bt 5 (b - 6) := by unfold Bt; omega
    have f3 : Bt 5 v := by unfold Bt; omega
    have v0' : v ≠ 0 := by omega
    refine ⟨v0', f1.mono (by decide), f2.mono (by decide), f3.mono (by decide), ?_⟩
    exact h _ ys2 (low_tiny v0 (by omega) (by omega) (by omega) (by omega) (by omega)) hy2
  have : r = 0 ∨ r = 1 ∨ r = 2 ∨ r = 3 ∨ r = 4 ∨ r = 5 := by omega
  rcases this with rfl | rfl | rfl | rfl | rfl | rfl
  · exact go 1 (by decide) (by decide)
  · exact go 1 (by decide) (by decide)
  · exact go 1 (by decide) (by decide)
  · exact go 2 (by decide) (by decide)
  · exact go 3 (by decide) (by decide)
  · exact go 4 (by decide) (by decide)
end L3

/-! ## V53 -/
set_option Elab.async false
set_option linter.all false
set_option maxRecDepth 100000
set_option maxHeartbeats 1000000
/-! Random strokes are not too large for common. -/
namespace L3
open PySem NM L2
open Ink (Pl Sg Ky Q2 qP keyI onK KyOk ltI leI minI maxI linesI partsI covI lieI inkLines inkDots)
/-- an ink has not more dots and lines than there are strokes and parts -/
theorem ink_len {N : Int} {ss : List Stk} (k : okI N ss) : (inkS ss).lines.length ≤ (ss.flatMap segs).length ∧ (inkS ss).dots.length ≤ ss.length := by
  rw [inkS_of k.okS.ink]
  constructor
  · show ((Ink.inkLines (plsI N ss)).map _).length ≤ _
    rw [List.length_map]
    unfold Ink.inkLines
    rw [List.length_mergeSort]
    have := flat_len (S := N) ss
    unfold flatL at this
    rw [List.length_flatMap] at this ⊢
    simp only [List.length_map] at this
    exact this
  · show ((Ink.inkDots (plsI N ss)).map _).length ≤ _
    rw [List.length_map]
    unfold Ink.inkDots Ink.dotsI
    rw [List.length_mergeSort]
    have go : ∀ (L : List (Ky × List Sg)) (xs : List (List Pl)) (acc : List Pl), (xs.foldl (Ink.putDot L) acc).length ≤ acc.length + xs.length := by
      intro L xs
      induction xs with
      | nil => intro acc; exact Nat.le_refl _
      | cons x xs ih =>
        intro acc
        have h1 := ih (Ink.putDot L acc x)
        have h2 : (Ink.putDot L acc x).length ≤ acc.length + 1 := by
          unfold Ink.putDot
          repeat' split
          all_goals simp
        rw [List.foldl_cons, List.length_cons]
        omega
    have := go (Ink.linesI (plsI N ss)) (plsI N ss) []
    have e : (plsI N ss).length = ss.length := List.length_map ..
    rw [e] at this
    simpa using this
/-- the direction of a line divides each whole vector along it -/
theorem dir_le {p q : Pl} (h : p ≠ q) {A B : Int} (hAB : ¬ (A = 0 ∧ B = 0)) (hc : (q.1 - p.1) * B = (q.2 - p.2) * A) : (keyI p q).1.natAbs ≤ A.natAbs + 1 ∧ (keyI p q).2.1.natAbs ≤ B.natAbs + 1 := by
  obtain ⟨g, hg, e1, e2, ⟨cop, sgn⟩, _⟩ := Ink.key_spec h
  rw [e1, e2] at hc
  generalize (keyI p q).1 = r at *
  generalize (keyI p q).2.1 = u at *
  have hc2 : r * B = u * A := by
    have : g * (r * B) = g * (u * A) := by grind
    exact Int.eq_of_mul_eq_mul_left hg this
  have cop2 : Int.gcd r u = 1 := by
    unfold gz at cop
    omega
  have hr : r ∣ A := by
    have hn : r.natAbs ∣ u.natAbs * A.natAbs := by
      rw [← Int.natAbs_mul, ← hc2, Int.natAbs_mul]
      exact ⟨B.natAbs, rfl⟩
    have cn : Nat.Coprime r.natAbs u.natAbs := cop2
    exact Int.natAbs_dvd_natAbs.mp (Nat.Coprime.dvd_of_dvd_mul_left cn hn)
  obtain ⟨s, hs⟩ := hr
  by_cases r0 : r = 0
  · subst r0
    have : u.natAbs = 1 := by
      have := cop2
      rw [Int.gcd_zero_left] at this
      exact this
    constructor
    · simp
    · omega
  · have hB : B = u * s := by
      rw [hs] at hc2
      have : r * B = r * (u * s) := by grind
      exact Int.eq_of_mul_eq_mul_left r0 this
    have s0 : s ≠ 0 := fun z => hAB ⟨by rw [hs, z, Int.mul_zero], by rw [hB, z, Int.mul_zero]⟩
    have s1 : 1 ≤ s.natAbs := by omega
    rw [hs, hB, Int.natAbs_mul, Int.natAbs_mul]
    have n1 : r.natAbs * 1 ≤ r.natAbs * s.natAbs := Nat.mul_le_mul_left _ s1
    have n2 : u.natAbs * 1 ≤ u.natAbs * s.natAbs := Nat.mul_le_mul_left _ s1
    constructor <;> omega
theorem tiny_12 {z : Num} (t : Tiny z) : z.d ∣ 12 := by
  have p := t.1.1.1
  have q := t.2.2.2.2.2
  have : z.d = 1 ∨ z.d = 2 ∨ z.d = 3 ∨ z.d = 4 := by omega
  rcases this with e | e | e | e <;> rw [e] <;> decide
theorem okI_tiny {ss : List Stk} (hl : ss.length ≤ 500) (h : ∀ s ∈ ss, okTn s) : okI 12 ss := ⟨by decide, Bt.mono (n := 4) (by show (12 : Int).natAbs < 2 ^ 4; decide) (by decide), hl, fun s hs => ⟨(h s hs).1.1, by have := (h s hs).1.2.1; omega, (h s hs).1.2.2.1⟩, fun s hs z hz => ⟨((h s hs).2 z hz).1.1, ((h s hs).2 z hz).1.2.mono (by decide), tiny_12 ((h s hs).2 z hz)⟩⟩
/-- at most three parts each -/
theorem parts_3 : ∀ {ss : List Stk}, (∀ s ∈ ss, okTn s) → (ss.flatMap segs).length ≤ 3 * ss.length
  | [], _ => Nat.le_refl _
  | s :: ss, h => by
    have ih := parts_3 fun t ht => h t (List.mem_cons_of_mem _ ht)
    have := (h s (List.mem_cons_self ..)).1.2.1
    rw [List.flatMap_cons, List.length_append, List.length_cons, segs_len]
    omega
end L3

/-! ## V12 -/
set_option Elab.async false
set_option linter.all false
set_option maxRecDepth 100000
set_option maxHeartbeats 1000000
/-! Codes. -/
namespace L3
open PySem NM L2
/-! ### digits -/
/-! ### sums -/
end L3

/-! ## V13 -/
set_option Elab.async false
set_option linter.all false
set_option maxRecDepth 100000
set_option maxHeartbeats 1000000
/-! Codes written and read. -/
namespace L3
open PySem NM L2
/-! ### the law's code -/
structure Acc (μ0 μ : MH) (p : Addr) (pre : List Int) : Prop where
  ext : Ext μ0 μ
  new : μ0 p = none
  at_ : μ p = some (.lst (intsD pre))
theorem Ext.fresh {μ μ1 : MH} {p : Addr} (h : Ext μ μ1) (hp : μ1 p = none) : μ p = none := by
  cases q : μ p with
  | none => rfl
  | some m => rw [h p m q] at hp; cases hp
theorem Acc.put {μ0 μ : MH} {p : Addr} {pre : List Int} (a : Acc μ0 μ p pre) (l : List Int) : Acc μ0 (updM μ p (.lst (intsD l))) p l := ⟨a.ext.upd a.new, a.new, updM_same⟩
theorem Acc.take {μ0 μ : MH} {p q : Addr} {pre : List Int} (a : Acc μ0 μ p pre) (hq : μ q = none) (l : List Int) : Acc μ0 (updM μ q (.lst (intsD l))) q l := ⟨a.ext.upd (a.ext.fresh hq), a.ext.fresh hq, updM_same⟩
end L3

/-! ## V14 -/
set_option Elab.async false
set_option linter.all false
set_option maxRecDepth 100000
set_option maxHeartbeats 1000000
/-! Codes read. -/
namespace L3
open PySem NM L2
theorem insD_at {μ : MH} {a C : Addr} {fs : List (Str × D)} (h : μ a = some (.ins C fs)) : insD μ (.ref a) = some (C, fs) := by
  unfold insD
  simp only [h]
end L3

/-! ## V15 -/
set_option Elab.async false
set_option linter.all false
set_option maxRecDepth 100000
set_option maxHeartbeats 1000000
/-! Codes read: whole. -/
namespace L3
open PySem NM L2
/-- the reader at x, the strokes at y, both new -/
structure Rd (Γ : CL) (μ0 μ : MH) (x y : Addr) (l : List Int) (k : Nat) (done : List Stk) : Prop where
  ext : Ext μ0 μ
  nx : μ0 x = none
  ny : μ0 y = none
  ne : x ≠ y
  rx : μ x = some (rdO Γ l k)
  ry : μ y = some (.lst (done.map strD))
theorem Rd.go {Γ : CL} {μ0 μ : MH} {x y : Addr} {l : List Int} {k : Nat} {done : List Stk} (r : Rd Γ μ0 μ x y l k done) (j : Nat) : Rd Γ μ0 (updM μ x (rdO Γ l j)) x y l j done :=
  ⟨r.ext.upd r.nx, r.nx, r.ny, r.ne, updM_same, by rw [updM_ne r.ne.symm]; exact r.ry⟩
theorem Rd.put {Γ : CL} {μ0 μ : MH} {x y : Addr} {l : List Int} {k : Nat} {done : List Stk} (r : Rd Γ μ0 μ x y l k done) (more : List Stk) : Rd Γ μ0 (updM μ y (.lst (more.map strD))) x y l k more :=
  ⟨r.ext.upd r.ny, r.nx, r.ny, r.ne, by rw [updM_ne r.ne]; exact r.rx, updM_same⟩
theorem Rd.ins {Γ : CL} {μ0 μ : MH} {x y : Addr} {l : List Int} {k : Nat} {done : List Stk} (r : Rd Γ μ0 μ x y l k done) : insD μ (.ref x) = some (Γ.Reader, rdFs l k) := insD_at r.rx
end L3

/-! ## V16 -/
set_option Elab.async false
set_option linter.all false
set_option maxRecDepth 100000
set_option maxHeartbeats 1000000
/-! Rules about drawings and codes for the laws. -/
namespace L3
open PySem NM L2
section
variable {Γ : CL} {μ : MH} {Q : D → MH → Prop} {as bs ss : List Stk}
end
/-! ### a code tells its drawing -/
end L3

/-! ## V54 -/
set_option Elab.async false
set_option linter.all false
set_option maxRecDepth 100000
set_option maxHeartbeats 1000000
/-! Inks told as strokes; drawings whose lines go in small directions. -/
namespace L3
open PySem NM L2
open Ink (Pl Sg Ky Q2 qP keyI)
/-- an ink as strokes -/
def toldS (I : Inkd) : List Stk := I.lines.map (fun l => [l.1, l.2]) ++ I.dots.map fun z => [z]
theorem told_len (I : Inkd) : (toldS I).length = I.lines.length + I.dots.length := by
  unfold toldS
  rw [List.length_append, List.length_map, List.length_map]
theorem told_mem {I : Inkd} {s : Stk} (h : s ∈ toldS I) : (∃ l ∈ I.lines, s = [l.1, l.2]) ∨ ∃ z ∈ I.dots, s = [z] := by
  rcases List.mem_append.mp h with h | h
  · obtain ⟨l, hl, rfl⟩ := List.mem_map.mp h
    exact .inl ⟨l, hl, rfl⟩
  · obtain ⟨z, hz, rfl⟩ := List.mem_map.mp h
    exact .inr ⟨z, hz, rfl⟩
theorem told_cov {C : Q2 → Prop} {I : Inkd} (h : IsInk C I) (p : Q2) : covS (toldS I) p ↔ C p := by
  rw [← h.cov p]
  constructor
  · rintro ⟨s, hs, q⟩
    rcases told_mem hs with ⟨l, hl, rfl⟩ | ⟨z, hz, rfl⟩
    · rcases q with ⟨z, e, _⟩ | ⟨y, hy, q⟩
      · cases e
      · have : y = (l.1, l.2) := by simpa [segs] using hy
        subst this
        have m : numL l ∈ I.lines.map numL := List.mem_map.mpr ⟨l, hl, rfl⟩
        have lt := h.nf.asc _ m
        refine .inr ⟨numL l, m, q.1, ?_⟩
        rcases q.2 with w | w
        · exact w
        · exfalso
          exact Ink.lt_irrefl (Ink.lt_le lt (Ink.le_trans w.1 w.2))
    · rcases q with ⟨w, e, rfl⟩ | ⟨y, hy, q⟩
      · cases e
        exact .inl (List.mem_map.mpr ⟨z, hz, rfl⟩)
      · cases hy
  · rintro (m | ⟨l, m, q⟩)
    · obtain ⟨z, hz, rfl⟩ := List.mem_map.mp m
      exact ⟨[z], List.mem_append_right _ (List.mem_map.mpr ⟨z, hz, rfl⟩), .inl ⟨z, rfl, rfl⟩⟩
    · obtain ⟨l, hl, rfl⟩ := List.mem_map.mp m
      exact ⟨[l.1, l.2], List.mem_append_left _ (List.mem_map.mpr ⟨l, hl, rfl⟩), .inr ⟨(l.1, l.2), by simp [segs], q.1, .inl q.2⟩⟩
theorem told_moves {C : Q2 → Prop} {I : Inkd} (h : IsInk C I) {s : Stk} (hs : s ∈ toldS I) : 1 ≤ s.length ∧ s.length ≤ 2 ∧ moves s ∧ ∀ z ∈ s, Can z := by
  rcases told_mem hs with ⟨l, hl, rfl⟩ | ⟨z, hz, rfl⟩
  · have lt := h.nf.asc _ (List.mem_map.mpr ⟨l, hl, rfl⟩)
    refine ⟨by simp, by simp, ⟨fun e => ?_, trivial⟩, fun z hz => ?_⟩
    · have : (numL l).1 = (numL l).2 := by
        show numQ l.1 = numQ l.2
        rw [e]
      exact Ink.lt_ne lt this
    · rcases List.mem_cons.mp hz with rfl | hz
      · exact (h.cl l hl).1
      · rcases List.mem_cons.mp hz with rfl | hz
        · exact (h.cl l hl).2
        · cases hz
  · refine ⟨by simp, by simp, trivial, fun w hw => ?_⟩
    rcases List.mem_cons.mp hw with rfl | hw
    · exact h.cd w hz
    · cases hw
/-- the direction from one spot to another is small -/
def dirB (e : Nat) (z w : Num) : Prop := ∃ A B : Int, ¬ (A = 0 ∧ B = 0) ∧ A.natAbs + 1 < 2 ^ e ∧ B.natAbs + 1 < 2 ^ e ∧ (re w - re z) * (B : Rat) = (im w - im z) * (A : Rat)
theorem plI_re {S : Int} (hS : 0 < S) {z : Num} (kz : Can z) (dz : z.d ∣ S) : ((plI S z).1 : Rat) = re z * (S : Rat) ∧ ((plI S z).2 : Rat) = im z * (S : Rat) := by
  have e := plI_q hS kz dz
  have n2 : (S : Rat) ≠ 0 := cast_ne (by omega)
  have e1 : ((plI S z).1 : Rat) / (S : Rat) = re z := congrArg Prod.fst e
  have e2 : ((plI S z).2 : Rat) / (S : Rat) = im z := congrArg Prod.snd e
  rw [← e1, ← e2]
  exact ⟨(Rat.div_mul_cancel n2).symm, (Rat.div_mul_cancel n2).symm⟩
theorem dir_key {e : Nat} {S : Int} (hS : 0 < S) {z w : Num} (kz : Can z) (kw : Can w) (dz : z.d ∣ S) (dw : w.d ∣ S) (ne : z ≠ w) (h : dirB e z w) : Bt e (keyI (plI S z) (plI S w)).1 ∧ Bt e (keyI (plI S z) (plI S w)).2.1 := by
  obtain ⟨A, B, hAB, bA, bB, hc⟩ := h
  have pne : plI S z ≠ plI S w := fun e => ne (by
    have e2 := congrArg (qP S) e
    rw [plI_q hS kz dz, plI_q hS kw dw] at e2
    exact numQ_inj kz kw e2)
  obtain ⟨z1, z2⟩ := plI_re hS kz dz
  obtain ⟨w1, w2⟩ := plI_re hS kw dw
  have hI : ((plI S w).1 - (plI S z).1) * B = ((plI S w).2 - (plI S z).2) * A := by
    have : ((((plI S w).1 - (plI S z).1) * B : Int) : Rat) = ((((plI S w).2 - (plI S z).2) * A : Int) : Rat) := by
      rw [Rat.intCast_mul, Rat.intCast_mul, Rat.intCast_sub, Rat.intCast_sub, z1, z2, w1, w2]
      grind
    exact_mod_cast this
  obtain ⟨h1, h2⟩ := dir_le pne hAB hI
  unfold Bt
  constructor <;> omega
theorem dir_tiny {z w : Num} (tz : Tiny z) (tw : Tiny w) (ne : z ≠ w) : dirB 6 z w := by
  have d1 := rat_d tz.1.1
  have d2 := rat_d tw.1.1
  have le : ∀ x u d c : Int, -6 ≤ x → x ≤ 6 → -6 ≤ u → u ≤ 6 → 0 < d → d ≤ 4 → 0 < c → c ≤ 4 → (u * d - x * c).natAbs ≤ 48 := fun x u d c x1 x2 u1 u2 d1 d2 c1 c2 => by
    have m1 : (u * d).natAbs ≤ 6 * 4 := by
      rw [Int.natAbs_mul]
      exact Nat.mul_le_mul (by omega) (by omega)
    have m2 : (x * c).natAbs ≤ 6 * 4 := by
      rw [Int.natAbs_mul]
      exact Nat.mul_le_mul (by omega) (by omega)
    omega
  refine ⟨w.x * z.d - z.x * w.d, w.y * z.d - z.y * w.d, fun ⟨h1, h2⟩ => ne ?_, ?_, ?_, ?_⟩
  · refine NM.ext tz.1.1 tw.1.1 ?_ ?_
    · have : ((w.x : Rat)) * (z.d : Rat) = (z.x : Rat) * (w.d : Rat) := by
        have h : w.x * z.d = z.x * w.d := by omega
        exact_mod_cast h
      unfold re
      grind
    · have : ((w.y : Rat)) * (z.d : Rat) = (z.y : Rat) * (w.d : Rat) := by
        have h : w.y * z.d = z.y * w.d := by omega
        exact_mod_cast h
      unfold im
      grind
  · have := le z.x w.x z.d w.d tz.2.1 tz.2.2.1 tw.2.1 tw.2.2.1 tz.1.1.1 tz.2.2.2.2.2 tw.1.1.1 tw.2.2.2.2.2
    omega
  · have := le z.y w.y z.d w.d tz.2.2.2.1 tz.2.2.2.2.1 tw.2.2.2.1 tw.2.2.2.2.1 tz.1.1.1 tz.2.2.2.2.2 tw.1.1.1 tw.2.2.2.2.2
    omega
  · rw [Rat.intCast_sub, Rat.intCast_sub, Rat.intCast_mul, Rat.intCast_mul, Rat.intCast_mul, Rat.intCast_mul]
    unfold re im
    grind
theorem plI_sz {n p : Nat} {N S : Int} (hN : 0 < N) (bn : Bt n N) (hS : 0 < S) (dS : S ∣ N) {z : Num} (kz : Can z) (sz : Sz p z) (dz : z.d ∣ S) : BtP (p + n) (plI S z) := by
  obtain ⟨k, hk⟩ := dz
  have e : S.fdiv z.d = k := by rw [hk]; exact fdiv_mul' (ne_d kz)
  have d0 := kz.1
  have k0 : 0 < k := Int.pos_of_mul_pos_right (by rw [← hk]; exact hS) d0
  have kS : k ≤ S := by
    have : 1 * k ≤ z.d * k := Int.mul_le_mul_of_nonneg_right (by omega) (by omega)
    omega
  have SN := Int.le_of_dvd hN dS
  have bk : Bt n k := by
    unfold Bt at *
    omega
  unfold plI
  rw [e]
  exact ⟨sz.1.mul bk, sz.2.1.mul bk⟩
/-- two drawings of small directions are not too large -/
theorem okC_gen {N : Int} {n p e c : Nat} {as bs : List Stk} (k : okI N (as ++ bs)) (bn : Bt n N) (hp : ∀ s ∈ as ++ bs, ∀ z ∈ s, Sz p z) (hd : ∀ s ∈ as ++ bs, ∀ y ∈ segs s, dirB e y.1 y.2) (la : as.length ≤ 12) (lb : bs.length ≤ 12) (cn : (inkS as).lines.length * (inkS bs).lines.length ≤ c) (le : as.length + bs.length + c ≤ 500)
    (h0 : p + n + 2 * e + 2 ≤ 1500) (h3 : n + (1 + (2 * e + 1) * c) ≤ 6000) : okC N n (p + n) e c as bs := by
  refine ⟨k, la, lb, bn, fun S dS kS s hs z hz => ?_, fun S dS kS s hs y hy => ?_, cn, le, by omega, by omega, by omega, by omega, by omega, h3⟩
  · exact plI_sz k.pos bn kS.pos dS (kS.can s hs z hz).1 (hp s hs z hz) (kS.can s hs z hz).2
  · obtain ⟨m1, m2⟩ := segs_mem2 hy
    exact dir_key kS.pos (kS.can s hs _ m1).1 (kS.can s hs _ m2).1 (kS.can s hs _ m1).2 (kS.can s hs _ m2).2 (segs_ne2 (kS.mv s hs) hy) (hd s hs y hy)
/-- a told drawing: its dots are of p bits, its lines end in tiny spots -/
structure okTl (p : Nat) (ss : List Stk) : Prop where
  st : ∀ s ∈ ss, 1 ≤ s.length ∧ s.length ≤ 2 ∧ moves s
  can : ∀ s ∈ ss, ∀ z ∈ s, Can z ∧ Sz p z
  en : ∀ s ∈ ss, s.length = 2 → ∀ z ∈ s, Tiny z
/-- a tiny stroke, or one of a told drawing -/
def okMx (p : Nat) (s : Stk) : Prop := okTn s ∨ (1 ≤ s.length ∧ s.length ≤ 2 ∧ moves s ∧ (∀ z ∈ s, Can z ∧ Sz p z) ∧ (s.length = 2 → ∀ z ∈ s, Tiny z))
theorem Tiny.sz {z : Num} (t : Tiny z) : Sz 3 z := by
  have d0 := t.1.1.1
  obtain ⟨_, a, b, c, d, e⟩ := t
  unfold Sz Bt
  omega
theorem okTl.mx {p : Nat} {ss : List Stk} (h : okTl p ss) : ∀ s ∈ ss, okMx p s := fun s hs => .inr ⟨(h.st s hs).1, (h.st s hs).2.1, (h.st s hs).2.2, h.can s hs, h.en s hs⟩
theorem okMx.st {p : Nat} {s : Stk} (h : okMx p s) (p3 : 3 ≤ p) : 1 ≤ s.length ∧ s.length ≤ 4 ∧ moves s ∧ ∀ z ∈ s, Can z ∧ Sz p z := by
  rcases h with h | ⟨a, b, c, d, _⟩
  · exact ⟨h.1.1, h.1.2.1, h.1.2.2.1, fun z hz => ⟨(h.2 z hz).1.1, (h.2 z hz).sz.mono p3⟩⟩
  · exact ⟨a, by omega, c, d⟩
theorem okMx.dir {p : Nat} {s : Stk} (h : okMx p s) {y : Num × Num} (hy : y ∈ segs s) : Tiny y.1 ∧ Tiny y.2 ∧ y.1 ≠ y.2 := by
  obtain ⟨m1, m2⟩ := segs_mem2 hy
  rcases h with h | ⟨a, b, c, d, e⟩
  · exact ⟨h.2 _ m1, h.2 _ m2, segs_ne2 h.1.2.2.1 hy⟩
  · have l2 : s.length = 2 := by
      cases s with
      | nil => cases hy
      | cons u r => cases r with
        | nil => cases hy
        | cons v r => simp only [List.length_cons] at b ⊢; omega
    exact ⟨e l2 _ m1, e l2 _ m2, segs_ne2 c hy⟩
theorem one_sum : ∀ (ss : List Stk), ((ss.filter fun s => s.length == 1).map List.length).sum ≤ ss.length
  | [] => Nat.le_refl _
  | s :: ss => by
    have ih := one_sum ss
    by_cases h : (s.length == 1) = true
    · rw [List.filter_cons_of_pos (p := fun s : Stk => s.length == 1) h, List.map_cons, List.sum_cons, List.length_cons]
      have : s.length = 1 := by simpa using h
      omega
    · rw [List.filter_cons_of_neg (p := fun s : Stk => s.length == 1) h, List.length_cons]
      omega
theorem okI_mix {p : Nat} {ss : List Stk} (h : ∀ s ∈ ss, okMx p s) (p3 : 3 ≤ p) (hl : ss.length ≤ 24) (h0 : p * 24 ≤ 1400) : ∃ N, okI N ss ∧ Bt (4 + p * 24) N := by
  obtain ⟨p1, p2, p3', p4⟩ := prod_all (ss.filter fun s => s.length == 1) 12 4 (by decide) (by show (12 : Int).natAbs < 2 ^ 4; decide) p fun s hs z hz => by
    obtain ⟨m, _⟩ := List.mem_filter.mp hs
    have := ((h s m).st p3).2.2.2 z hz
    exact ⟨this.1, this.2.2.2⟩
  have sm := one_sum ss
  have mm : p * ((ss.filter fun s => s.length == 1).map List.length).sum ≤ p * 24 := Nat.mul_le_mul_left _ (by omega)
  generalize (ss.filter fun s => s.length == 1).foldl (fun a s => s.foldl (fun b z => b * z.d) a) 12 = N at *
  refine ⟨N, ⟨p1, p2.mono (by omega), by omega, fun s hs => ?_, fun s hs z hz => ?_⟩, p2.mono (by omega)⟩
  · obtain ⟨a, b, c, _⟩ := (h s hs).st p3
    exact ⟨a, by omega, c⟩
  · obtain ⟨_, _, _, d⟩ := (h s hs).st p3
    refine ⟨(d z hz).1, (d z hz).2.mono (by omega), ?_⟩
    rcases h s hs with k | ⟨a, b, c, _, e⟩
    · exact Int.dvd_trans (tiny_12 (k.2 z hz)) p3'
    · by_cases l2 : s.length = 2
      · exact Int.dvd_trans (tiny_12 (e l2 z hz)) p3'
      · exact p4 s (List.mem_filter.mpr ⟨hs, by rw [beq_iff_eq]; omega⟩) z hz
theorem okMx.dr {p : Nat} {ss : List Stk} (h : ∀ s ∈ ss, okMx p s) (p3 : 3 ≤ p) (hl : ss.length ≤ 12) : okDr p ss := ⟨hl, fun s hs => ⟨((h s hs).st p3).1, by have := ((h s hs).st p3).2.1; omega, ((h s hs).st p3).2.2.1, ((h s hs).st p3).2.2.2⟩⟩
theorem okMx.tn {p : Nat} {ss : List Stk} (h : ∀ s ∈ ss, okTn s) : ∀ s ∈ ss, okMx p s := fun s hs => .inl (h s hs)
end L3

/-! ## V55 -/
set_option Elab.async false
set_option linter.all false
set_option maxRecDepth 100000
set_option maxHeartbeats 1000000
/-! Rules for laws about what is covered. -/
namespace L3
open PySem NM L2
open Ink (Pl Sg Ky Q2 qP keyI)
theorem okq_ink {I : Inkd} (h1 : I.lines.length ≤ 10000) (h2 : I.dots.length ≤ 10000) : okq 4 (inkD I) = true := by
  show (decide (2 ≤ 1000000) && ((decide ((I.dots.map numD).length ≤ 1000000) && (I.dots.map numD).all (okq 2)) && ((decide ((I.lines.map pairD).length ≤ 1000000) && (I.lines.map pairD).all (okq 2)) && true))) = true
  have a1 : (I.dots.map numD).all (okq 2) = true := by
    rw [List.all_eq_true]
    intro d hd
    obtain ⟨z, _, rfl⟩ := List.mem_map.mp hd
    rfl
  have a2 : (I.lines.map pairD).all (okq 2) = true := by
    rw [List.all_eq_true]
    intro d hd
    obtain ⟨z, _, rfl⟩ := List.mem_map.mp hd
    rfl
  rw [a1, a2, List.length_map, List.length_map, decide_eq_true (show I.dots.length ≤ 1000000 by omega), decide_eq_true (show I.lines.length ≤ 1000000 by omega)]
  rfl
section
variable {Γ : CL} {μ : MH} {Q : D → MH → Prop} {as bs : List Stk} {N M : Int} {n m e c : Nat}
theorem okL3_tl {p : Nat} (h : okTl p as) (hl : as.length ≤ 1000) (hp : p ≤ 300) : okL3 as := ⟨hl, fun s hs => ⟨(h.st s hs).1, by have := (h.st s hs).2.1; omega, fun z hz => ⟨(h.can s hs z hz).1, (h.can s hs z hz).2.mono hp⟩⟩⟩
theorem okI_tl {p : Nat} {ss : List Stk} (h : okTl p ss) (p3 : 3 ≤ p) (pp : p ≤ 56) (hl : ss.length ≤ 24) : ∃ N, okI N ss := by
  obtain ⟨N, k, _⟩ := okI_mix h.mx p3 hl (by omega)
  exact ⟨N, k⟩
end
end L3

/-! ## V58 -/
set_option Elab.async false
set_option linter.all false
set_option maxRecDepth 100000
set_option maxHeartbeats 1000000
/-! Spots by their places, measures. -/
namespace L3
open PySem NM L2
open Ink (Pl Q2 qP)
/-! ### least and greatest -/
end L3

/-! ## V65 -/
set_option Elab.async false
set_option linter.all false
set_option maxRecDepth 100000
set_option maxHeartbeats 1000000
/-! Corners: the dict of spots, in order. -/
namespace L3
open PySem PySem.Spec PySem.Calls PyProof.Rows L2 NM
theorem ins_len (l : List Num) (z : Num) : (insL l z).length ≤ l.length + 1 := by
  unfold insL
  split
  · omega
  · rw [List.length_append]; simp
theorem nub_len : ∀ (l acc : List Num), (l.foldl insL acc).length ≤ acc.length + l.length
  | [], acc => Nat.le_refl _
  | z :: l, acc => by
    have h1 := nub_len l (insL acc z)
    have h2 := ins_len acc z
    rw [List.foldl_cons, List.length_cons]
    omega
theorem corn_len : ∀ (l : List (Num × Num)) (acc : List Num), (l.foldl (fun l y => insL (insL l y.1) y.2) acc).length ≤ acc.length + 2 * l.length
  | [], acc => Nat.le_refl _
  | y :: l, acc => by
    have h1 := corn_len l (insL (insL acc y.1) y.2)
    have h2 := ins_len acc y.1
    have h3 := ins_len (insL acc y.1) y.2
    rw [List.foldl_cons, List.length_cons]
    omega
end L3

/-! ## V66 -/
set_option Elab.async false
set_option linter.all false
set_option maxRecDepth 100000
set_option maxHeartbeats 1000000
/-! Copies in order. -/
namespace L3
open PySem PySem.Spec PySem.Calls PyProof.Rows L2 NM
theorem mem_ins {l : List Num} {z w : Num} : w ∈ insL l z ↔ w ∈ l ∨ w = z := by
  unfold insL
  by_cases h : z ∈ l
  · rw [if_pos h]
    exact ⟨.inl, fun q => q.elim _root_.id fun e => e ▸ h⟩
  · rw [if_neg h, List.mem_append, List.mem_singleton]
theorem mem_nubF {w : Num} : ∀ (l acc : List Num), w ∈ l.foldl insL acc ↔ w ∈ acc ∨ w ∈ l
  | [], acc => by simp
  | z :: l, acc => by
    rw [List.foldl_cons, mem_nubF l, mem_ins, List.mem_cons, or_assoc]
theorem mem_nub {w : Num} {l : List Num} : w ∈ nubL l ↔ w ∈ l := by
  unfold nubL
  rw [mem_nubF]
  simp
structure okOd (N : Int) (cs : List Cp) : Prop where
  p0 : 0 < N
  bN : Bt 6000 N
  ln : cs.length ≤ 1000
  ok : ∀ c ∈ cs, (Can c.t ∧ Sz 1500 c.t ∧ c.t.d ∣ N) ∧ Can c.s ∧ Sz 1500 c.s ∧ c.s.d ∣ N
theorem asc_mem {zs : List Num} {z : Num} : z ∈ ascL zs ↔ z ∈ zs := (List.mergeSort_perm zs leN).mem_iff
theorem asc_len (zs : List Num) : (ascL zs).length = zs.length := (List.mergeSort_perm zs leN).length_eq
theorem nub_le (l : List Num) : (nubL l).length ≤ l.length := by
  have := nub_len l []
  rw [List.length_nil] at this
  unfold nubL
  omega
section
variable {Γ : CL} {E : Ed} {p : Addr} {μ0 : MH} {cs : List Cp} {m : Bool} {N : Int} {s0 s2 : Option D}
theorem okOd.filter (k : okOd N cs) (m : Bool) : okOd N (cs.filter fun c => c.m == m) :=
  ⟨k.p0, k.bN, Nat.le_trans (List.length_filter_le ..) k.ln, fun c hc => k.ok c (List.mem_filter.mp hc).1⟩
end
end L3

/-! ## SP17 -/
set_option Elab.async false
set_option linter.all false
set_option maxRecDepth 100000
set_option maxHeartbeats 1000000
/-! Ways from one drawing to another. -/
namespace L3
open PySem PySem.Spec PySem.Calls PyProof.Rows L2 NM
def okCo (I : Inkd) : Prop := ∃ N : Int, 0 < N ∧ Bt 6000 N ∧ I.dots.length + 2 * I.lines.length ≤ 100000 ∧ ∀ z ∈ cornK I, Can z ∧ Sz 1500 z ∧ z.d ∣ N
def hdN (H : List Num) : Num := H.headD zero
def sdN (H : List Num) : Num := H.tail.headD zero
open Classical in
/-- the copies that take h and k to f and s, and one drawing to the other -/
noncomputable def carW (ss ts : List Stk) (h k f s : Num) : List Cp := (carL [(h, f), (k, s)]).filter fun c => decide (inkS (movedBy c ss) = inkS ts)
noncomputable def foundS (ss ts : List Stk) (h k : Num) (T : List Num) (f : Num) : List Cp := T.flatMap fun s => if f = s then [] else carW ss ts h k f s
noncomputable def foundC (ss ts : List Stk) : List Cp := (cornS (inkS ts)).flatMap (foundS ss ts (hdN (cornS (inkS ss))) (sdN (cornS (inkS ss))) (cornS (inkS ts)))
structure okW (ss ts : List Stk) : Prop where
  ne : hdN (cornS (inkS ss)) ≠ sdN (cornS (inkS ss))
  kh : (Can (hdN (cornS (inkS ss))) ∧ Sz 100 (hdN (cornS (inkS ss)))) ∧ Can (sdN (cornS (inkS ss))) ∧ Sz 100 (sdN (cornS (inkS ss)))
  kt : ∀ f ∈ cornS (inkS ts), Can f ∧ Sz 100 f
  kc : ∀ f ∈ cornS (inkS ts), ∀ s ∈ cornS (inkS ts), f ≠ s → ∀ c ∈ carL [(hdN (cornS (inkS ss)), f), (sdN (cornS (inkS ss)), s)], c.ok ∧ c.sz quart ∧ ∃ N, okI N (movedBy c ss)
  od : ∃ N, okOd N (foundC ss ts)
end L3

/-! ## RB17 -/
set_option Elab.async false
set_option linter.all false
set_option maxRecDepth 100000
set_option maxHeartbeats 4000000
namespace L3
open PySem NM L2
end L3

/-! ## SP18 -/
set_option Elab.async false
set_option linter.all false
set_option maxRecDepth 100000
set_option maxHeartbeats 1000000
/-! What copies and arms raise. -/
namespace L3
open PySem PySem.Spec PySem.Calls PyProof.Rows L2 NM
end L3

/-! ## L9b -/
set_option Elab.async false
set_option linter.all false
set_option maxRecDepth 100000
set_option maxHeartbeats 4000000
/-! Lambdas that are kept in a list: made. -/
namespace L3
open PySem PySem.Spec PySem.Calls PyProof.Rows L2
/-- a known object, never looked into -/
abbrev KU : HO := .ext fun _ => True
/-- a lambda as it is written -/
structure Lm where
  params : Arguments
  body : Expr
  scope : Scope
  pos : Pos
abbrev Lm.ex (L : Lm) : Expr := .Lambda L.params L.body L.scope L.pos
abbrev lmObj (q : Str) (L : Lm) (cl : List (Str × Addr)) (dV doc pm : Value) (c' : Addr) (ctv : Value) : Obj := PySem.W.kdv_obj "<lambda>" q L.params (.expr L.body) L.scope cl dV doc pm c' ctv
/-- the default values: none, or one whole number -/
def Dfo (L : Lm) (H : Hp) (dV : Value) : Prop := (L.params.defaults = [] ∧ dV = .none) ∨ ∃ (t : Addr) (n : Int) (tk : Tok) (j : Nat) (p : Pos), L.params.defaults = [.Constant (.int n) j p] ∧ dV = .ref t ∧ H t = some (.frz (PySem.W.kdv_tup [.int n tk]) KU)
/-- o is the lambda L, made in the context X -/
def LmO (X : Cx) (q : Str) (L : Lm) (o : Obj) (H : Hp) : Prop := ∃ (c' : Addr) (pm ctv dV doc : Value), o = lmObj q L (cloFrom X.env.cells L.scope.names []) dV doc pm c' ctv ∧ H c' = some (LamX.CodeO c' q) ∧ Dfo L H dV
theorem Dfo.ext {L : Lm} {H H' : Hp} {dV : Value} (e : LamX.ExtN H H') (h : Dfo L H dV) : Dfo L H' dV :=
  h.imp (fun z => z) fun ⟨t, n, tk, j, p, a, b, c⟩ => ⟨t, n, tk, j, p, a, b, e _ _ c fun _ z => by cases z⟩
theorem LmO.ext {X : Cx} {q : Str} {L : Lm} {o : Obj} {H H' : Hp} (e : LamX.ExtN H H') (h : LmO X q L o H) : LmO X q L o H' := by
  obtain ⟨c', pm, ctv, dV, doc, a, b, c⟩ := h
  exact ⟨c', pm, ctv, dV, doc, a, e _ _ b LamX.codeO_ne, c.ext e⟩
section
variable {X : Cx} {pins : List (Addr × Obj)} {σ : L2.St} {H : Hp} {s : Shared}
end
/-- what is asked of a lambda's names -/
structure LmS (X : Cx) (L : Lm) : Prop where
  kind : L.scope.kind = .function
  co : L.scope.isCoroutine = false
  gen : L.scope.isGenerator = false
  nc : ∀ y ∈ L.scope.names, y.2 ≠ .cell
  loc : ∀ y ∈ L.scope.names, y.2 = .local → y.1 ∉ X.N
  free : ∀ y ∈ L.scope.names, y.2 = .free → X.env.scope.names.lookup y.1 = some .cell ∨ X.env.scope.names.lookup y.1 = some .free
  kw : L.params.kw_defaults = []
  /-- without a default, or with one number -/
  df : (L.params.defaults = [] ∧ ∀ (q : Str) (cl : List (Str × Addr)) (pm cv ct doc : Value), bindArgs (PySem.W.kdv_fn "<lambda>" q L.params (.expr L.body) L.scope cl .none doc pm cv ct) ⟨[], []⟩ = pure []) ∨
    ∃ (n : Int) (j : Nat) (p : Pos) (a : Str), L.params.defaults = [.Constant (.int n) j p] ∧ L.scope.names.lookup a = some .local ∧
      ∀ (q : Str) (cl : List (Str × Addr)) (pm cv ct doc : Value) (t : Addr), ∃ k : Option (Array Value) → Sem (List (Str × Value)), bindArgs (PySem.W.kdv_fn "<lambda>" q L.params (.expr L.body) L.scope cl (.ref t) doc pm cv ct) ⟨[], []⟩ = (seqItems? (.ref t) >>= k) ∧ ∀ v, k (some #[v]) = pure [(a, v)]
theorem LmS.has {X : Cx} {L : Lm} (S : LmS X L) (ok : X.Ok) : ∀ y ∈ L.scope.names, y.2 = .free → ∃ c, X.env.cells.lookup y.1 = some c := fun y hy e => (S.free y hy e).elim (fun k => ok.has _ (.inl k)) fun k => ok.has _ (.inr k)
section
variable {X : Cx} {L : Lm} {c T : Addr} {q : Str}
end
/-! ### several of them -/
inductive AllL (X : Cx) (q : Str) (H : Hp) : List Lm → List Addr → Prop
  | nil : AllL X q H [] []
  | cons {L : Lm} {ls : List Lm} {f : Addr} {fs : List Addr} {o : Obj} : H f = some (.frz o KU) → LmO X q L o H → AllL X q H ls fs → AllL X q H (L :: ls) (f :: fs)
theorem AllL.ext {X : Cx} {q : Str} {H H' : Hp} (e : LamX.ExtN H H') : ∀ {ls : List Lm} {fs : List Addr}, AllL X q H ls fs → AllL X q H' ls fs
  | _, _, .nil => .nil
  | _, _, .cons a b r => .cons (e _ _ a fun _ z => by cases z) (b.ext e) (r.ext e)
theorem AllL.length {X : Cx} {q : Str} {H : Hp} : ∀ {ls : List Lm} {fs : List Addr}, AllL X q H ls fs → fs.length = ls.length
  | _, _, .nil => rfl
  | _, _, .cons _ _ r => congrArg Nat.succ r.length
theorem AllL.append {X : Cx} {q : Str} {H : Hp} : ∀ {ls ms : List Lm} {fs gs : List Addr}, AllL X q H ls fs → AllL X q H ms gs → AllL X q H (ls ++ ms) (fs ++ gs)
  | _, _, _, _, .nil, r => r
  | _, _, _, _, .cons a b t, r => .cons a b (t.append r)
theorem AllL.get {X : Cx} {q : Str} {H : Hp} : ∀ {ls : List Lm} {fs : List Addr} {j : Nat} {L : Lm}, AllL X q H ls fs → ls[j]? = some L → ∃ f o, fs[j]? = some f ∧ H f = some (.frz o KU) ∧ LmO X q L o H
  | _, _, _, _, .nil, e => by simp at e
  | _, _, 0, _, .cons a b _, e => by
    simp at e; subst e; exact ⟨_, _, rfl, a, b⟩
  | _, _, j + 1, L, .cons _ _ r, e => by
    obtain ⟨f, o, h1, h2, h3⟩ := r.get (j := j) (L := L) (by simpa using e)
    exact ⟨f, o, by simpa using h1, h2, h3⟩
end L3

/-! ## L9c -/
set_option Elab.async false
set_option linter.all false
set_option maxRecDepth 100000
set_option maxHeartbeats 4000000
/-! Lambdas that are kept in a list: called, from however deep. -/
namespace L3
open PySem PySem.Spec PySem.Calls PyProof.Rows L2
/-! ### a wider ground: all that is not tracked and is no frame -/
section
variable {X : Cx} {pins : List (Addr × Obj)} {σ : L2.St} {H : Hp} {s : Shared}
end
end L3

/-! ## L9d -/
set_option Elab.async false
set_option linter.all false
set_option maxRecDepth 100000
set_option maxHeartbeats 4000000
/-! The def that asks of each lambda of a list whether it raises what is expected. -/
namespace L3
open PySem PySem.Spec PySem.Calls PyProof.Rows L2
/-! ### one lambda, handed to the def that tells errors -/
/-- what a lambda and its reading have to do with each other -/
structure LmR (X : Cx) (k : Nat) (L : Lm) (fL : RXX) : Prop where
  S : LmS X L
  bd : ∀ (A : Around) (outer : List Env) (s : Shared) (H : Hp) (E : XK) (f0 c0 : Addr), Room k (A.deeper (LamX.lamEnv X L.scope s.heap.objs.size f0 c0)) → Takes (LamX.lamCx X A outer s H E L.scope f0 c0) (fun cls d _ H' => E cls d H') → DEX (LamX.lamCx X A outer s H E L.scope f0 c0) (fun cls d _ H' => E cls d H') L.body fL
section
variable {X : Cx} {pins : List (Addr × Obj)} {σ : L2.St} {H : Hp} {s : Shared} {q : Str} {res : Addr → List (Str × D) → D → Prop} {k : Nat}
end
/-! ### steps that hide -/
section
variable {K : PySem.W.Frag} {S S' H H' : Hp} {μ μ' : MH}
/-- what is neither data nor changeable, and no table, stays aside -/
theorem Stp.out {a : Addr} {o : HO} (s : Stp S μ H S' μ' H') (k : OK K S' μ' H') (e : H a = some o) (nt : ∀ ps, o ≠ .tbl ps) (nq : ∀ q, o ≠ LamX.CodeO a q) (hS : S a = none) (hM : μ a = none) : H' a = some o ∧ S' a = none ∧ μ' a = none := by
  have e' := s.keep a o e hM nt
  refine ⟨e', ?_, ?_⟩
  · cases q : S' a with
    | none => rfl
    | some o' =>
      rcases s.news a o' q with z | (z | ⟨m, z⟩) | ⟨q', z⟩
      · rw [hS] at z; cases z
      · exact (free_no z e nt).elim
      · rw [hM] at z; cases z
      · have := k.sub a o' q
        rw [e'] at this
        exact absurd ((Option.some.inj this).trans z) (nq q')
  · cases q : μ' a with
    | none => rfl
    | some m =>
      rcases s.mus a m q with z | ⟨m', z⟩
      · exact (free_no z e nt).elim
      · rw [hM] at z; cases z
theorem mu_frz {a : Addr} {o : Obj} {u : HO} (k : OK K S μ H) (e : H a = some (.frz o u)) : μ a = none := by
  cases q : μ a with
  | none => rfl
  | some m =>
    have z := (k.mts a m q).2
    cases m with
    | lst ds => obtain ⟨vs, e1, _⟩ := z; rw [e] at e1; cases e1
    | ins C fs => obtain ⟨dx, vfs, e1, _⟩ := z; rw [e] at e1; cases e1
    | tab q => obtain ⟨ps, e1, _⟩ := z; rw [e] at e1; cases e1
    | dk kvs => obtain ⟨vs, e1, _⟩ := z; rw [e] at e1; cases e1
    | dct o kvs => obtain ⟨vs, e1, _⟩ := z; rw [e] at e1; unfold DctO at e1; cases e1
theorem mu_code {a : Addr} {q : Str} (k : OK K S μ H) (e : H a = some (LamX.CodeO a q)) : μ a = none := by
  cases w : μ a with
  | none => rfl
  | some m =>
    have z := (k.mts a m w).2
    cases m with
    | lst ds => obtain ⟨vs, e1, _⟩ := z; rw [e] at e1; unfold LamX.CodeO at e1; cases e1
    | ins C fs => obtain ⟨dx, vfs, e1, _⟩ := z; rw [e] at e1; unfold LamX.CodeO at e1; cases e1
    | tab q => obtain ⟨ps, e1, _⟩ := z; rw [e] at e1; exact absurd (Option.some.inj e1) (LamX.codeO_ne ps)
    | dk kvs => obtain ⟨vs, e1, _⟩ := z; rw [e] at e1; unfold LamX.CodeO at e1; cases e1
    | dct o kvs => obtain ⟨vs, e1, _⟩ := z; rw [e] at e1; exact absurd (Option.some.inj e1).symm dctO_ne_code
theorem AllL.stp {X : Cx} {q : Str} (k : OK K S μ H) (s : Stp S μ H S' μ' H') : ∀ {ls : List Lm} {fs : List Addr}, AllL X q H ls fs → AllL X q H' ls fs
  | _, _, .nil => .nil
  | _, _, .cons a ⟨c', pm, ctv, dV, doc, e, hc, hd⟩ r => .cons (s.keep _ _ a (mu_frz k a) fun _ z => by cases z)
    ⟨c', pm, ctv, dV, doc, e, s.keep _ _ hc (mu_code k hc) LamX.codeO_ne, hd.imp (fun z => z) fun ⟨t, n, tk, j, p, d1, d2, d3⟩ => ⟨t, n, tk, j, p, d1, d2, s.keep _ _ d3 (mu_frz k d3) fun _ z => by cases z⟩⟩ (r.stp k s)
end
/-! ### all of them raise -/
inductive LmRs (X : Cx) (k : Nat) : List Lm → List RXX → Prop
  | nil : LmRs X k [] []
  | cons {L : Lm} {ls : List Lm} {f : RXX} {fs : List RXX} : LmR X k L f → LmRs X k ls fs → LmRs X k (L :: ls) (f :: fs)
theorem LmRs.length {X : Cx} {k : Nat} : ∀ {ls : List Lm} {fs : List RXX}, LmRs X k ls fs → fs.length = ls.length
  | _, _, .nil => rfl
  | _, _, .cons _ r => congrArg Nat.succ r.length
theorem LmRs.get {X : Cx} {k : Nat} : ∀ {ls : List Lm} {fs : List RXX} {j : Nat} {f : RXX}, LmRs X k ls fs → fs[j]? = some f → ∃ L, ls[j]? = some L ∧ LmR X k L f
  | _, _, _, _, .nil, e => by simp at e
  | _, _, 0, _, .cons a _, e => by
    simp at e; subst e; exact ⟨_, rfl, a⟩
  | _, _, j + 1, f, .cons _ r, e => by
    obtain ⟨L, h1, h2⟩ := r.get (j := j) (f := f) (by simpa using e)
    exact ⟨L, by simpa using h1, h2⟩
/-- the body of such a def -/
abbrev allBody (a b c xe : Str) (scope : Scope) (p0 p1 p2 p3 p4 p5 p6 p7 p8 p9 p10 p11 : Pos) : List Stmt :=
  [.Return (some (.Compare (.ListComp (.Name c p0) [⟨.Name c p1, .Name a p2, [.Compare (.Call (.Name xe p3) [.Name c p4] [] p5) [.NotEq] [.Name b p6] p7], 0⟩] scope p8) [.Eq] [.List [] p9] p10)) p11]
/-- what the scopes of such a def must be -/
def allScB (a b c xe : Str) (sg scope : Scope) : Bool :=
  decide (sg.names.lookup a = some .local) && (decide (sg.kind = .function) && (decide ((relS scope sg).names.lookup xe = some .globalImplicit) && (decide ((relS scope sg).names.lookup c = some .local) && (decide ((relS scope sg).names.lookup b = some .free) || decide ((relS scope sg).names.lookup b = some .cell)) && blkC [a, b, c] sg scope [(c, 2)])))
structure AllD (P : Program) (w : World) (K : PySem.W.Frag) (mg : Str → Option Value) (xa xe : Str) (res : Addr → List (Str × D) → D → Prop) : Prop where
  er : ∀ base : Heap, ErrD P w K mg base xe res
  ex : ∃ (g : Addr) (pg : Arguments) (sg scope : Scope) (dV kV doc pm cdv ct oc : Value) (an od : Option Addr) (osl : Array (Option Value)) (a b c : Str) (p0 p1 p2 p3 p4 p5 p6 p7 p8 p9 p10 p11 : Pos),
    mg xa = some (.ref g) ∧ PySem.W.keepIn K (.ref g) = true ∧ K.lookup g = some ⟨oc, od, .func (PySem.W.fnOf xa xa pg (allBody a b c xe scope p0 p1 p2 p3 p4 p5 p6 p7 p8 p9 p10 p11) sg dV kV doc pm an cdv ct), osl⟩ ∧ PySem.W.codeIn K cdv xa = true ∧
    L2.Binds K (PySem.W.fnOf xa xa pg (allBody a b c xe scope p0 p1 p2 p3 p4 p5 p6 p7 p8 p9 p10 p11) sg dV kV doc pm an cdv ct) [a, b] [] ∧ FnScope [a, b, c] [a, b] sg ∧ allScB a b c xe sg scope = true ∧
    (a == ("__debug__" : Str)) = false ∧ (a == ("__classdict__" : Str)) = false ∧ (b == ("__debug__" : Str)) = false ∧ (b == ("__classdict__" : Str)) = false ∧ (c == ("__debug__" : Str)) = false ∧ (c == ("__classdict__" : Str)) = false ∧ (xe == ("__debug__" : Str)) = false
end L3

/-! ## L9e -/
set_option Elab.async false
set_option linter.all false
set_option maxRecDepth 100000
set_option maxHeartbeats 4000000
/-! The def that asks of each lambda of a list whether it raises what is expected: its run, its call. -/
namespace L3
open PySem PySem.Spec PySem.Calls PyProof.Rows L2
section
variable {X : Cx} {pins : List (Addr × Obj)} {σ : L2.St} {H : Hp} {s : Shared} {q : Str} {res : Addr → List (Str × D) → D → Prop} {k : Nat}
end
/-! ### the list of lambdas, between the statements -/
section
variable {X : Cx} {q : Str} {i : Nat} {ls : List Lm} {x xa xe : Str} {Pt c : Addr} {k : Nat} {res : Addr → List (Str × D) → D → Prop} {fRs : List RXX} {fe : RX} {e : Expr} {p p2 pos pos' : Pos}
end
end L3

/-! ## L9f -/
set_option Elab.async false
set_option linter.all false
set_option maxRecDepth 100000
set_option maxHeartbeats 4000000
/-! A list of lambdas that grows. -/
namespace L3
open PySem PySem.Spec PySem.Calls PyProof.Rows L2
section
variable {X : Cx} {q : Str} {i : Nat} {ls : List Lm} {x : Str} {Pt c : Addr} {k : Nat} {fRs : List RXX} {p p2 p3 pos pos' apos : Pos}
end
end L3

/-! ## L9g -/
set_option Elab.async false
set_option linter.all false
set_option maxRecDepth 100000
set_option maxHeartbeats 4000000
/-! Lists of lambdas: what the printed texts use. -/
namespace L3
open PySem PySem.Spec PySem.Calls PyProof.Rows L2
theorem LmRs.all {X : Cx} {k : Nat} : ∀ {ls : List Lm} {fs : List RXX}, LmRs X k ls fs → ∀ L ∈ ls, LmS X L
  | _, _, .nil, _, h => nomatch h
  | _, _, .cons a r, L, h => by
    rcases List.mem_cons.mp h with rfl | h
    · exact a.S
    · exact r.all L h
theorem LmRs.app {X : Cx} {k : Nat} : ∀ {ls ms : List Lm} {fs gs : List RXX}, LmRs X k ls fs → LmRs X k ms gs → LmRs X k (ls ++ ms) (fs ++ gs)
  | _, _, _, _, .nil, r => r
  | _, _, _, _, .cons a t, r => .cons a (t.app r)
section
variable {X : Cx} {q : Str} {i : Nat} {ls : List Lm} {x : Str} {Pt c : Addr} {k : Nat} {fRs : List RXX} {p p2 p3 pos pos' apos : Pos}
end
end L3

/-! ## L9h -/
set_option Elab.async false
set_option linter.all false
set_option maxRecDepth 100000
set_option maxHeartbeats 4000000
/-! isinstance, asked of an instance of another class. -/
namespace L3
open PySem PySem.Spec PySem.Calls PyProof.Rows L2
section
variable {X : Cx} {C C2 : Addr} {x : Str} {e : Expr} {fe : RX} {p p2 pos : Pos}
end
end L3

/-! ## RB18 -/
set_option Elab.async false
set_option linter.all false
set_option maxRecDepth 100000
set_option maxHeartbeats 4000000
namespace L3
open PySem NM L2
end L3

/-! ## SP19 -/
set_option Elab.async false
set_option linter.all false
set_option maxRecDepth 100000
set_option maxHeartbeats 1000000
/-! Copies of copies. -/
namespace L3
open PySem PySem.Spec PySem.Calls PyProof.Rows L2 NM
/-- a drawing, its copy, the copy's copy, .. -/
def rowsF (c : Cp) : Nat → List Stk → List (List Stk)
  | 0, ss => [ss]
  | n + 1, ss => ss :: rowsF c n (movedBy c ss)
end L3

/-! ## RB19 -/
set_option Elab.async false
set_option linter.all false
set_option maxRecDepth 100000
set_option maxHeartbeats 4000000
namespace L3
open PySem NM L2
end L3

/-! ## L9i -/
set_option Elab.async false
set_option linter.all false
set_option maxRecDepth 100000
set_option maxHeartbeats 4000000
/-! x not in a tuple; a tuple many times; a walk through what a call gives that may raise. -/
namespace L3
open PySem PySem.Spec PySem.Calls PyProof.Rows L2
section
variable {X : Cx}
end
section
variable {X : Cx} {W : WX} {pos : Pos}
end
end L3

/-! ## SP20 -/
set_option Elab.async false
set_option linter.all false
set_option maxRecDepth 100000
set_option maxHeartbeats 1000000
/-! Boxes of arms, rows of them. -/
namespace L3
open PySem PySem.Spec PySem.Calls PyProof.Rows L2 NM
/-- the rows that a row's next number makes -/
def moreR (ns r : List Int) : List (List Int) := (ns.filter fun n => !(r.any fun i => i == n)).map fun n => r ++ [n]
def stepR (ns : List Int) (L : List (List Int)) : List (List Int) := L.flatMap (moreR ns)
def allR (ns : List Int) : Nat → List (List Int) → List (List Int)
  | 0, _ => []
  | m + 1, L => stepR ns L ++ allR ns m (stepR ns L)
def rowsR (ns : List Int) (m : Nat) : List (List Int) := [[]] ++ allR ns m [[]]
def pickA {α : Type} (as : List α) (r : List Int) : List α := r.filterMap fun i => as[i.toNat]?
def okRow (n : Nat) (r : List Int) : Prop := r.length ≤ 5 ∧ ∀ i ∈ r, 0 ≤ i ∧ i < n
end L3

/-! ## RB20 -/
set_option Elab.async false
set_option linter.all false
set_option maxRecDepth 100000
set_option maxHeartbeats 4000000
namespace L3
open PySem NM L2
end L3

/-! ## SP21 -/
set_option Elab.async false
set_option linter.all false
set_option maxRecDepth 100000
set_option maxHeartbeats 1000000
/-! Boxes of arms: the copies that rows make. -/
namespace L3
open PySem PySem.Spec PySem.Calls PyProof.Rows L2 NM
/-- the copy of a row -/
def effR (as : List Am) (r : List Int) : Cp := effAll (pickA as r)
end L3

/-! ## RB21 -/
set_option Elab.async false
set_option linter.all false
set_option maxRecDepth 100000
set_option maxHeartbeats 4000000
namespace L3
open PySem NM L2
end L3

/-! ## L9q -/
set_option Elab.async false
set_option linter.all false
set_option maxRecDepth 100000
set_option maxHeartbeats 4000000
/-! x != () for a tuple of anything. -/
namespace L3
open PySem PySem.Spec PyProof.Rows L2
section
variable {prog : Program} {w : World} {A : Around} {R : Result → Shared → Prop} {E : Value → Shared → Prop} {s : Shared}
end
section
variable {X : Cx} {n : Nat} {a b : Expr} {fa fb : RX} {pos : Pos}
end
end L3

/-! ## L9r -/
set_option Elab.async false
set_option linter.all false
set_option maxRecDepth 100000
set_option maxHeartbeats 4000000
/-! max, min, sorted of a list of ints; d == {}. -/
namespace L3
open PySem PySem.Spec PyProof.Rows L2
section
variable {K : PySem.W.Frag} {X : Cx} {e : Expr} {fa : RA} {p pos : Pos}
end
/-! ### d == {} -/
section
variable {prog : Program} {w : World} {A : Around} {E : Value → Shared → Prop} {s : Shared}
end
section
variable {K : PySem.W.Frag} {X : Cx} {a b : Expr} {fa fb : RX} {pos : Pos}
end
end L3

/-! ## L9k -/
set_option Elab.async false
set_option linter.all false
set_option maxRecDepth 100000
set_option maxHeartbeats 4000000
/-! Sets of nested tuples: their table, searching, adding. -/
namespace L3
open PySem PySem.Spec PyProof.Rows L2
open Sem (wp)

/-! ### one word about the table -/
abbrev ways (m : Nat) (h : Int) (c : Nat) : SetTable.Probe := nth m (runAt m (SetTable.bits h % (m + 1)) (SetTable.bits h)) c
/-! ### small questions asked of nested keys -/
section
variable {P : Program} {w : World} {A : Around} {E : Value → Shared → Prop}
def NoCls (P : Program) (w : World) (n : Nat) (s : Shared) (v : Value) : Prop := ∀ (A : Around) (E : Value → Shared → Prop) (Q : Bool → Shared → Prop), Q false s → wpAny (model P w) A (ofAClassStatement n v) Q E s
def ByVal (P : Program) (w : World) (n : Nat) (s : Shared) (v : Value) : Prop := ∀ (A : Around) (E : Value → Shared → Prop) (Q : Bool → Shared → Prop), (∀ b, Q b s) → wpAny (model P w) A (hashByValue n v) Q E s
theorem NoCls.tuple {n : Nat} {s : Shared} {a : Addr} {o : Obj} {vs : Array Value} {m : Nat} (ho : s.heap.get? a = some o) (hc : o.cls = .type "tuple") (hd : o.data = .seq vs m) (hq : ∀ v ∈ vs.toList, NoCls P w n s v) : NoCls P w (n + 1) s (.ref a) := fun A E Q h => by
  have hT : s.TypeIs (.ref a) "tuple" := ⟨o, ho, hc⟩
  unfold ofAClassStatement
  refine wpAny_bind (wpAny_typeOf hT ?_)
  have e : (("tuple" : String) == "tuple") = true := by decide
  simp only [e, if_true, Bool.not_true, Bool.false_eq_true, if_false]
  try refine wpAny_bind (wpAny_pure ?_)
  try simp only [Bool.not_true, Bool.false_eq_true, if_false]
  refine wpAny_bind (m := seqItems? (.ref a)) (wpAny_seqItems ho hd ?_)
  dsimp only
  refine wpAny_bind ?_
  rw [← Array.forIn_toList]
  refine wpAny_forIn_list _ (fun rest r s' => (r.1 = none ∧ s' = s) ∧ ∀ v ∈ rest, NoCls P w n s v) _ ?_ ?_ _ _ ⟨⟨rfl, rfl⟩, hq⟩
  · rintro v rest r s' ⟨⟨hr, rfl⟩, hall⟩
    refine wpAny_bind (hall v List.mem_cons_self _ _ _ ?_)
    simp only [Bool.false_eq_true, if_false]
    exact wpAny_pure ⟨⟨rfl, rfl⟩, fun u hu => hall u (List.mem_cons_of_mem _ hu)⟩
  · rintro ⟨r1, r2⟩ s' ⟨⟨hr, rfl⟩, _⟩
    cases hr
    exact wpAny_pure h
theorem ByVal.tuple {n : Nat} {s : Shared} {a : Addr} {o : Obj} {vs : Array Value} {m : Nat} (ho : s.heap.get? a = some o) (hc : o.cls = .type "tuple") (hd : o.data = .seq vs m) (hq : ∀ v ∈ vs.toList, ByVal P w n s v) : ByVal P w (n + 1) s (.ref a) := fun A E Q h => by
  have hT : s.TypeIs (.ref a) "tuple" := ⟨o, ho, hc⟩
  unfold hashByValue
  refine wpAny_bind (wpAny_specialOf hT F.slot_tuple_hash.lookup ?_)
  refine wpAny_bind (m := seqItems? (.ref a)) (wpAny_seqItems ho hd ?_)
  refine wpAny_bind ?_
  show wpAny _ _ (forIn vs _ _) _ _ s
  rw [← Array.forIn_toList]
  refine wpAny_forIn_list _ (fun rest r s' => s' = s ∧ ∀ v ∈ rest, ByVal P w n s v) _ ?_ ?_ _ _ ⟨rfl, hq⟩
  · rintro v rest r s' ⟨rfl, hall⟩
    refine wpAny_bind (hall v List.mem_cons_self _ _ _ fun b => ?_)
    cases b with
    | true =>
      simp only [Bool.not_true, Bool.false_eq_true, if_false]
      exact wpAny_pure ⟨rfl, fun u hu => hall u (List.mem_cons_of_mem _ hu)⟩
    | false =>
      simp only [Bool.not_false, if_true]
      exact wpAny_pure (wpAny_pure (h _))
  · rintro ⟨r1, r2⟩ s' ⟨rfl, _⟩
    cases r1 with
    | none => exact wpAny_pure (h _)
    | some b => exact wpAny_pure (h _)
end
end L3

namespace L3
open PySem PySem.Spec PyProof.Rows L2
open Sem (wp)
def rowOf (w : World) (p : Addr × NestedKey) : Int × Value := (p.2.hash w, Value.ref p.1)
/-- the set at a holds the tuples L, in the table's order -/
structure NSet (w : World) (h : Heap) (a : Addr) (L : List (Addr × NestedKey)) (es : Array (Int × Value)) (ep : Nat) (t : SetTable) : Prop where
  ob : ∃ o, h.get? a = some o ∧ o.ExactSet ∧ o.data = .set es ep t
  rows : es.toList = L.map (rowOf w)
  tab : TabOk t (L.map fun p => p.2.hash w)
  nd : (L.map (·.2)).Nodup
  led : w.params.followText "set-order" = true ∨ t.led = true
  room : L.length * 5 < t.mask * 3
section
variable {P : Program} {w : World} {A : Around} {E : Value → Shared → Prop} {s : Shared} {a : Addr} {L : List (Addr × NestedKey)} {es : Array (Int × Value)} {ep : Nat} {t : SetTable}
theorem NSet.place (R : NSet w s.heap a L es ep t) : t.place.size = L.length := by
  have h := R.tab.sz
  rwa [List.length_map] at h
theorem NSet.whole (R : NSet w s.heap a L es ep t) : ¬ t.gaveWay = true := by
  unfold SetTable.gaveWay
  rw [mask_odd R.tab.mok]
  decide
end
end L3

namespace L3
open PySem PySem.Spec PyProof.Rows L2
open Sem (wp)
section
variable {P : Program} {w : World} {A : Around} {E : Value → Shared → Prop} {s : Shared} {a : Addr} {L : List (Addr × NestedKey)} {es : Array (Int × Value)} {ep : Nat} {t : SetTable}
end
end L3

namespace L3
open PySem PySem.Spec PyProof.Rows L2
open Sem (wp)
/-- the set L has got the items ks -/
structure GotN (ks L : List (Addr × NestedKey)) : Prop where
  sub : ∀ p ∈ L, p ∈ ks
  all : ∀ p ∈ ks, p.2 ∈ L.map (·.2)
  len : L.length ≤ ks.length
theorem GotN.new {ks L L' : List (Addr × NestedKey)} {x : Addr × NestedKey} (g : GotN ks L) (pm : L'.Perm (x :: L)) : GotN (ks ++ [x]) L' :=
  ⟨fun p hp => by
    rcases List.mem_cons.mp (pm.mem_iff.mp hp) with e | z
    · rw [e]; exact List.mem_append_right _ (List.mem_singleton.mpr rfl)
    · exact List.mem_append_left _ (g.sub p z), fun p hp => by
    rw [(pm.map (·.2)).mem_iff, List.map_cons]
    rcases List.mem_append.mp hp with z | z
    · exact List.mem_cons_of_mem _ (g.all p z)
    · rw [List.mem_singleton.mp z]; exact List.mem_cons_self, by
    rw [pm.length_eq, List.length_cons, List.length_append]
    exact Nat.succ_le_succ g.len⟩
section
variable {P : Program} {w : World} {A : Around} {E : Value → Shared → Prop} {s : Shared} {a : Addr} {L : List (Addr × NestedKey)} {es : Array (Int × Value)} {ep : Nat} {t : SetTable}
theorem NSet.kept {h h' : Heap} (R : NSet w h a L es ep t) (k : ∀ o, h.get? a = some o → h'.get? a = some o) : NSet w h' a L es ep t := by
  obtain ⟨o, ho, r⟩ := R.ob
  exact ⟨⟨o, k o ho, r⟩, R.rows, R.tab, R.nd, R.led, R.room⟩
def emptySet (w : World) : Obj := { cls := .type "set", dict := none, data := .set #[] 0 (.fresh 0 0 (!w.params.followText "set-order")) }
theorem NSet.fresh {h : Heap} (ho : h.get? a = some (emptySet w)) : NSet w h a [] #[] 0 (.fresh 0 0 (!w.params.followText "set-order")) where
  ob := ⟨_, ho, ⟨rfl, rfl, rfl⟩, rfl⟩
  rows := rfl
  tab := { ris := List.Pairwise.nil, dm := rfl, sz := rfl, mok := .inl rfl, bd := fun x hx => (nomatch hx), reach := fun i h j hi => (by simp at hi) }
  nd := List.nodup_nil
  led := by
    show _ ∨ (!w.params.followText "set-order") = true
    cases w.params.followText "set-order"
    · exact .inr rfl
    · exact .inl rfl
  room := by
    show 0 * 5 < 7 * 3
    decide
end
end L3

/-! ## L9l -/
set_option Elab.async false
set_option linter.all false
set_option maxRecDepth 100000
set_option maxHeartbeats 4000000
/-! Nested keys and the laws' data. -/
namespace L3
open PySem PySem.Spec PyProof.Rows L2
mutual
def kd : D → NestedKey
  | .int i => .num i
  | .bl b => .num (if b = true then 1 else 0)
  | .str x => .text x
  | .tup ds => .tup (kds ds)
  | _ => .none
def kds : List D → List NestedKey
  | [] => []
  | d :: ds => kd d :: kds ds
end
section
variable {X : Cx} {pins : List (Addr × Obj)} {σ : L2.St} {H : Hp} {s : Shared}
end
end L3

/-! ## L9m -/
set_option Elab.async false
set_option linter.all false
set_option maxRecDepth 100000
set_option maxHeartbeats 4000000
/-! set(list of nested tuples). -/
namespace L3
open PySem PySem.Spec PyProof.Rows L2
section
variable {P : Program} {w : World} {A : Around} {E : Value → Shared → Prop} {s : Shared}
end
end L3

/-! ## L9n -/
set_option Elab.async false
set_option linter.all false
set_option maxRecDepth 100000
set_option maxHeartbeats 4000000
/-! set(xs) of nested tuples, as a rule. -/
namespace L3
open PySem PySem.Spec PyProof.Rows L2
section
variable {X : Cx}
end
end L3

/-! ## L9o -/
set_option Elab.async false
set_option linter.all false
set_option maxRecDepth 100000
set_option maxHeartbeats 4000000
/-! sorted of a set of nested tuples. -/
namespace L3
open PySem PySem.Spec PyProof.Rows L2
section
variable {X : Cx}
end
end L3

/-! ## L9p -/
set_option Elab.async false
set_option linter.all false
set_option maxRecDepth 100000
set_option maxHeartbeats 4000000
/-! sorted(set(list of nested tuples)), as a reading. -/
namespace L3
open PySem PySem.Spec PyProof.Rows L2
section
variable {X : Cx} {n : Nat} {e : Expr} {fa : RA} {p p2 pos pos2 : Pos}
end
end L3

/-! ## L9j -/
set_option Elab.async false
set_option linter.all false
set_option maxRecDepth 100000
set_option maxHeartbeats 4000000
/-! A list that changes no more is data from now on. -/
namespace L3
open PySem PySem.Spec PySem.Calls PyProof.Rows L2
end L3

/-! ## SP22 -/
set_option Elab.async false
set_option linter.all false
set_option maxRecDepth 100000
set_option maxHeartbeats 1000000
/-! Hidden chains. -/
namespace L3
open PySem PySem.Spec PySem.Calls PyProof.Rows L2 NM
/-- the class of guesses -/
abbrev CL.Guess (Γ : CL) : Addr := Γ.gx "Guess"
def tellG (Γ : CL) (as : List Am) (r : List Int) : D := .tup [copyD Γ (effR as r), .lst ((zonesL Cp.id (pickA as r)).map rgD)]
def entG (Γ : CL) (as : List Am) (r : List Int) : D × D := (tupI r, tellG Γ as r)
/-- a guess at p with these candidates, its facts at l -/
structure GuessAt (Γ : CL) (as : List Am) (rows : List (List Int)) (fs : List D) (p l : Addr) (μ : MH) : Prop where
  hp : ∃ q o, μ p = some (.ins Γ.Guess [("rows", .ref q), ("facts", .ref l)]) ∧ μ q = some (.dct o (rows.map (entG Γ as)))
  hl : μ l = some (.lst fs)
structure okG (as : List Am) (rows : List (List Int)) : Prop where
  ka : ∀ a ∈ as, a.small
  nd : rows.Nodup
  ok : ∀ r ∈ rows, okRow as.length r
  le : rows.length ≤ 1000
/-- all but these two objects stay -/
def Keep (a b : Addr) (μ ν : MH) : Prop := ∀ x m, x ≠ a → x ≠ b → μ x = some m → ν x = some m
end L3

/-! ## RB22 -/
set_option Elab.async false
set_option linter.all false
set_option maxRecDepth 100000
set_option maxHeartbeats 4000000
namespace L3
open PySem NM L2
end L3

/-! ## L9s -/
set_option Elab.async false
set_option linter.all false
set_option maxRecDepth 100000
set_option maxHeartbeats 4000000
/-! A method with a star parameter. -/
namespace L3
open PySem PySem.Spec PyProof.Rows L2
structure MtS (P : Program) (w : World) (K : PySem.W.Frag) (mg : Str → Option Value) (base : Heap) (k : Nat) (C f : Addr) (s : GN) : Prop where
  raw : FnR P w K mg base CX0 k f (starSp (spD K s))
section
variable {X : Cx} {k : Nat} {C g : Addr} {m : Str} {s : GN} {o e : Expr} {es : List Expr} {fo : RX} {fa : RA} {apos pos : Pos}
end
end L3

/-! ## SP23 -/
set_option Elab.async false
set_option linter.all false
set_option maxRecDepth 100000
set_option maxHeartbeats 1000000
/-! Hidden chains: several observations. -/
namespace L3
open PySem PySem.Spec PySem.Calls PyProof.Rows L2 NM
end L3

/-! ## RB23 -/
set_option Elab.async false
set_option linter.all false
set_option maxRecDepth 100000
set_option maxHeartbeats 4000000
namespace L3
open PySem NM L2
end L3

/-! ## SP24 -/
set_option Elab.async false
set_option linter.all false
set_option maxRecDepth 100000
set_option maxHeartbeats 1000000
/-! What is covered, carried by a copy. -/
namespace L3
open PySem PySem.Spec PySem.Calls PyProof.Rows L2 NM
end L3

/-! ## RB24 -/
set_option Elab.async false
set_option linter.all false
set_option maxRecDepth 100000
set_option maxHeartbeats 4000000
namespace L3
open PySem NM L2
end L3

/-! ## SP25 -/
set_option Elab.async false
set_option linter.all false
set_option maxRecDepth 100000
set_option maxHeartbeats 1000000
/-! Strokes of at most so many spots. -/
namespace L3
open PySem PySem.Spec PySem.Calls PyProof.Rows L2 NM
end L3

/-! ## RB25 -/
set_option Elab.async false
set_option linter.all false
set_option maxRecDepth 100000
set_option maxHeartbeats 4000000
namespace L3
open PySem NM L2
end L3

/-! ## L9x -/
set_option Elab.async false
set_option linter.all false
set_option maxRecDepth 100000
set_option maxHeartbeats 4000000
/-! Errors that leave a def and have no context: what a suite that raises again may handle. -/
namespace L3
open PySem PySem.Spec PyProof.Rows L2
section
variable {X : Cx} {W : WX} {a : Stmt} {as bs rest : List Stmt} {f g : RS} {c e : Expr} {ft : RT} {fx : RXX} {fe : RX} {fa : RA} {pos : Pos}
theorem dsx_raiseN {x m : Str} {C : Addr} {j : Nat} {p p2 cpos : Pos} (G : ExcG X.K X.mg x C) (tk : L2N.Takes X W) (hg : Gl X x) (hdb : (x == ("__debug__" : Str)) = false := by decide) (hc : X.calm = true := by rfl) : DSX X W (.Raise (some (.Call (.Name x p) [.Constant (.str m) j p2] [] cpos)) none pos) (rRaise C) := by
  obtain ⟨bmB, B, newId, initId, F, q⟩ := G.ex
  exact ps_imp (L2N.ps_raise hc tk (L2N.pmk_own F q G.gC G.kC (raises_own G.r1 G.r2) hg hdb)) fun D σ H ⟨S, μ, ρ, DD, k, e, h, l⟩ => l.ex S μ H _ _ C [] k .refl ⟨rfl, .inl ⟨rfl, rfl⟩⟩ h σ
end
structure FnGXN (P : Program) (w : World) (K : PySem.W.Frag) (mg : Str → Option Value) (base : Heap) (k : Nat) (x : Str) (s : GX) : Prop where
  ex : ∃ f fd ps, FnOk P w K mg base (L2N.CX P w) k f fd ps (spX K s) ∧ mg x = some (.ref f) ∧ PySem.W.keepIn K (.ref f) = true ∧ Binds K fd ps []
structure MtGXN (P : Program) (w : World) (K : PySem.W.Frag) (mg : Str → Option Value) (base : Heap) (k : Nat) (C f : Addr) (s : GX) : Prop where
  ex : ∃ fd ps, FnOk P w K mg base (L2N.CX P w) k f fd ps (spX K s) ∧ Binds K fd ps []
section
variable {X : Cx} {W : WX} {k : Nat} {C g : Addr} {x m : Str} {s : GX} {o e : Expr} {es : List Expr} {fo : RX} {fa : RA} {p pos apos : Pos}
end
section
variable {P : Program} {w : World} {K : PySem.W.Frag} {mg : Str → Option Value} {base : Heap}
theorem fnDXN {x qual : Str} {params : Arguments} {bd : List Stmt} {scope : Scope} {dvs : List V} {kws : List (Str × V)} {f : Addr} {fd : FuncData} {N ps : List Str} {k : Nat} {s : GX} {body : RS} (F : FunD K x qual params bd scope dvs kws f fd) (Sc : FnScope N ps scope)
    (len : ∀ ds μ R re, s ds μ R re → ds.length = ps.length)
    (hb : ∀ (cdv : Value) (A : Around) (outer : List Env) (s0 : Shared) (H : Hp) (E : XK), Room k (A.deeper (envOfC qual scope s0.heap.objs.size f cdv)) → L2N.Takes (cxOf (L2N.CX P w) P w K mg base N qual scope f cdv A outer s0 H E) (fun cls d _ H' => E cls d H') →
      DSsX (cxOf (L2N.CX P w) P w K mg base N qual scope f cdv A outer s0 H E) (fun cls d _ H' => E cls d H') bd body)
    (hv : ∀ ds μ R re, s ds μ R re → body (finX R re) (startD N.length ds) μ) : FnOk P w K mg base (L2N.CX P w) (k + 1) f fd ps (spX K s) := by
  refine F.ok Sc (fun vs H Q E h => ?_) fun cdv A outer s0 H vs Q E hr h => ⟨upSX K (fun cls d _ H' => E cls d H') body, hb cdv A outer s0 H E hr (L2N.takes_of rfl rfl rfl rfl), ?_⟩
  · obtain ⟨S, μ, ds, R, re, a, b, c, _⟩ := h
    rw [b.length]
    exact len ds μ R re c
  · obtain ⟨S, μ, ds, R, re, a, b, c, d, dx⟩ := h
    exact ⟨S, μ, _, _, a, repE_start b, hv ds μ R re c, ⟨fun S' μ' H' σ' ρ' k' s' e' q' => d S' μ' H' _ _ k' s' .non q', fun S' μ' H' v z k' s' r' q' => d S' μ' H' v z k' s' r' q', fun _ _ _ _ _ _ _ _ q' => False.elim q', fun _ _ _ _ _ _ _ _ q' => False.elim q'⟩,
      fun S' μ' H' cls dd C fs k' s' x' q' _ => dx S' μ' H' cls dd C fs k' s' x' q'⟩
end
end L3

/-! ## L9y -/
set_option Elab.async false
set_option linter.all false
set_option maxRecDepth 100000
set_option maxHeartbeats 2000000
/-! raise X(..) from e in an except suite that names the handled error. -/
namespace L3
open PySem PySem.Spec PyProof.Rows L2 L2H HotX
/-- the heap behind «from c» -/
def causeFrom (h : Heap) (a : Addr) (c : Value) : Heap := (h.update a (Obj.mapFields (·.setIfInBounds 3 c))).update a (Obj.mapFields (·.setIfInBounds 4 (.bool true)))
theorem causeFrom_at {h : Heap} {a : Addr} {c : Value} {oe : Obj} {vs : Array Value} (ha : h.get? a = some oe) (hd : oe.data = .fields vs) :
    (causeFrom h a c).get? a = some ((oe.mapFields (·.setIfInBounds 3 c)).mapFields (·.setIfInBounds 4 (.bool true))) ∧ ((oe.mapFields (·.setIfInBounds 3 c)).mapFields (·.setIfInBounds 4 (.bool true))).data = .fields ((vs.setIfInBounds 3 c).setIfInBounds 4 (.bool true)) := by
  have hd3 := Obj.data_mapFields hd (·.setIfInBounds 3 c)
  have ha3 := Heap.get?_update_self (Obj.mapFields (·.setIfInBounds 3 c)) ha (Obj.isFreed_of_fields hd3)
  have hd4 := Obj.data_mapFields hd3 (·.setIfInBounds 4 (.bool true))
  exact ⟨Heap.get?_update_self (Obj.mapFields (·.setIfInBounds 4 (.bool true))) ha3 (Obj.isFreed_of_fields hd4), hd4⟩
theorem causeFrom_other {h : Heap} {a b : Addr} {c : Value} (hne : a ≠ b) : (causeFrom h a c).get? b = h.get? b := by
  unfold causeFrom
  rw [Heap.get?_update_other _ _ hne, Heap.get?_update_other _ _ hne]
theorem raise_made_hotF {prog : Program} {w : World} {A : Around} {E : Value → Shared → Prop} {env : Env} {s : Shared} {x c : Sem Value} {Q : Flow → Shared → Prop} {x1 : Addr}
    (h : wpAny (model prog w) A x (fun v s₁ => ∃ a oe vs cls, v = .ref a ∧ s₁.heap.get? a = some oe ∧ oe.cls = cls ∧ oe.data = .fields vs ∧ vs[1]? = some .none ∧ 4 < vs.size ∧ x1 ≠ a ∧ HotAt A x1 s₁.heap ∧
      (∀ Q' : Value → Shared → Prop, Q' (.ref x1) s₁ → wpAny (model prog w) A c Q' E s₁) ∧
      (∃ o1 vs1, s₁.heap.get? x1 = some o1 ∧ o1.data = .fields vs1 ∧ PySem.W.Looks (model prog w) s₁.heap (isSubtype o1.cls (.type "BaseException")) true) ∧
      PySem.W.Looks (model prog w) s₁.heap (isSubtype cls (.type "BaseException")) true ∧ PySem.W.Looks (model prog w) (causeFrom s₁.heap a (.ref x1)) (typeOf cls) (.type "type") ∧
      E (.ref a) { s₁ with heap := (causeFrom s₁.heap a (.ref x1)).update a (Obj.mapFields (·.setIfInBounds 2 (.ref x1))) }) E s) :
    wpAny (model prog w) A (raiseStmt env (some x) (some c)) Q E s := by
  unfold raiseStmt
  dsimp only
  refine wpAny_bind (wpAny_mono h (fun v s₁ h₁ => ?_) fun _ _ x => x)
  obtain ⟨a, oe, vs, cls, rfl, ha, hcls, hd, h1, hi, hne, hot, hcs, ⟨o1, vs1, g1, gd1, LX⟩, L1, L3, hE⟩ := h₁
  have LT : PySem.W.Looks (model prog w) s₁.heap (typeOf (.ref a)) cls := fun A Q E s k q => wpAny_typeOf_ref (k _ _ ha) (by rw [hcls]; exact q)
  have LI : PySem.W.Looks (model prog w) s₁.heap (isInstance (.ref a) (.type "BaseException")) true := LT.andThen L1
  have LTx : PySem.W.Looks (model prog w) s₁.heap (typeOf (.ref x1)) o1.cls := fun A Q E s k q => wpAny_typeOf_ref (k _ _ g1) q
  have LIx : PySem.W.Looks (model prog w) s₁.heap (isInstance (.ref x1) (.type "BaseException")) true := LTx.andThen LX
  have hnt : ∀ {Q' : Bool → Shared → Prop}, Q' false s₁ → wpAny (model prog w) A (isType (.ref a)) Q' E s₁ := by
    intro Q' hq
    simp only [isType, loadHead]
    refine wpAny_bind (wpAny_loadPart ha ?_)
    rw [hd]; exact wpAny_pure hq
  have hntx : ∀ {Q' : Bool → Shared → Prop}, Q' false s₁ → wpAny (model prog w) A (isType (.ref x1)) Q' E s₁ := by
    intro Q' hq
    simp only [isType, loadHead]
    refine wpAny_bind (wpAny_loadPart g1 ?_)
    rw [gd1]; exact wpAny_pure hq
  have hd3 := Obj.data_mapFields hd (·.setIfInBounds 3 (Value.ref x1))
  have ha3 := Heap.get?_update_self (Obj.mapFields (·.setIfInBounds 3 (Value.ref x1))) ha (Obj.isFreed_of_fields hd3)
  obtain ⟨ha4, hd4⟩ := causeFrom_at (c := .ref x1) ha hd
  have s3 : 3 < vs.size := by omega
  have s4 : 4 < (vs.setIfInBounds 3 (Value.ref x1)).size := by rw [set_size]; exact hi
  have s2 : 2 < ((vs.setIfInBounds 3 (Value.ref x1)).setIfInBounds 4 (Value.bool true)).size := by rw [set_size, set_size]; omega
  have h14 : ((vs.setIfInBounds 3 (Value.ref x1)).setIfInBounds 4 (Value.bool true))[1]? = some Value.none := set_other (by decide) (set_other (by decide) h1)
  have hcls4 : ((oe.mapFields (·.setIfInBounds 3 (Value.ref x1))).mapFields (·.setIfInBounds 4 (.bool true))).cls = cls := by rw [Obj.cls_mapFields, Obj.cls_mapFields]; exact hcls
  have LT4 : PySem.W.Looks (model prog w) (causeFrom s₁.heap a (.ref x1)) (typeOf (.ref a)) cls := fun A Q E s k q => wpAny_typeOf_ref (k _ _ ha4) (by rw [hcls4]; exact q)
  have hnt4 : ∀ {Q' : Bool → Shared → Prop}, Q' false { s₁ with heap := causeFrom s₁.heap a (.ref x1) } → wpAny (model prog w) A (isType (.ref a)) Q' E { s₁ with heap := causeFrom s₁.heap a (.ref x1) } := by
    intro Q' hq
    simp only [isType, loadHead]
    refine wpAny_bind (wpAny_loadPart ha4 ?_)
    rw [hd4]; exact wpAny_pure hq
  have hot4 : HotAt A x1 (causeFrom s₁.heap a (.ref x1)) := by
    obtain ⟨q1, o, vs', q2, q3, q4⟩ := hot
    exact ⟨q1, o, vs', by rw [causeFrom_other (Ne.symm hne)]; exact q2, q3, q4⟩
  have rest : wpAny (model prog w) A (do
      let b ← isType (.ref a)
      if b = true then do
        let e ← holding [.ref a] (raisedFor (.ref a) (.ref a))
        setFlight e none
        raiseNew e
      else do
        let e ← raisedInstance (.ref a)
        setFlight e none
        raiseNew e : Sem Flow) Q E { s₁ with heap := causeFrom s₁.heap a (.ref x1) } := by
    refine wpAny_bind (hnt4 ?_)
    simp only [Bool.false_eq_true, if_false]
    unfold raisedInstance
    refine wpAny_bind (wpAny_bind (LT4.here (wpAny_bind (L3.here ?_))))
    rw [if_pos (beq_self_eq_true _)]
    refine wpAny_pure ?_
    unfold setFlight
    refine wpAny_bind (wpAny_bind (wpAny_field ha4 hd4 h14 ?_))
    rw [if_neg (by decide)]
    refine wpAny_pure ?_
    exact raiseNew_hot hot4 hne ha4 hd4 s2 hE
  refine wpAny_bind (wpAny_holding (hcs _ (wpAny_bind (wpAny_pure ?_))))
  dsimp only
  refine wpAny_bind (wpAny_holding ?_)
  unfold excFromValue isExcClass
  refine wpAny_bind (wpAny_bind (hnt ?_))
  simp only [Bool.false_eq_true, if_false]
  refine wpAny_pure ?_
  simp only [Bool.false_eq_true, if_false]
  refine wpAny_bind (LI.here ?_)
  simp only [if_true]
  refine wpAny_pure ?_
  have nn : ¬ ((Value.ref x1 == Value.none) = true) := by simp
  rw [if_neg nn]
  refine wpAny_bind (wpAny_holding ?_)
  refine wpAny_bind (wpAny_bind (hntx ?_))
  simp only [Bool.false_eq_true, if_false]
  refine wpAny_pure ?_
  simp only [Bool.false_eq_true, if_false]
  refine wpAny_bind (LIx.here ?_)
  simp only [if_true]
  refine wpAny_pure ?_
  refine wpAny_bind (wpAny_setField ha hd s3 (wpAny_bind (wpAny_setField ha3 hd3 s4 ?_)))
  exact rest
/-- raise X(..) from e, in an except suite, e the handled error -/
theorem ps_raiseHF {X : Cx} {W : WX} {e c : Expr} {t : L2.St → Hp → XK → Prop} {pos : Pos} {q : Addr × Obj} {cls1 : Value} (hh : Hot1 X.A q) (hq : q ∈ X.pn) (hz1 : q.2.cls = cls1) (r1 : Raises X cls1) (tk : L2.Takes X W) (he : L2H.PMk5 X e t)
    {C : L2.St → Prop} (hcv : ∀ (pins : List (Addr × Obj)) (s : Shared) (σ : L2.St) (H : Hp), Inv X pins σ H s → C σ → ∀ Q' : Value → Shared → Prop, Q' (.ref q.1) s → wpAny (model X.prog X.w) X.A (eval c X.env) Q' X.xe s) :
    PS X (.Raise (some e) (some c) pos) (fun _ σ H => C σ ∧ t σ H fun cls d H' => W cls d σ H') := by
  refine ⟨fun pins s σ H D I ⟨hC, h⟩ => ?_⟩
  obtain ⟨hh, v1, e1, c1⟩ := hh
  show wpAny _ _ (do standAt pos; raiseStmt X.env (some (do let v ← eval e X.env; standAt pos; pure v)) (some (do let v ← eval c X.env; standAt pos; pure v))) _ _ _
  refine wpAny_bind (wpAny_standAt (raise_made_hotF (x1 := q.1) (wpAny_bind (wpAny_mono (he pins s σ H _ I h) (fun u s1 hu => wpAny_bind (wpAny_standAt (wpAny_pure ?_))) fun _ _ x => x))))
  obtain ⟨⟨a, oe, vs, sI, H', cls, d, rfl, J, k, hne, ha, hz, hd, h1, na, os, ag, r, qq⟩, h5⟩ := hu
  have hi : 4 < vs.size := h5 a oe vs rfl ha hd
  have k4 : ∀ b u, sI.heap.get? b = some u → (causeFrom s1.heap a (.ref q.1)).get? b = some u := fun b u z => by
    have nab : a ≠ b := fun y => by
      rw [← y, hne] at z
      cases z
    rw [causeFrom_other nab]
    exact k b u z
  obtain ⟨ra, _⟩ := r (model X.prog X.w) s1.heap (J.kIn.keeps k)
  obtain ⟨_, rb⟩ := r (model X.prog X.w) (causeFrom s1.heap a (.ref q.1)) (J.kIn.keeps k4)
  obtain ⟨rx, _⟩ := r1 (model X.prog X.w) s1.heap (J.kIn.keeps k)
  have P1 := (J.pin q (List.mem_append_left _ hq)).1
  have J1 : Inv X pins σ H' s1 := J.landed (B := sI.heap) (fun b o e _ => e) k (fun b o e _ => ⟨o.slots, k b o e⟩) os ag
  have nap : q.1 ≠ a := fun z => by
    rw [z, hne] at P1
    cases P1
  obtain ⟨ha4, hd4⟩ := causeFrom_at (c := .ref q.1) ha hd
  have h12 : (((vs.setIfInBounds 3 (Value.ref q.1)).setIfInBounds 4 (Value.bool true)).setIfInBounds 2 (Value.ref q.1))[1]? = some Value.none := set_other (by decide) (set_other (by decide) (set_other (by decide) h1))
  refine ⟨a, oe, vs, cls, rfl, ha, hz.1, hd, h1, hi, nap, ⟨hh, q.2, v1, k _ _ P1, e1, c1⟩, fun Q' x => wpAny_bind (hcv pins s1 σ H' J1 hC _ (wpAny_bind (wpAny_standAt (wpAny_pure x)))), ⟨q.2, v1, k _ _ P1, e1, by rw [hz1]; exact rx⟩, ra, rb, tk _ _ (XE.new J (fun b u z => ?_) hne (Heap.get?_update_self _ ha4 (Obj.isFreed_of_fields (Obj.data_mapFields hd4 _)))
    ⟨by rw [Obj.cls_mapFields, Obj.cls_mapFields, Obj.cls_mapFields]; exact hz.1, by rw [HandSPX.dict_mapFields, HandSPX.dict_mapFields, HandSPX.dict_mapFields]; exact hz.2.1⟩ (Obj.data_mapFields hd4 _) h12 na os ag qq)⟩
  have nab : a ≠ b := fun y => by
    rw [← y, hne] at z
    cases z
  show ((causeFrom s1.heap a (.ref q.1)).update a (Obj.mapFields (·.setIfInBounds 2 (.ref q.1)))).get? b = some u
  rw [Heap.get?_update_other _ _ nab]
  exact k4 b u z
end L3

/-! ## L9z -/
set_option Elab.async false
set_option linter.all false
set_option maxRecDepth 100000
set_option maxHeartbeats 2000000
/-! try .. except C as e, whose suite raises. -/
namespace L3
open PySem PySem.Spec PyProof.Rows L2
theorem inv_gone {X : Cx} {pins : List (Addr × Obj)} {σ : L2.St} {H : Hp} {s : Shared} {i : Nat} {n : Str} {h' : Heap} {t' : Nat} {m : Str → Option Value} {v : Option Value} (I : Inv X pins σ H s) (hN : X.N.Nodup) (hi : X.N[i]? = some n) (hl : X.env.kindOf n = some .local)
    (hn : s.heap.Ns X.env.locals m) (hn' : h'.Ns X.env.locals (fun x => if x = n then v else m x)) (hs : Heap.SameBut X.env.locals s.heap h') : Inv X pins (σ.set i none) H { s with heap := h', toks := t' } := by
  obtain ⟨m0, hn0, hlk0⟩ := id I.loc
  have em : ∀ y, m0 y = m y := fun y => by
    obtain ⟨o, es, ep, ho, hd, _, hf⟩ := hn0
    obtain ⟨o2, es2, ep2, ho2, hd2, _, hf2⟩ := hn
    rw [ho] at ho2
    cases ho2
    rw [hd] at hd2
    cases hd2
    rw [← hf y, hf2 y]
  have emf : m0 = m := funext em
  subst emf
  have hlk := hlk0
  obtain ⟨oL, _, _, hoL, _⟩ := id hn0
  have neL : ∀ b o, X.s_0.heap.get? b = some o → b ≠ X.env.locals := fun b o e => Nat.ne_of_lt (Nat.lt_of_lt_of_le (Heap.lt_size e) I.ok.above)
  refine ⟨I.ok, I.os, I.bare, ⟨fun b o e n hb hx => ?_, fun b o e n hb hx => ?_, I.base.free, fun b o e hx => ?_, I.base.tups, I.base.frzs, I.base.tbls⟩, ⟨_, hn', fun j y v' e1 e2 e3 => ?_⟩, fun y c e => ?_, I.free, I.freeC, fun p hp => ?_, fun b ob e => ?_, by simpa using I.len⟩
  · exact (hs.2 b (neL b o e)).trans (I.base.keep b o e n hb hx)
  · obtain ⟨sl, e1⟩ := I.base.slot b o e n hb hx
    exact ⟨sl, (hs.2 b (neL b o e)).trans e1⟩
  · obtain ⟨o', e1⟩ := I.base.there b o e hx
    exact ⟨o', (hs.2 b (neL b o e)).trans e1⟩
  · by_cases hj : j = i
    · subst hj
      by_cases hlt : j < σ.length
      · rw [List.getElem?_set_self hlt] at e2; cases e2
      · rw [List.getElem?_eq_none (by simpa using hlt)] at e2; cases e2
    · rw [List.getElem?_set_ne (Ne.symm hj)] at e2
      obtain ⟨u', r', q⟩ := hlk j y v' e1 e2 e3
      refine ⟨u', r', ?_⟩
      rcases q with ⟨k, e⟩ | ⟨k, c, e, z⟩
      · have ny : y ≠ n := fun e => hj (nodup_ix hN e1 (e ▸ hi))
        exact .inl ⟨k, (if_neg ny).trans e⟩
      · exact .inr ⟨k, c, e, z.sameBut hs (I.cne y c e)⟩
  · obtain ⟨w', z⟩ := I.cell y c e
    exact ⟨w', z.sameBut hs (I.cne y c e)⟩
  · obtain ⟨e, n, ne, nf, d⟩ := I.pin p hp
    exact ⟨(hs.2 p.1 ne).trans e, n, ne, nf, d⟩
  · refine (I.hok b ob e).stay (fun c w' hc q => (hs.2 c ?_).trans q) (fun _ q => q) fun _ _ q => q
    intro z
    subst z
    rcases hc with hc | hc
    · rw [← hc, I.free] at e; cases e
    · rw [I.free] at hc; cases hc
theorem frames_but {env : Env} {l : List Env} {B h h' : Heap} {L : Addr} {o7 : Obj} (hf : env.frame = some L) (ho : h'.get? L = some o7) (nf : ∀ vs, o7.data ≠ .fields vs) (k : ∀ b, b ≠ L → h'.get? b = h.get? b) (x : h.FunFrames B (env :: l)) : h'.FunFrames B (env :: l) := by
  have go : ∀ l : List Env, h.FunFrames B l → h'.FunFrames B l := by
    intro l
    induction l with
    | nil => intro _; trivial
    | cons e r ih =>
      rintro ⟨hk, ⟨L1, o, hf1, hn, ho1, hd⟩, hr⟩
      by_cases q : L1 = L
      · subst q
        exact ⟨hk, ⟨L1, o7, hf1, hn, ho, nf⟩, ih hr⟩
      · exact ⟨hk, ⟨L1, o, hf1, hn, (k L1 q).trans ho1, hd⟩, ih hr⟩
  exact go _ x
theorem notFreed {h : Heap} {L : Addr} {o7 : Obj} (nf : ∀ vs, o7.data ≠ .fields vs) (ho : h.get? L = some o7) : o7.isFreed = false := (Heap.get?_some_iff.mp ho).2
/-- the context of an except suite, its errors taken by xe -/
abbrev suiteE (X : Cx) (a : Addr) (pn : List (Addr × Obj)) (xe : Value → Shared → Prop) : Cx := { X with A := X.A.mark (some (.ref a)), calm := false, pn := pn, xe := xe }
section
variable {X : Cx} {x n : Str} {c : Value} {i : Nat} {body suite : List Stmt} {b₀ : Stmt} {np pos pos' : Pos} {tb : WX → TS} {ts : Addr → Value → Option Addr → TS} {Wout : WX}
theorem ps_try_asX (hs : X.stack = X.env :: X.outer) (hf : X.env.frame = some X.env.locals) (hN : X.N.Nodup) (hi : X.N[i]? = some n) (hln : X.env.kindOf n = some .local) (hc : Names X x c) (hpa : ∀ hd : Option Value, PassesOwnAt (model X.prog X.w) (X.A.mark hd) X.A X.env X.xe) (tk : L2.Takes X Wout)
    (hb : ∀ (W : WX) (pn : List (Addr × Obj)) (xe : Value → Shared → Prop), L2N.Takes (X.tr pn xe) W → PassesOwn (model X.prog X.w) X.A X.env xe → PSs (X.tr pn xe) body (tb W))
    (hsu : ∀ (a : Addr) (oe : Obj) (cls : Value) (d : Option Addr) (pn : List (Addr × Obj)), L2N.Zn cls d oe → (∃ vs, oe.data = .fields vs) → ∀ (xe : Value → Shared → Prop), L2.Takes (suiteE X a ((a, oe) :: pn) xe) (fun c d σ H => Wout c d (σ.set i none) H) → L2H.HotC (suiteE X a ((a, oe) :: pn) xe) →
      PSs (suiteE X a ((a, oe) :: pn) xe) (b₀ :: suite) (ts a cls d)) :
    PS X (.Try body [.ExceptHandler (some (.Name x np)) (some n) (b₀ :: suite) pos'] [] [] pos) (fun D σ H => tb (wAs X.K c i ts Wout D) D σ H) := by
  refine ⟨fun pins s σ H D I h => ?_⟩
  have ok := I.ok
  have hfr : X.A.frames = some (X.env :: X.outer) := by rw [ok.frames, hs]
  have hloc : Loc X.env.scope n := .inl hln
  refine wpAny_Try_except ?_
  refine wpAny_mono ((hb (wAs X.K c i ts Wout D) (X.pn ++ pins) (fun e s₁ => wpAny (model X.prog X.w) X.A (noteFrame e X.env) (fun _ s₂ => wpAny (model X.prog X.w) X.A (setFlight e none) (fun _ s₃ =>
    wpAny (model X.prog X.w) X.A (handleBy e X.env [.ExceptHandler (some (.Name x np)) (some n) (b₀ :: suite) pos']) (SP X pins D) X.xe s₃) X.xe s₂) X.xe s₁) (fun u s' xx => ?_) PassesOwn.looking).run [] s σ H D (I.toTry _) h) (fun f s1 hsp => ?_) (fun e s1 he => he)
  · -- the catch
    obtain ⟨a, B, sI, pins', σ', H', cls, d, rfl, J', nb, up, sky, na, os, ag, b, hb1, hyes, hno⟩ := xx
    have J : Inv X pins σ' H' sI := J'.ofTry ok
    have sky' : Sky B (X.env :: X.outer) a (L2N.Zn cls d) X.env.locals s'.heap := by rw [← hs]; exact sky
    show wpAny (model X.prog X.w) X.A (noteFrame (.ref a) X.env) _ _ _
    refine L2N.Sky.land L2N.Zn.steady hfr hf sky' fun h3 fl3 up3 => ?_
    have J3 : Inv X pins σ' H' { s' with heap := h3 } := J.landed nb fl3.1 (up.trans up3) os ag
    obtain ⟨oe3, vs3, he3, hz3, hd3⟩ := fl3.there
    have notFr : ∀ {h : Heap} {o : Obj} {vs : Array Value}, h.FunFrames B (X.env :: X.outer) → h.get? a = some o → o.data = .fields vs → a ∉ frs (X.env :: X.outer) := fun {h o vs} ff e dd hm => by
      obtain ⟨_, o', e', hnf⟩ := ff.mem hm
      rw [e] at e'; cases e'
      exact hnf _ dd
    have nfr := notFr fl3.2.2.1 he3 hd3
    have nL : a ≠ X.env.locals := fun z => nfr (List.mem_filterMap.mpr ⟨X.env, List.mem_cons_self, by rw [hf, z]⟩)
    have nF : a ∉ X.fs := fun hm => by
      obtain ⟨e, he, q⟩ := List.mem_filterMap.mp hm
      exact nfr (List.mem_filterMap.mpr ⟨e, List.mem_cons_of_mem _ he, q⟩)
    have S3 := J3.suite he3 hd3 na nL nF
    refine wpAny_handleBy_cons (codeAny_handlers_test ?_) (by intro q; cases q)
    have LT : PySem.W.Looks (model X.prog X.w) h3 (typeOf (.ref a)) cls := fun A Q E s k q => wpAny_typeOf_ref (k _ _ he3) (by rw [hz3.1]; exact q)
    have LM := PySem.W.exm_one (M := model X.prog X.w) (J3.kIn) LT hb1
    have test : ∀ {Q : Value → Shared → Prop} {E : Value → Shared → Prop}, Q c { s' with heap := h3 } → wpAny (model X.prog X.w) (X.A.mark (some (.ref a))) (eval (.Name x np) X.env) Q E { s' with heap := h3 } := fun {Q E} q => by
      obtain ⟨hg, hdbg, hm | ⟨hm, hv, hnn⟩⟩ := hc
      · exact ld_glob (X := X.suite a ((a, oe3) :: (X.pn ++ pins))) S3 hg hm q hdbg
      · exact ld_blt (X := X.suite a ((a, oe3) :: (X.pn ++ pins))) S3 hg hm hv q hnn hdbg
    refine test (LM.here ?_)
    cases b with
    | true =>
      refine codeAny_handlers_suite_as ?_
      refine HandSPX.lands_againZ fl3 fun h4 fl4 up4 => ?_
      have J4 : Inv X pins σ' H' { s' with heap := h4 } := J.landed nb fl4.1 ((up.trans up3).trans up4) os ag
      obtain ⟨oe4, vs4, he4, hz4, hd4⟩ := fl4.there
      have S4 := J4.suite he4 hd4 na nL nF
      refine store_ok (X := X.suite a ((a, oe4) :: (X.pn ++ pins))) (v := .ref a) S4 hN hi hloc rfl (fun s5 S5 => ?_) (.inr hln)
      let X5 : Cx := suiteE X a ((a, oe4) :: (X.pn ++ pins)) (L2.XE (L2H.suiteX X a ((a, oe4) :: (X.pn ++ pins))) (fun c d σ H => Wout c d (σ.set i none) H))
      have tk5 : L2.Takes X5 (fun c d σ H => Wout c d (σ.set i none) H) := fun u s' ⟨a2, B2, sI2, pn2, σ2, H2, cls2, d2, e2, I2, r2⟩ => ⟨a2, B2, sI2, pn2, σ2, H2, cls2, d2, e2, Inv.unwish (X := L2H.suiteX X a ((a, oe4) :: (X.pn ++ pins))) I2, r2⟩
      have hot : L2H.HotC X5 := ⟨(a, oe4), ⟨rfl, vs4, hd4, hz4.2.2 vs4 hd4⟩, List.mem_cons_self⟩
      have S5' : Inv X5 [] (σ'.set i (some (.ref a))) H' s5 := (L2H.suiteX_of S5).wish _
      refine wpAny_mono ((hsu a oe4 cls d (X.pn ++ pins) hz4 ⟨_, hd4⟩ _ tk5 hot).run [] s5 _ H' _ S5' (hyes rfl a na)) (fun f s6 hsp => ?_) (fun u6 s6 x6 => ?_)
      case refine_2 =>
        clear hsu hb hyes h
        obtain ⟨a2, B2, sI2, pn2, σ2, H2, cls2, d2, rfl, I2', nb2, up2, sky2, na2, os2, ag2, w2⟩ := x6
        have I2 : Inv X pins σ2 H2 sI2 := L2H.unsuiteX I2' ok
        have sky2' : Sky B2 (X.env :: X.outer) a2 (Zc cls2 d2) X.env.locals s6.heap := by rw [← hs]; exact sky2
        have hfr' : (X.A.mark (some (.ref a))).frames = some (X.env :: X.outer) := hfr
        have nb2' : ∀ b o, sI2.heap.get? b = some o → b ∉ frs X.stack → B2.get? b = some o := nb2
        have hcls : (X.env.scope.kind == .class || (X.env.scope.kind == .module && X.env.locals != X.env.globals)) = false := by rw [ok.kind]; rfl
        obtain ⟨m, hn2, hlk2⟩ := id I2.loc
        obtain ⟨oL, es, ep, hoL, hdL, hkL, hfL⟩ := id hn2
        have nfL : ∀ vs, oL.data ≠ .fields vs := fun vs e => by rw [hdL] at e; cases e
        have note : ∀ h6, HandSPX.HeldZ B2 (X.env :: X.outer) a2 (Zc cls2 d2) X.env.locals h6 → s6.heap.UpToSlots h6 → wpAny (model X.prog X.w) (X.A.mark (some (.ref a))) (do
              bindName X.env n Value.none
              unbindBehindTheSuite X.env n pos')
            (fun _ s₄ => wpAny (model X.prog X.w) (X.A.mark (some (.ref a))) (PySem.passOn "try.except-as" (.ref a2) X.env : Sem Flow) (fun _ _ => False)
              (notedBy (model X.prog X.w) (X.A.mark (some (.ref a))) X.env (cameBackBy (model X.prog X.w) X.A X.env X.xe)) s₄)
            (fun _ _ => False) { s6 with heap := h6 } := fun h6 hh6 up6 => by
          have u26 := up2.trans up6
          obtain ⟨sl6, e6⟩ := u26 _ oL hoL nfL
          have hn6 : h6.Ns X.env.locals m := ⟨_, es, ep, e6, hdL, hkL, hfL⟩
          refine wpAny_nameGoes_keeps (s := { s6 with heap := h6 }) hln hn6 hcls fun h7 v hn7 hs7 => ?_
          obtain ⟨g1, g2, g3, oe6, vs6, T, oT, ts6, he6, hz6, hd6, h16, hbT, hTe, hT6, hdT, h36⟩ := hh6
          have hBL : B2.get? X.env.locals = none := by
            obtain ⟨_, ⟨L, o, hf1, hb1, _, _⟩, _⟩ := g3
            rw [hf] at hf1
            cases hf1
            exact hb1
          have keep7 : ∀ b, b ≠ X.env.locals → h7.get? b = h6.get? b := hs7.2
          have aL : a2 ≠ X.env.locals := fun z => by rw [z, e6] at he6; cases he6; exact nfL _ hd6
          have TL : T ≠ X.env.locals := fun z => by rw [z, e6] at hT6; cases hT6; exact nfL _ hdT
          obtain ⟨o7, es7, ep7, ho7, hd7, hk7, hf7⟩ := id hn7
          have nf7 : ∀ vs, o7.data ≠ .fields vs := fun vs e => by rw [hd7] at e; cases e
          have B7 : B2.StaysIn h7 := fun b o e => (keep7 b fun z => by rw [z, hBL] at e; cases e).trans (g1 b o e)
          have F7 : h7.FunFrames B2 (X.env :: X.outer) := frames_but hf ho7 nf7 keep7 g3
          have he7 : h7.get? a2 = some oe6 := (keep7 a2 aL).trans he6
          have T7 : HandSPX.TracedZ h7 B2 a2 (Zc cls2 d2) (rawInt X.env.locals) := ⟨oe6, vs6, T, oT, ts6, he7, hz6, hd6, h16, hbT, hTe, (keep7 T TL).trans hT6, hdT, h36⟩
          unfold PySem.passOn
          refine wpAny_bind (wpAny_field (s := { s6 with heap := h7, toks := s6.toks + 1 }) he7 hd6 h16 ?_)
          rw [if_neg (show ¬ ((Value.ref T == Value.none) = true) from by simp)]
          have fin : wpAny (model X.prog X.w) (X.A.mark (some (.ref a))) (setFlight (.ref a2) X.env.frame) (fun _ s4 => wpAny (model X.prog X.w) (X.A.mark (some (.ref a))) (throw (.ref a2) : Sem Flow) (fun _ _ => False)
              (notedBy (model X.prog X.w) (X.A.mark (some (.ref a))) X.env (cameBackBy (model X.prog X.w) X.A X.env X.xe)) s4)
              (notedBy (model X.prog X.w) (X.A.mark (some (.ref a))) X.env (cameBackBy (model X.prog X.w) X.A X.env X.xe)) { s6 with heap := h7, toks := s6.toks + 1 } := by
            rw [hf]
            refine HandSPX.setFlight_anyZ B7 F7 T7 fun h8 k1 k2 k3 k4 => wpAny_throw (hpa (some (.ref a)) _ _ (tk _ _ ?_))
            have up8 : (sI2.heap.update X.env.locals fun _ => o7).get? X.env.locals = some o7 := Heap.get?_update_self (fun _ => o7) hoL (notFreed nf7 ho7)
            have oth : ∀ b, b ≠ X.env.locals → (sI2.heap.update X.env.locals fun _ => o7).get? b = sI2.heap.get? b := fun b hb => Heap.get?_update_other _ _ (Ne.symm hb)
            have I8 := inv_gone (t' := sI2.toks) I2 hN hi hln hn2 (h' := sI2.heap.update X.env.locals fun _ => o7) (v := v) ⟨o7, es7, ep7, up8, hd7, hk7, hf7⟩ (Heap.SameBut.update ..)
            refine ⟨a2, B2, _, pins, σ2.set i none, H2, cls2, d2, rfl, I8, fun b o e hb => ?_, fun b o e hd => ?_, .inr (.inr ⟨k1, g2, by rw [hs]; exact k2, k3⟩), na2, os2, ag2, w2⟩
            · have bL : b ≠ X.env.locals := fun z => hb (by rw [z, hs]; exact List.mem_filterMap.mpr ⟨X.env, List.mem_cons_self, hf⟩)
              exact nb2' b o ((oth b bL).symm.trans e) hb
            · by_cases bL : b = X.env.locals
              · rw [bL, up8] at e
                cases e
                obtain ⟨sl, q⟩ := k4 X.env.locals o7 ho7 nf7
                exact ⟨sl, by rw [bL]; exact q⟩
              · have e2 := (oth b bL).symm.trans e
                obtain ⟨sl, q⟩ := u26 b o e2 hd
                obtain ⟨sl2, q2⟩ := k4 b _ ((keep7 b bL).trans q) hd
                exact ⟨sl2, q2⟩
          first
            | exact wpAny_bind (wpAny_pure (wpAny_bind fin))
            | exact wpAny_bind fin
        rcases sky2' with ⟨hB, hn, hl, oe, vs, he, hz, hd, h1⟩ | fl | hh
        · exact HandSPX.look_newZ Zc.steady hfr' hl hf he hB hn hd h1 hz (fun h6 hh6 up6 => wpAny_mono (note h6 hh6 up6) (fun _ _ q => q) (fun _ _ z => False.elim z))
        · exact HandSPX.looks_onZ Zc.steady hfr' hf fl (fun h6 hh6 up6 => wpAny_mono (note h6 hh6 up6) (fun _ _ q => q) (fun _ _ z => False.elim z))
        · exact HandSPX.againZ hf hh.2.2.2 (wpAny_mono (note s6.heap hh (Heap.UpToSlots.refl _)) (fun _ _ q => q) (fun _ _ z => False.elim z))
      have end_ : ∀ {σ6 : L2.St} {H6 : Hp} {Q : Shared → Prop}, Inv X5 [] σ6 H6 s6 → (∀ s7, Inv X pins (σ6.set i none) H6 s7 → Q s7) →
          wpAny (model X.prog X.w) X.A (do bindName X.env n .none; unbindBehindTheSuite X.env n pos') (fun _ s7 => Q s7) X.xe s6 := fun {σ6 H6 Q} S6 hq => gone_ok (L2H.unsuiteX (S6.unwish (X := L2H.suiteX X a ((a, oe4) :: (X.pn ++ pins)))) ok) hN hi hln hq
      cases f with
      | next =>
        obtain ⟨σ6, H6, S6, q6⟩ := hsp
        exact end_ S6 fun s7 J7 => ⟨_, _, J7, q6⟩
      | brk =>
        obtain ⟨σ6, H6, S6, q6⟩ := hsp
        exact end_ S6 fun s7 J7 => ⟨_, _, J7, q6⟩
      | cont =>
        obtain ⟨σ6, H6, S6, q6⟩ := hsp
        exact end_ S6 fun s7 J7 => ⟨_, _, J7, q6⟩
      | ret u =>
        obtain ⟨v6, σ6, H6, S6, r6, q6⟩ := hsp
        exact end_ S6 fun s7 J7 => ⟨_, _, _, J7, r6, q6⟩
    | false =>
      show wpAny _ X.A (handleBy (.ref a) X.env []) _ _ _
      refine wpAny_handleBy_nil ?_
      obtain ⟨k1, k2, k3, oe, vs, T, oT, ts', he, hz, hd, h1, hr⟩ := id fl3
      unfold PySem.passOn
      refine wpAny_bind (wpAny_field he hd h1 ?_)
      rw [if_neg (show ¬ ((Value.ref T == Value.none) = true) from by simp)]
      have fin : wpAny (model X.prog X.w) X.A (setFlight (.ref a) X.env.frame) (fun _ s4 => wpAny (model X.prog X.w) X.A (throw (.ref a) : Sem Flow) (SP X pins D) X.xe s4) X.xe { s' with heap := h3 } := by
        rw [hf]
        refine HandSPX.setFlight_upZ (L2H.flyingZ_imp (fun o z => z.zc) fl3) fun h4 hh4 up4 => wpAny_throw (tk _ _ ?_)
        exact ⟨a, B, sI, pins, σ', H', cls, d, rfl, J, nb, (up.trans up3).trans up4, .inr (.inr (by rw [hs]; exact hh4)), na, os, ag, hno rfl⟩
      first
        | exact wpAny_bind (wpAny_pure (wpAny_bind fin))
        | exact wpAny_bind fin
  · cases f with
    | next =>
      obtain ⟨σ', H', J', q⟩ := hsp
      exact wpAny_execs_nil ⟨σ', H', J'.ofTry ok, q⟩
    | brk =>
      obtain ⟨σ', H', J', q⟩ := hsp
      exact ⟨σ', H', J'.ofTry ok, q⟩
    | cont =>
      obtain ⟨σ', H', J', q⟩ := hsp
      exact ⟨σ', H', J'.ofTry ok, q⟩
    | ret u =>
      obtain ⟨v, σ', H', J', r, q⟩ := hsp
      exact ⟨v, σ', H', J'.ofTry ok, r, q⟩
end
end L3

/-! ## L9A -/
set_option Elab.async false
set_option linter.all false
set_option maxRecDepth 100000
set_option maxHeartbeats 4000000
/-! Errors with attributes, made while another one is handled. -/
namespace L3
open PySem PySem.Spec PyProof.Rows L2 L2H
/-- as cxK, while p's object is handled -/
def cxKH (CX : CXT) (P : Program) (w : World) (K : PySem.W.Frag) (mg : Str → Option Value) (base : Heap) (N : List Str) (qual : Str) (scope : Scope) (f : Addr) (cd : Value) (cc : Addr) (A : Around) (outer : List Env) (s : Shared) (H : Hp) (E : XK) (p : Addr × Obj) : Cx :=
  { cxK CX P w K mg base N qual scope f cd cc A outer s H E with calm := false, pn := [p] }
section
variable {CX : CXT} {P : Program} {w : World} {K : PySem.W.Frag} {mg : Str → Option Value} {base : Heap} {N ps : List Str} {qual : Str} {scope : Scope} {f cc : Addr} {cd : Value} {A : Around} {outer : List Env} {s : Shared} {H : Hp} {E : XK} {us : List Value} {vs : List V}
theorem inv_startKH {cl ov : Value} {cld : Option Addr} {csl : Array (Option Value)} {h1 : Heap} {tk : Nat} (S : ScK N ps scope) {p : Addr × Obj} (hpin : PinOk outer H s p) (e0 : Env0 P w K mg base A outer s H) (hl : vs.length = ps.length) (r : Vals vs us) (hc : K.lookup cc = some ⟨cl, cld, .cell (some ov), csl⟩)
    (ns : h1.Ns s.heap.objs.size (fun x => (ps.zip us).reverse.lookup x)) (hk : ∀ b o, s.heap.get? b = some o → h1.get? b = some o) : Inv (cxKH CX P w K mg base N qual scope f cd cc A outer s H E p) [] (start N vs) H { s with heap := h1, toks := tk } := by
  have noA : ∀ b : Addr, b ∉ (cxKH CX P w K mg base N qual scope f cd cc A outer s H E p).ex := fun b z => absurd (show b ∈ ([] : List Addr) from z) (by simp)
  have cb := e0.mod.kin _ _ hc
  have cz := e0.bs _ _ cb
  refine ⟨⟨e0.mod, S.kind, rfl, rfl, Nat.le_refl _, fun y z c h1 h2 => ?_, fun y hy => ?_, fun y c q h => (nomatch q), (fun z => Bool.noConfusion (show false = true from z)), Around.frames_deeper e0.frames, .inr ⟨rfl, rfl⟩, fun b z => absurd z (noA b), e0.bs, e0.bsz, fun b _ _ => noA b, fun b z => absurd z (noA b), e0.funs, e0.frf⟩,
    rfl, e0.bare, Un.kept hk, ⟨_, ns, fun i y v h1 h2 h3 => ?_⟩, fun y c h => ?_, e0.hok.fresh (Nat.le_refl _), fun y c h => ?_, fun q hq => ?_, e0.hok.kept hk, ?_⟩
  · exact (look1 h1).1.trans (look1 h2).1.symm
  · have hy : scope.names.lookup y = some .cell ∨ scope.names.lookup y = some .free := hy
    rcases hy with hy | hy
    · exact absurd rfl (S.own _ (PySem.mem_of_lookup hy))
    · have e := S.fre _ (PySem.mem_of_lookup hy) rfl
      dsimp only at e
      subst e
      exact ⟨cc, rfl⟩
  · have hi : i < vs.length := by
      unfold L2.start at h2
      by_cases hi : i < vs.length
      · exact hi
      · rw [List.getElem?_append_right (by simpa using hi)] at h2
        rw [List.getElem?_replicate] at h2
        split at h2 <;> cases h2
    have ha : vs[i]? = some v := by
      unfold L2.start at h2
      rw [List.getElem?_append_left (by simpa using hi), List.getElem?_map] at h2
      cases e : vs[i]? with
      | none => rw [e] at h2; cases h2
      | some a => rw [e] at h2; cases h2; rfl
    obtain ⟨u, hu, rv⟩ := r.get ha
    have hp : ps[i]? = some y := by
      rw [← S.pre, List.getElem?_take_of_lt (by omega)]; exact h1
    have ndP : ps.Nodup := by rw [← S.pre]; exact S.nd.sublist (List.take_sublist _ _)
    exact ⟨u, rv, .inl ⟨S.par y (List.mem_of_getElem? hp), rev_get ndP hp hu⟩⟩
  · obtain ⟨rfl, rfl⟩ := look1 h
    exact ⟨some ov, _, hk _ _ cz.1, rfl⟩
  · obtain ⟨rfl, rfl⟩ := look1 h
    exact cz.2
  · have eq : q = p := by simpa using (show q ∈ [p] ++ ([] : List (Addr × Obj)) from hq)
    rw [eq]
    exact ⟨hk p.1 p.2 hpin.get, hpin.free, Nat.ne_of_lt (Heap.lt_size hpin.get), hpin.nofs, hpin.nocell⟩
  · unfold L2.start
    show _ = N.length
    have hpl : ps.length ≤ N.length := by have := congrArg List.length S.pre; rw [List.length_take] at this; omega
    rw [List.length_append, List.length_map, List.length_replicate]
    omega
end
section
variable {CX : CXT} {P : Program} {w : World} {K : PySem.W.Frag} {mg : Str → Option Value} {base : Heap} {N : List Str} {qual : Str} {scope : Scope} {f cc C a : Addr} {cd : Value} {A : Around} {outer : List Env} {s : Shared} {H0 H : Hp} {E : XK} {σ : L2.St} {x0 m : Str} {body : List Stmt} {p0 p1 p2 p3 p4 : Pos} {j : Nat} {oc : Value} {od : Option Addr} {osl : Array (Option Value)} {fd : FuncData} {ar : Arg} {E' : Value → Shared → Prop}
theorem super_callH {p : Addr × Obj} {s1 : Shared} {Q : Value → Shared → Prop} (T : SupK P K mg f cc C cd x0) (I : Inv (cxKH CX P w K mg base N qual scope f cd cc A outer s H0 E p) [] σ H s1) (lk : K.lookup f = some ⟨oc, od, .func fd, osl⟩) (hp : (fd.params.posonlyargs ++ fd.params.args).head? = some ar) (ha0 : ar.arg = x0)
    (hN : N[0]? = some x0) (h0 : σ[0]? = some (some (.ref a))) (hl : scope.names.lookup x0 = some .local) (hg : scope.names.lookup ("super" : Str) = some .globalImplicit) (hfc : scope.names.lookup ("__class__" : Str) = some .free) (hk : scope.kind = .function) (he : H a = some (exo a C none))
    {pl : Sem Bool} (hev : ∀ cd, eval (.Call (.Attribute (.Call (.Name "super" p0) [] [] p1) "__init__" p2) [.Constant (.str m) j p3] [] p4) (PySem.W.ksEnv qual scope s.heap.objs.size f cd cc) = (do
      let ov ← attributeBase (.Call (.Name "super" p0) [] [] p1) "__init__" (PySem.W.ksEnv qual scope s.heap.objs.size f cd cc) (eval (.Call (.Name "super" p0) [] [] p1) (PySem.W.ksEnv qual scope s.heap.objs.size f cd cc))
      standAt p2.atName
      let (g, first) ← holding [ov] (getMethod ov "__init__" pl)
      callWith p4 g first (backTo p4 (starEach [.Constant (.str m) j p3] (PySem.W.ksEnv qual scope s.heap.objs.size f cd cc))) []))
    (hQ : ∀ v s', Inv (cxKH CX P w K mg base N qual scope f cd cc A outer s H0 E p) [] σ H s' → Q v s') :
    PySem.wpAt (model P w) (A.deeper (PySem.W.ksEnv qual scope s.heap.objs.size f cd cc)) (.func body (PySem.W.ksEnv qual scope s.heap.objs.size f cd cc)) (eval (.Call (.Attribute (.Call (.Name "super" p0) [] [] p1) "__init__" p2) [.Constant (.str m) j p3] [] p4) (PySem.W.ksEnv qual scope s.heap.objs.size f cd cc)) Q E' s1 := by
  obtain ⟨cl, cld, csl, hcell⟩ := T.cell
  obtain ⟨cda, ccl, cdd, vs, ccs, file, tf, rfl, hcode, hvs, hfile⟩ := T.code
  obtain ⟨cdD, hD⟩ := T.cls
  have KX : K.In s1.heap := I.kIn
  obtain ⟨mm, hns, hl0⟩ := I.loc
  obtain ⟨t1, hx⟩ := exo_at I.hok he
  obtain ⟨oD, hD1, hD2⟩ : ∃ oD, s1.heap.get? C = some oD ∧ oD.data = .cls cdD := by
    unfold PySem.W.clsIn at hD
    split at hD
    · rename_i c d cd' sl ho
      cases hD
      exact ⟨_, KX _ _ ho, rfl⟩
    · cases hD
  subst ha0
  have hself : mm ar.arg = some (.ref a) := by
    obtain ⟨u, ru, lo⟩ := hl0 0 ar.arg (.ref a) hN h0 (.inl hl)
    cases ru
    rcases lo with ⟨_, q⟩ | ⟨hk2, c, hc2, _⟩
    · exact q
    · have e := (look1 hc2).1
      rw [e] at hl
      rw [hfc] at hl
      cases hl
  obtain ⟨hh, gg, dd, tk, os⟩ := s1
  have gl : Gl (cxKH CX P w K mg base N qual scope f (.ref cda) cc A outer s H0 E p) "super" := hg
  refine ks_wpAt_MethodCall (pl := pl) ?_ (hev _)
  refine ks_wpAt_super_base (env := PySem.W.ksEnv qual scope s.heap.objs.size f (.ref cda) cc) hg hfc (by decide) rfl (KX _ _ lk) rfl hp rfl (KX _ _ hcode) rfl hvs hfile T.top ?_
  obtain ⟨mb, hb1, hb2⟩ := I.mod.blt
  refine PySem.W.ks_loadName_global hk hg (Calls.loadGlobal_builtin (env := PySem.W.ksEnv qual scope s.heap.objs.size f (.ref cda) cc) (I.mod.glob.keeps I.bk) T.ms (hb1.keeps I.bk) ((hb2 "super" (by decide)).trans (show bootBuiltins "super" = some (.type "super") by decide +kernel)) ⟨rfl, ?_⟩)
  refine wpAny_loadName_free hk hfc rfl ⟨_, KX _ _ hcell, rfl⟩ ?_
  refine wpAny_loadName_local hk hl hns hself ?_
  refine ks_wpAny_isType_cls hD1 hD2 ⟨rfl, ?_⟩
  refine ks_wpAny_call_super hD1 hD2 hx rfl (fun c e => nomatch e) (PySem.W.looks_mroIn KX T.sub) (fun h1 e k1 => ?_)
  have KX1 : K.In h1 := KX.keeps k1
  have I1 : Inv (cxKH CX P w K mg base N qual scope f (.ref cda) cc A outer s H0 E p) [] σ H ⟨h1, gg, dd, tk, os⟩ := I.kept (t' := tk) k1
  have hx1 := k1 _ _ hx
  have J1 : PySem.W.InstAt h1 a _ C none := ⟨hx1, rfl, rfl, trivial⟩
  have up := T.up
  unfold PySem.W.ks_superIn at up
  rw [hD] at up
  refine PySem.W.kxs_getMethod PySem.W.kxs_ValueError e (PySem.W.looks_opaque KX1 T.opq) (l₀ := cdD.mro) (fun A Q E s k q => wpAny_bind ((PySem.W.looks_clsIn KX1 hD) A _ E s k (wpAny_pure q))) rfl KX1 up (J1.type.andThen (PySem.W.looks_subIn KX1 T.ve)) (PySem.W.ks_ne KX1 J1 hD) (by decide) ?_
  have k2 : ∀ b o, h1.get? b = some o → (h1.push (PySem.W.kxs_mw "ValueError.__init__" a)).get? b = some o := fun b o q => Heap.get?_push_of_some _ q
  have hu : (h1.push (PySem.W.kxs_mw "ValueError.__init__" a)).get? h1.objs.size = some (PySem.W.kxs_mw "ValueError.__init__" a) := Heap.get?_push_size _ rfl
  have I2 : Inv (cxKH CX P w K mg base N qual scope f (.ref cda) cc A outer s H0 E p) [] σ H ⟨h1.push (PySem.W.kxs_mw "ValueError.__init__" a), gg, dd, tk + 1 + 1, os⟩ := I1.kept (t' := tk + 1 + 1) k2
  have hx2 := k2 _ _ hx1
  refine PySem.W.kxs_callWith (i := "ValueError.__init__") (u := h1.objs.size) (x := a) rfl ?_
  refine Calls.evalArgs_plain (x := eval (.Constant (.str m) j p3) (PySem.W.ksEnv qual scope s.heap.objs.size f (.ref cda) cc)) (rest := []) ?_
  refine Calls.spliced_cons (Calls.Constant_str (Calls.spliced_nil ⟨hu, ?_⟩))
  obtain ⟨nm, q, Nn, bs, bm, sn, sub, ab, col, dn, k0, k1', k2', k3, k5, hC, hbm⟩ := T.oex.cls
  have hC2 := I2.kIn _ _ hC
  refine wpAny_call (codeAny_of_tree ?_)
  show wpAny _ (A.deeper (PySem.W.ksEnv qual scope s.heap.objs.size f (.ref cda) cc)).in1 (callAny (.ref h1.objs.size) ⟨[.str m (tk + 1)], []⟩) _ _ _
  simp only [callAny]
  refine wpAny_bind (wpAny_load hu ?_)
  simp only [PySem.W.kxs_mw, show (Value.type "method-wrapper" == Value.type "method" || Value.type "method-wrapper" == Value.type "builtin_function_or_method" || Value.type "method-wrapper" == Value.type "method-wrapper") = true by decide, if_true]
  refine PySem.W.KFB.if_so (by decide) ?_
  refine wpAny_bind (PySem.W.check_bound_init F.excBase_ValueError.toExcCallFacts hC2 hx2 rfl ?_)
  refine wpAny_bind (wpAny_pure (wpAny_pure ?_))
  refine ⟨plainId_quiet F.excBase_ValueError.init.plain _, codeAny_builtin F.excBase_ValueError.initEntry ?_⟩
  refine PySem.W.exc_init_tree (cls := .ref C) (t0 := t1) (dv := none) (c2 := .none) (c3 := .none) (b4 := .bool false) hx2 (by show 1 ≤ sizeLine; decide) fun h' kp e' t' => ?_
  have J := I2.write (t' := tk + 1 + 1) (x := a) (e := a) (o := exo a C none) (by rw [he]; exact True.intro) (.inl rfl) kp ⟨_, e'⟩ (exo_ok e')
  have eu : upd H a (exo a C none) = H := by
    funext b
    by_cases hb : b = a
    · rw [hb, upd_same, he]
    · rw [upd_ne hb]
  rw [eu] at J
  exact hQ _ _ J
theorem fn_superH {dV kV doc pm ct : Value} {an : Option Addr} {name : Str} {params : Arguments} {rest : List Stmt} {p5 : Pos} {ps : List Str} {k : Nat} {sp : Sp} {pl : Sem Bool}
    (lk : K.lookup f = some ⟨oc, od, .func (PySem.W.ksFn name qual params (.Expr (.Call (.Attribute (.Call (.Name "super" p0) [] [] p1) "__init__" p2) [.Constant (.str m) j p3] [] p4) p5 :: rest) scope dV kV doc pm an cd ct cc), osl⟩) (hcd : PySem.W.codeIn K cd qual = true)
    (S : ScK N ps scope) (T : SupK P K mg f cc C cd x0) (hp : (params.posonlyargs ++ params.args).head? = some ar) (ha0 : ar.arg = x0) (hN : N[0]? = some x0) (hl : scope.names.lookup x0 = some .local) (hg : scope.names.lookup ("super" : Str) = some .globalImplicit) (hfc : scope.names.lookup ("__class__" : Str) = some .free)
    (hev : ∀ (L : Addr) cd, eval (.Call (.Attribute (.Call (.Name "super" p0) [] [] p1) "__init__" p2) [.Constant (.str m) j p3] [] p4) (PySem.W.ksEnv qual scope L f cd cc) = (do
      let ov ← attributeBase (.Call (.Name "super" p0) [] [] p1) "__init__" (PySem.W.ksEnv qual scope L f cd cc) (eval (.Call (.Name "super" p0) [] [] p1) (PySem.W.ksEnv qual scope L f cd cc))
      standAt p2.atName
      let (g, first) ← holding [ov] (getMethod ov "__init__" pl)
      callWith p4 g first (backTo p4 (starEach [.Constant (.str m) j p3] (PySem.W.ksEnv qual scope L f cd cc))) []))
    (hsw : ∀ (L : Addr), swapsWith (.Call (.Attribute (.Call (.Name "super" p0) [] [] p1) "__init__" p2) [.Constant (.str m) j p3] [] p4) none p5.line (PySem.W.ksEnv qual scope L f cd cc) = pure false) (hin : ∀ (L : Addr), interactive (PySem.W.ksEnv qual scope L f cd cc) = false)
    (len : ∀ vs H Q E, sp vs H Q E → vs.length = ps.length)
    (hbody : ∀ (A : Around) (outer : List Env) (s : Shared) (H : Hp) (vs : List V) (Q : VK) (E : XK) (p : Addr × Obj), Hot1 A p → RoomH k (A.deeper (PySem.W.ksEnv qual scope s.heap.objs.size f cd cc)) → sp vs H Q E →
      ∃ a t, (L2.start N vs)[0]? = some (some (.ref a)) ∧ H a = some (exo a C none) ∧ PSs (cxKH CX P w K mg base N qual scope f cd cc A outer s H E p) rest t ∧ t { nx := fun _ H' => Q .non H', rt := Q } (L2.start N vs) H) :
    FnH P w K mg base CX (k + 1) f (PySem.W.ksFn name qual params (.Expr (.Call (.Attribute (.Call (.Name "super" p0) [] [] p1) "__init__" p2) [.Constant (.str m) j p3] [] p4) p5 :: rest) scope dV kV doc pm an cd ct cc) ps sp := by
  refine ⟨len, fun A outer s H args us vs Q E p hr hot hpin e0 hb r hsp => ?_⟩
  have hlen := len _ _ _ _ hsp
  have KX : K.In s.heap := e0.mod.kin.keeps fun b o e => (e0.bs b o e).1
  have lim : s.heap.NoLimit := e0.mod.nolimit.keeps fun b o e => (e0.bs b o e).1
  obtain ⟨cl, cld, csl, hcell⟩ := T.cell
  obtain ⟨a, t, h0, ha, ht, hq⟩ := hbody A outer s H vs Q E p hot (hr.deeper _) hsp
  refine ks_codeAny_call_defAt hr.depth (KX _ _ lk) rfl lim (PySem.W.codeRec_of KX hcd) rfl hb S.own (fun y hy => S.par _ (List.of_mem_zip (show (y.1, y.2) ∈ ps.zip us from hy)).1) (fun h1 ns hk => ?_) S.co S.gen S.kind
  have I : Inv (cxKH CX P w K mg base N qual scope f cd cc A outer s H E p) [] (L2.start N vs) H { s with heap := h1, toks := s.toks + (ps.zip us).length } := inv_startKH S hpin e0 hlen r hcell ns hk
  refine ks_wpAt_execs_cons ?_
  refine ks_wpAt_Expr_any ?_ (hin _) (hsw _)
  refine super_callH (ar := ar) T I lk hp ha0 hN h0 hl hg hfc S.kind ha (hev _) fun v s2 I2 => ?_
  refine wpAt_of_wpAny ?_
  refine wpAny_mono (ht.run [] s2 (L2.start N vs) H _ I2 hq) (fun fl s' hs => ?_) fun e s' hs => hs
  have fin : ∀ {σ' : L2.St} {H' : Hp} {v : V} {u : Value}, Inv (cxKH CX P w K mg base N qual scope f cd cc A outer s H E p) [] σ' H' s' → L2.RelV v u → Q v H' → CE outer P w H s Q u s' :=
    fun {σ' H' v u} J rv q => ⟨v, H', J.os, J.bare, J.base, J.hok, rv, q⟩
  cases fl with
  | ret u =>
    obtain ⟨v, σ', H', J, rv, q⟩ := hs
    exact fin J rv q
  | next =>
    obtain ⟨σ', H', J, q⟩ := hs
    exact fin (v := V.non) (u := Value.none) J rfl q
  | brk =>
    obtain ⟨_, _, _, q⟩ := hs
    exact False.elim q
  | cont =>
    obtain ⟨_, _, _, q⟩ := hs
    exact False.elim q
end
section
variable {CX : CXT} {P : Program} {w : World} {K : PySem.W.Frag} {mg : Str → Option Value} {base : Heap} {N : List Str} {qual : Str} {scope : Scope} {f cc C : Addr} {cd : Value} {x0 m : Str} {p0 p1 p2 p3 p4 p5 : Pos} {j : Nat} {oc : Value} {od : Option Addr} {osl : Array (Option Value)} {ar : Arg}
/-- self.a = a, .. behind super().__init__(..) -/
theorem fn_initH {dV kV doc pm ct : Value} {an : Option Addr} {name : Str} {params : Arguments} {rest : List Stmt} {names : List Str} {k : Nat} {pl : Sem Bool}
    (lk : K.lookup f = some ⟨oc, od, .func (PySem.W.ksFn name qual params (.Expr (.Call (.Attribute (.Call (.Name "super" p0) [] [] p1) "__init__" p2) [.Constant (.str m) j p3] [] p4) p5 :: rest) scope dV kV doc pm an cd ct cc), osl⟩) (hcd : PySem.W.codeIn K cd qual = true)
    (S : ScK (x0 :: names) (x0 :: names) scope) (T : SupK P K mg f cc C cd x0) (hp : (params.posonlyargs ++ params.args).head? = some ar) (ha0 : ar.arg = x0) (hl : scope.names.lookup x0 = some .local) (hg : scope.names.lookup ("super" : Str) = some .globalImplicit) (hfc : scope.names.lookup ("__class__" : Str) = some .free)
    (hev : ∀ (L : Addr) cd, eval (.Call (.Attribute (.Call (.Name "super" p0) [] [] p1) "__init__" p2) [.Constant (.str m) j p3] [] p4) (PySem.W.ksEnv qual scope L f cd cc) = (do
      let ov ← attributeBase (.Call (.Name "super" p0) [] [] p1) "__init__" (PySem.W.ksEnv qual scope L f cd cc) (eval (.Call (.Name "super" p0) [] [] p1) (PySem.W.ksEnv qual scope L f cd cc))
      standAt p2.atName
      let (g, first) ← holding [ov] (getMethod ov "__init__" pl)
      callWith p4 g first (backTo p4 (starEach [.Constant (.str m) j p3] (PySem.W.ksEnv qual scope L f cd cc))) []))
    (hsw : ∀ (L : Addr), swapsWith (.Call (.Attribute (.Call (.Name "super" p0) [] [] p1) "__init__" p2) [.Constant (.str m) j p3] [] p4) none p5.line (PySem.W.ksEnv qual scope L f cd cc) = pure false) (hin : ∀ (L : Addr), interactive (PySem.W.ksEnv qual scope L f cd cc) = false)
    (hno : ∀ n ∈ names, PySem.W.findIn K (.ref C) n = some none) (n1 : 1 ≤ names.length) (n2 : names.length ≤ 100)
    (hst : ∀ (A : Around) (outer : List Env) (s : Shared) (H : Hp) (E : XK) (p : Addr × Obj), PSs (cxKH CX P w K mg base (x0 :: names) qual scope f cd cc A outer s H E p) rest (tStores K (names.zip (List.range' 1 names.length)))) :
    FnH P w K mg base CX (k + 1) f (PySem.W.ksFn name qual params (.Expr (.Call (.Attribute (.Call (.Name "super" p0) [] [] p1) "__init__" p2) [.Constant (.str m) j p3] [] p4) p5 :: rest) scope dV kV doc pm an cd ct cc) (x0 :: names) (spI C names) := by
  refine fn_superH (N := x0 :: names) lk hcd S T hp ha0 rfl hl hg hfc hev hsw hin (fun vs H Q E h => ?_) fun A outer s H vs Q E p hot hr h => ?_
  · obtain ⟨a, ws, rfl, e, _⟩ := h
    rw [List.length_cons, List.length_cons, e]
  · obtain ⟨a, ws, rfl, e, ha, hq⟩ := h
    have st0 : L2.start (x0 :: names) (.ref a :: ws) = some (.ref a) :: ws.map some := by
      unfold L2.start
      rw [List.map_cons, List.length_cons, List.length_cons, e, Nat.sub_self, List.replicate_zero, List.append_nil]
    refine ⟨a, _, by rw [st0]; rfl, ha, hst A outer s H E p, ?_⟩
    have en : names.length = ws.length := e.symm
    rw [← zip3_fst 1 en]
    have z := zip3_map 1 en
    have mm : ∀ q ∈ names.zip ((List.range' 1 names.length).zip ws), PySem.W.findIn K (.ref C) q.1 = some none ∧ (L2.start (x0 :: names) (.ref a :: ws))[q.2.1]? = some (some q.2.2) := fun q hq => by
      obtain ⟨m1, m2⟩ := zip3_mem (σ := L2.start (x0 :: names) (.ref a :: ws)) 1 q (fun j v ej => by
        rw [st0, Nat.add_comm, List.getElem?_cons_succ, List.getElem?_map, ej]
        rfl) hq
      exact ⟨hno _ m1, m2⟩
    cases hz : names.zip ((List.range' 1 names.length).zip ws) with
    | nil =>
      have := congrArg List.length hz
      rw [List.length_zip, List.length_zip, List.length_range', List.length_nil] at this
      omega
    | cons p l =>
      rw [hz] at mm z
      have hlen : l.length ≤ 800 := by
        have := congrArg List.length hz
        rw [List.length_zip, List.length_zip, List.length_range', List.length_cons] at this
        omega
      refine stores_new T.oex (by rw [st0]; rfl) p l H mm ha hlen fun dx e1 e2 => ?_
      rw [z]
      exact hq dx e1 e2
end
end L3

/-! ## L9B -/
set_option Elab.async false
set_option linter.all false
set_option maxRecDepth 100000
set_option maxHeartbeats 2000000
/-! try: .. except C as e: raise Z(..) from e, over data: the body's errors keep the slots. -/
namespace L3
open PySem PySem.Spec PyProof.Rows L2 L2H
structure LkS (K : PySem.W.Frag) (W : WX) (S : Hp) (μ : MH) (H : Hp) (D : Ends) (DD : Ed) (xx : EV → RE) : Prop where
  l : Lk K S μ H D DD
  ex : ∀ S' μ' H' σ' ρ' cls d C fs, OK K S' μ' H' → Stp S μ H S' μ' H' → RepE K S' σ' ρ' → XRep K S' cls d C fs → xx ρ' C fs μ' → W cls d σ' H'
theorem LkS.stp {K : PySem.W.Frag} {W : WX} {S S' H H' : Hp} {μ μ' : MH} {D : Ends} {DD : Ed} {xx : EV → RE} (l : LkS K W S μ H D DD xx) (s : Stp S μ H S' μ' H') : LkS K W S' μ' H' D DD xx :=
  ⟨l.l.stp s, fun _ _ _ _ _ _ _ _ _ k s2 e x q => l.ex _ _ _ _ _ _ _ _ _ k (s.trans s2) e x q⟩
/-- a statement whose errors tell the slots too -/
abbrev RSS := (EV → RE) → RS
def upSS (K : PySem.W.Frag) (W : WX) (f : RSS) : TS := fun D σ H => ∃ S μ ρ DD xx, OK K S μ H ∧ RepE K S σ ρ ∧ f xx DD ρ μ ∧ LkS K W S μ H D DD xx
abbrev DSS (X : Cx) (W : WX) (s : Stmt) (f : RSS) : Prop := PS X s (upSS X.K W f)
abbrev DSsS (X : Cx) (W : WX) (s : List Stmt) (f : RSS) : Prop := PSs X s (upSS X.K W f)
def rDropS (s : GX) (fa : RA) : RSS := fun xx D ρ μ => fa ρ μ fun ds μ1 => s ds μ1 (fun _ μ2 => D.nx ρ μ2) (xx ρ)
section
variable {X : Cx} {W : WX} {k : Nat} {x : Str} {s : GX} {e : Expr} {es : List Expr} {fa : RA} {a : Stmt} {f : RSS} {p cpos pos : Pos}
theorem dsss_one (h1 : DSS X W a f) : DSsS X W [a] f := pss_one h1
theorem dss_callN (F : FnGXN X.prog X.w X.K X.mg X.base k x s) (tk : L2N.Takes X W) (hr : Room k X.A) (hg : Gl X x) (ha : DA X (e :: es) fa) (hdb : (x == ("__debug__" : Str)) = false := by decide)
    (he : starEach (e :: es) X.env = (false, eval e X.env) :: starEach es X.env := by rfl) (hpl : (backTo cpos (starEach es X.env)).any (·.1) = false := by rfl) (hs : swapsWith (.Call (.Name x p) (e :: es) [] cpos) none pos.line X.env = pure false := by rfl) :
    DSS X W (.Expr (.Call (.Name x p) (e :: es) [] cpos) pos) (rDropS s fa) := by
  obtain ⟨f, fd, ps, a, b, c, d⟩ := F.ex
  refine ps_imp (ps_expr (pe_callS a hr hg b c d (fun σ => L2N.passAt tk σ) ha hdb he hpl) hs) fun D σ H ⟨S, μ, ρ, DD, xx, k, e, h, l⟩ => ?_
  refine ⟨S, μ, ρ, _, k, e, h, fun S1 μ1 H1 vs ds k1 s1 r1 h1 => ?_⟩
  exact ⟨S1, μ1, ds, _, _, k1, r1, h1, fun S3 μ3 H3 v d k3 s3 r3 h3 => l.l.nx S3 μ3 H3 σ ρ k3 (s1.trans s3) (e.mono (s1.trans s3).same) h3, fun S3 μ3 H3 cls dd C fs k3 s3 x3 h3 => l.ex S3 μ3 H3 σ ρ cls dd C fs k3 (s1.trans s3) (e.mono (s1.trans s3).same) x3 h3⟩
theorem dss_for {tg iter : Expr} {body : List Stmt} {fi : RI} {gg : RG} {fb : RSS} {vs : List Nat} (hi : DI X tg iter fi) (hg : DG X tg gg vs) (hb : DSsS X W body fb) (hp : PassesOwn (model X.prog X.w) X.A X.env X.xe) (hc : X.calm = true := by rfl)
    (hs : ∀ x, foldedSetIterable iter X.env x = pure x := by intro _; rfl) : DSS X W (.For tg iter body [] pos) (fun xx => rFor fi gg (fb xx)) :=
  ps_imp (ps_for hp hc hi hg hb hs) fun D σ H ⟨S, μ, ρ, DD, xx, k, e, h, l⟩ => by
    refine ⟨S, μ, ρ, _, k, e, h, fun S1 μ1 H1 J ds C k1 s1 it q1 => ?_⟩
    have l1 := l.stp s1
    let Goes := fun (n : Nat) (σ' : L2.St) (H' : Hp) => ∃ S' μ' ρ', OK X.K S' μ' H' ∧ Stp S1 μ1 H1 S' μ' H' ∧ RepE X.K S' σ' ρ' ∧ forD gg (fb xx) C DD (ds.drop n) ρ' μ'
    refine ⟨fun i m σ' H' => m = ds.length - i ∧ i ≤ ds.length ∧ Goes i σ' H', ⟨_, rfl, Nat.zero_le _, S1, μ1, ρ, k1, .refl, e.mono s1.same, by rw [List.drop_zero]; exact q1⟩, ?_⟩
    rintro i m σ2 H2 ⟨rfl, hi, S2, μ2, ρ2, k2, s2, e2, q2⟩
    have io := it S2 μ2 H2 k2 s2.same (forD_c q2) i
    by_cases hlt : i < ds.length
    · have ed : ds.drop i = ds[i] :: ds.drop (i + 1) := List.drop_eq_getElem_cons hlt
      rw [ed] at q2
      obtain ⟨hgo, hy⟩ := io.1 _ (List.getElem?_eq_getElem hlt)
      refine .inr ⟨hgo, Goes (i + 1), fun σ' H' z => ⟨ds.length - (i + 1), by omega, rfl, hlt, z⟩, fun x H' y => ?_⟩
      obtain ⟨S3, k3, s3, r3⟩ := hy x H' y
      refine ⟨S3, μ2, ρ2, _, _, k3, e2.mono s3.same, r3, q2.2, fun S4 μ4 H4 σ4 ρ4 k4 s4 e4 _ q4 => ?_⟩
      have s14 := (s2.trans s3).trans s4
      have l4 := l1.stp s14
      exact ⟨S4, μ4, ρ4, _, xx, k4, e4, q4, ⟨fun S5 μ5 H5 σ5 ρ5 k5 s5 e5 q5 => ⟨S5, μ5, ρ5, k5, s14.trans s5, e5, q5⟩, l4.l.rt, l4.l.nx, fun S5 μ5 H5 σ5 ρ5 k5 s5 e5 q5 => ⟨S5, μ5, ρ5, k5, s14.trans s5, e5, q5⟩⟩, l4.ex⟩
    · have ei : i = ds.length := by omega
      subst ei
      rw [List.drop_length] at q2
      exact .inl ⟨io.2 rfl, (l1.stp s2).l.nx S2 μ2 H2 σ2 ρ2 k2 .refl e2 q2.2⟩
end
/-- an error with attributes, made while another one is handled -/
structure ExcAH (P : Program) (w : World) (K : PySem.W.Frag) (mg : Str → Option Value) (base : Heap) (k : Nat) (x : Str) (C : Addr) (names : List Str) : Prop where
  ex : ∃ fI fd ps, OexC K C ∧ PySem.W.findIn K (.ref C) "__init__" = some (some (.ref fI)) ∧ PySem.W.typeIn K (.ref fI) = some (.type "function") ∧ FnH P w K mg base CX0 k fI fd ps (spI C names) ∧ Binds K fd ps [] ∧ mg x = some (.ref C)
/-- from the arguments to the error that is made -/
theorem mkO_made {K : PySem.W.Frag} {C : Addr} {names : List Str} {fa : RA} {E : XK} {S H : Hp} {μ : MH} {σ : L2.St} {ρ : EV} {re : RE} (n1 : names ≠ []) (n2 : names.length ≤ 1000) (k : OK K S μ H) (e : RepE K S σ ρ) (h : fa ρ μ fun ds μ1 => ds.length = names.length ∧ re C (names.zip ds).reverse μ1) (l : PstX K S μ H re E) :
    tMkO C (spI C names) [] (upA K fa) σ H E := by
  refine ⟨S, μ, ρ, _, k, e, h, fun S1 μ1 H1 vs ds k1 s1 r1 h1 => ?_⟩
  obtain ⟨hl, h1⟩ := h1
  have lv : vs.length = names.length := by rw [r1.length]; exact hl
  refine ⟨by omega, fun a na => ⟨a, vs, by rw [List.append_nil], lv, upd_same, fun dx e1 e2 => ⟨rfl, dx, _, by rw [upd_ne e2.symm]; exact upd_same, upd_same, ?_, ?_⟩⟩⟩
  · rw [upd_ne e2] at e1
    exact e1
  · have e1 : H1 dx = none := by rw [upd_ne e2] at e1; exact e1
    have eH : upd (del (upd (upd (upd H1 a (exo a C none)) a (exo a C (some dx))) dx (exd dx (names.zip vs).reverse)) a) dx (.xd (names.zip vs).reverse) = upd H1 dx (.xd (names.zip vs).reverse) := by
      funext b
      by_cases q : b = dx
      · rw [q, upd_same, upd_same]
      · rw [upd_ne q, upd_ne q]
        by_cases q2 : b = a
        · rw [q2, del_same, na]
        · rw [del_ne q2, upd_ne q, upd_ne q2, upd_ne q2]
    rw [eH]
    obtain ⟨k2, s2⟩ := k1.alloc (o := .xd (names.zip vs).reverse) e1
    refine l _ _ _ _ _ C (names.zip ds).reverse k2 (s1.trans s2) ⟨rfl, .inr ⟨dx, _, rfl, upd_same, (repF_zip (names := names) r1).mono s2.same, fun z => ?_⟩⟩ h1
    have := congrArg List.length z
    simp at this
    rcases this with h | h
    · exact n1 h
    · rw [h] at hl
      exact n1 (List.length_eq_zero_iff.mp hl.symm)
theorem passesAt_of {X : Cx} {K : Value → Shared → Prop} {E₁ : Value → Shared → Prop} (hx : X.xe = fun e s' => wpAny (model X.prog X.w) X.A (leaving X.env e) (fun _ s'' => K e s'') E₁ s') : ∀ hd : Option Value, PassesOwnAt (model X.prog X.w) (X.A.mark hd) X.A X.env X.xe := by
  intro hd
  rw [hx]
  exact PassesOwnAt.leaving
theorem takes_lenN {X : Cx} {W : WX} (t : L2N.Takes X W) : L2N.Takes X (fun cls d σ H => σ.length = X.N.length → W cls d σ H) := fun u s' ⟨a, B, sI, pins, σ, H, cls, d, e, I, nb, up, sky, na, os, ag, w⟩ => t u s' ⟨a, B, sI, pins, σ, H, cls, d, e, I, nb, up, sky, na, os, ag, w I.len⟩
/-- try: .. except C as e: raise Z(..) from e; okc: the classes that are caught -/
def rTryHF (i : Nat) (okc : Addr → Prop) (Z : Addr) (names : List Str) (fb : RSS) (fa : RA) : RS := fun D ρ μ =>
  fb (fun ρ' C _ μ' => okc C ∧ ∀ a : Addr, fa (st ρ' i (.ref a)) μ' fun ds μ1 => ds.length = names.length ∧ D.ex Z (names.zip ds).reverse μ1) D ρ μ
section
variable {X : Cx} {W : WX} {i k : Nat} {x n z : Str} {c : Value} {Z : Addr} {names : List Str} {okc : Addr → Prop} {body : List Stmt} {fb : RSS} {fa : RA} {e : Expr} {es : List Expr} {np pos pos' p cpos cp rp : Pos}
theorem dsx_tryHF (G : ExcAH X.prog X.w X.K X.mg X.base k z Z names) (n1 : names ≠ []) (n2 : names.length ≤ 1000) (hs : X.stack = X.env :: X.outer) (hf : X.env.frame = some X.env.locals) (hN : X.N.Nodup) (hi : X.N[i]? = some n) (hln : X.env.kindOf n = some .local) (hc : Names X x c)
    (hpa : ∀ hd : Option Value, PassesOwnAt (model X.prog X.w) (X.A.mark hd) X.A X.env X.xe) (tk : L2.Takes X W) (hr : Room (k + 1) X.A) (hg : Gl X z)
    (hok : ∀ C, okc C → PySem.W.exmOne X.K (.ref C) c = some true ∧ PySem.W.subIn X.K (.ref C) (.type "BaseException") = some true ∧ PySem.W.typeIn X.K (.ref C) = some (.type "type"))
    (hb : ∀ (W : WX) (pn : List (Addr × Obj)) (xe : Value → Shared → Prop), L2N.Takes (X.tr pn xe) W → PassesOwn (model X.prog X.w) X.A X.env xe → DSsS (X.tr pn xe) W body fb)
    (ha : ∀ (a : Addr) (oe : Obj) (pn : List (Addr × Obj)) (xe : Value → Shared → Prop), DA (suiteE X a ((a, oe) :: pn) xe) (e :: es) fa) (hdb : (z == ("__debug__" : Str)) = false := by decide) (hnb : (n == ("__debug__" : Str)) = false := by decide) (hnc : (n == ("__classdict__" : Str)) = false := by decide)
    (he : starEach (e :: es) X.env = (false, eval e X.env) :: starEach es X.env := by rfl) (hpl : (backTo cpos (starEach es X.env)).any (·.1) = false := by rfl) :
    DSX X W (.Try body [.ExceptHandler (some (.Name x np)) (some n) [.Raise (some (.Call (.Name z p) (e :: es) [] cpos)) (some (.Name n cp)) rp] pos'] [] [] pos) (rTryHF i okc Z names fb fa) := by
  obtain ⟨fI, fd, ps, T, iC, tI, F1, hbn, hm⟩ := G.ex
  refine ps_imp (ps_try_asX (X := X) (c := c) (i := i) (tb := fun W => upSS X.K (fun cls d σ H => σ.length = X.N.length → W cls d σ H) fb) (Wout := W)
    (ts := fun a cls d D σ H => ∃ S μ ρ C re, cls = .ref C ∧ okc C ∧ σ[i]? = some (some (.ref a)) ∧ OK X.K S μ H ∧ RepE X.K S σ ρ ∧ (fa ρ μ fun ds μ1 => ds.length = names.length ∧ re Z (names.zip ds).reverse μ1) ∧ PstX X.K S μ H re (anyS W))
    hs hf hN hi hln hc hpa tk (fun W pn xe t => hb _ pn xe (takes_lenN t)) (fun a oe cls d pn hz hfd xe tk5 hot => ?_)) fun D σ H ⟨S, μ, ρ, DD, k, e, h, l⟩ => ?_
  · refine pss_one ⟨fun pins s σ H D I ⟨S, μ, ρ, C, re, hcl, hC, hσ, k, e, h, l⟩ => ?_⟩
    subst hcl
    obtain ⟨vs, hd⟩ := hfd
    obtain ⟨_, r1, r2⟩ := hok C hC
    have hot1 : Hot1 (suiteE X a ((a, oe) :: pn) xe).A (a, oe) := ⟨rfl, vs, hd, hz.2.2 vs hd⟩
    refine (ps_raiseHF (X := suiteE X a ((a, oe) :: pn) xe) (q := (a, oe)) (cls1 := .ref C) (C := fun σ => σ[i]? = some (some (.ref a))) hot1 List.mem_cons_self hz.1 (raises_own r1 r2) tk5
      (pmk5_oexH (CX := CX0) T iC tI F1 (roomH_mark hr _) hot hbn pass0 hg hm (ha a oe pn xe) hdb he hpl) (fun pins s σ H I hσ Q' hq => ?_)).run pins s σ H D I ⟨hσ, mkO_made n1 n2 k e h fun S' μ' H' cls d C' fs k' s' x' q' => l S' μ' H' cls d C' fs k' s' x' q' (σ.set i none)⟩
    · obtain ⟨m, hn, hl⟩ := I.loc
      obtain ⟨u, r, l⟩ := hl i n (.ref a) hi hσ (.inl hln)
      cases r
      rcases l with ⟨hk, hm⟩ | ⟨hk, c, hc, hcell⟩
      · exact wpAny_Name (wpAny_loadName_local I.ok.kind hk hn hm hq) hnb
      · rcases hk with hk | hk
        · exact wpAny_Name (wpAny_loadName_cell I.ok.kind hk hc hcell hq) hnb
        · exact wpAny_Name (wpAny_loadName_free I.ok.kind hk hc hcell hq hnc) hnb
  · refine ⟨S, μ, ρ, DD, _, k, e, h, l.l, fun S' μ' H' σ' ρ' cls d C fs k' s' e' x' q' hlen => ?_⟩
    obtain ⟨rfl, _⟩ := x'
    obtain ⟨hC, q'⟩ := q'
    exact ⟨true, (hok C hC).1, fun _ a _ => ⟨S', μ', _, C, DD.ex, rfl, hC, List.getElem?_set_self (by rw [hlen]; exact (List.getElem?_eq_some_iff.mp hi).1), k', e'.set (.ref a) i, q' a, l.ex.stp s'⟩, fun z => nomatch z⟩
end
end L3

/-! ## SP26 -/
set_option Elab.async false
set_option linter.all false
set_option maxRecDepth 100000
set_option maxHeartbeats 1000000
/-! Strokes that are none; areas. -/
namespace L3
open PySem PySem.Spec PySem.Calls PyProof.Rows L2 NM
open Ink (Q2)
/-- what a way through spots sweeps, seen from the middle, twice -/
def sweep : List Q2 → Rat
  | a :: b :: r => (a.1 * b.2 - b.1 * a.2) + sweep (b :: r)
  | _ => 0
def spx_check_stroke (Γ : CL) : GX := fun ds μ R re => (∃ s d, ds = [strD s, d] ∧ okSt big s ∧ R .non μ) ∨
  (∃ (s : Stk) (d : D), ds = [strD s, d] ∧ s.length ≤ 100000 ∧ (∀ z ∈ s, Can z ∧ Sz big z) ∧ ¬ (1 ≤ s.length ∧ s.length ≤ 12 ∧ moves s) ∧ re (Γ.gx "InvalidStroke") [("index", d)] μ) ∨
  (∃ (s : Stk) (e : D) (l : List D) (d : D), ds = [.tup (s.map numD ++ e :: l), d] ∧ (∀ z ∈ s, Can z ∧ Sz big z) ∧ numOk e ∧ isNumD e = false ∧ re (Γ.gx "InvalidStroke") [("index", d)] μ)
/-- a stroke whose area is asked: what is answered -/
def arOk (s : Stk) (R : D → Prop) : Prop := ∀ v, Can v → re v = sweep (s.map numQ) / 2 → im v = 0 → R (frD v)
def sp_area (Γ : CL) : GN := fun ds μ R => ∃ s N, ds = [strD s] ∧ okI N [s] ∧ Bt 3000 N ∧ s.head? = s.getLast? ∧ arOk s fun d => R d μ
def spx_area (Γ : CL) : GX := fun ds μ R re => (∃ s N, ds = [strD s] ∧ okI N [s] ∧ s.head? ≠ s.getLast? ∧ re (Γ.gx "OpenStroke") [] μ) ∨ (∃ d, ds = [d] ∧ spx_check_stroke Γ [d, .int 0] μ (fun _ _ => False) re)
def okTH (s : Stk) : Prop := 1 ≤ s.length ∧ s.length ≤ 6 ∧ moves s ∧ ∀ z ∈ s, Tiny z
def sp_law_strokeH (Γ : CL) : GN := fun ds μ R => ∃ (g : Addr) (n : Int) (xs : List D), ds = [.ref g, .int n] ∧ 1 ≤ n ∧ n ≤ 6 ∧ μ g = some (.lst xs) ∧ RL xs ∧ ∀ s ys, okTH s → RL ys → R (strD s) (updM μ g (.lst ys))
end L3

/-! ## RB26 -/
set_option Elab.async false
set_option linter.all false
set_option maxRecDepth 100000
set_option maxHeartbeats 4000000
namespace L3
open PySem NM L2
/-- _law_stroke(_law_d, _law_most) : 0 _law_d, 1 _law_most, 2 _law_stroke_here, 3 _law_k, 4 _law_spot_here -/
def rd_law_strokeH (Γ : CL) : RS := (rSeq (rAsg (rTup (rCons (rCl (sp_law_step Γ) (rCons (rVar 0) (rCons (rC (.int 3)) rNil))) rNil)) (rGN 2))
 (rSeq (rFor (rIRng1 (rCons (rCl (sp_law_below Γ) (rCons (rVar 0) (rCons (rVar 1) rNil))) rNil)) (rGN 3)
 (rSeq (rAsg (rIfE (rB (rOp gGt (rCl (sp_law_below Γ) (rCons (rVar 0) (rCons (rC (.int 6)) rNil))) (rC (.int 0)))) (rCl (sp_law_step Γ) (rCons (rVar 0) (rCons (rC (.int 3)) rNil))) (rCl (sp_law_spotT Γ) (rCons (rVar 0) rNil))) (rGN 4))
 (rIf (rB (rOp gNe (rVar 4) (rOp gIx (rVar 2) (rUn (gU fun i => .int (-i)) (rC (.int 1))))))
 (rAsg (rOp gAdd (rVar 2) (rTup (rCons (rVar 4) rNil))) (rGN 2))
 rNext)))
 (rRet (rVar 2))))
/-- area(stroke) : 0 stroke, 1 scale, 2 places, 3 total, 4 one, 5 other -/
def rd_area (Γ : CL) : RS := (rSeq (rDrop (rCl (sp_check_stroke Γ) (rCons (rVar 0) (rCons (rC (.int 0)) rNil))))
 (rSeq (rIf (rB (rOp gNe (rOp gIx (rVar 0) (rC (.int 0))) (rOp gIx (rVar 0) (rUn (gU fun i => .int (-i)) (rC (.int 1))))))
 rNever
 rNext)
 (rSeq (rAsg (rCl (sp_scaled Γ) (rCons (rLst (rCons (rVar 0) rNil)) rNil)) (rGTup 2 (rGCons (rGN 1) (rGCons (rGN 2) rGNil))))
 (rSeq (rAsg (rC (.int 0)) (rGN 3))
 (rSeq (rFor (rIZip (rCons (rOp gIx (rVar 2) (rC (.int 0))) (rCons (rSl (rOp gIx (rVar 2) (rC (.int 0))) (rPart (rC (.int 1))) rNoPart) rNil))) (rGTup 2 (rGCons (rGN 4) (rGCons (rGN 5) rGNil)))
 (rAug 3 (gI0 fun i j => .int (i + j)) (rOp gSub (rOp gMul (rOp gIx (rVar 4) (rC (.int 0))) (rOp gIx (rVar 5) (rC (.int 1)))) (rOp gMul (rOp gIx (rVar 5) (rC (.int 0))) (rOp gIx (rVar 4) (rC (.int 1)))))))
 (rRet (rCl (sp_ratio Γ) (rCons (rVar 3) (rCons (rOp gMul (rOp gMul (rC (.int 2)) (rVar 1)) (rVar 1)) rNil)))))))))
/-- check_stroke(stroke, index), that may raise : 0 stroke, 1 index, 2 spot, 3 e, 4 is_still, 5 one, 6 other -/
def rdx_check_stroke (Γ : CL) : RS := (rSeq (rTryHF 3 (fun C => C = Γ.gx "InvalidSpot") (Γ.gx "InvalidStroke") ["index"] (fun xx => rFor (rITup (rVar 0)) (rGN 2) (rDropS (spx_check_spot Γ) (rCons (rVar 2) rNil) xx)) (rCons (rVar 1) rNil))
 (rSeq (rAsg (rCl gAny (rCons (rLc (rIZip (rCons (rVar 0) (rCons (rSl (rVar 0) (rPart (rC (.int 1))) rNoPart) rNil))) (rGTup 2 (rGCons (rGN 5) (rGCons (rGN 6) rGNil))) rTrue (rOp gEq (rVar 5) (rVar 6)) [5, 6]) rNil)) (rGN 4))
 (rIf (rOr (rNot (rB (rChain gLe gLe (rC (.int 1)) (rCl gLen (rCons (rVar 0) rNil)) (rC c_MAX_SPOTS)))) (rB (rVar 4)))
 (rRaiseA (Γ.gx "InvalidStroke") ["index"] (rCons (rVar 1) rNil))
 rNext)))
/-- area(stroke), that may raise : 0 stroke, 1 scale, 2 places, 3 total, 4 one, 5 other -/
def rdx_area (Γ : CL) : RS := (rSeq (rDropX (rClX (spx_check_stroke Γ) (rCons (rVar 0) (rCons (rC (.int 0)) rNil))))
 (rSeq (rIf (rB (rOp gNe (rOp gIx (rVar 0) (rC (.int 0))) (rOp gIx (rVar 0) (rUn (gU fun i => .int (-i)) (rC (.int 1))))))
 (rRaise (Γ.gx "OpenStroke"))
 rNext)
 (rSeq (rAsg (rCl (sp_scaled Γ) (rCons (rLst (rCons (rVar 0) rNil)) rNil)) (rGTup 2 (rGCons (rGN 1) (rGCons (rGN 2) rGNil))))
 (rSeq (rAsg (rC (.int 0)) (rGN 3))
 (rSeq (rFor (rIZip (rCons (rOp gIx (rVar 2) (rC (.int 0))) (rCons (rSl (rOp gIx (rVar 2) (rC (.int 0))) (rPart (rC (.int 1))) rNoPart) rNil))) (rGTup 2 (rGCons (rGN 4) (rGCons (rGN 5) rGNil)))
 (rAug 3 (gI0 fun i j => .int (i + j)) (rOp gSub (rOp gMul (rOp gIx (rVar 4) (rC (.int 0))) (rOp gIx (rVar 5) (rC (.int 1)))) (rOp gMul (rOp gIx (rVar 5) (rC (.int 0))) (rOp gIx (rVar 4) (rC (.int 1)))))))
 (rRet (rCl (sp_ratio Γ) (rCons (rVar 3) (rCons (rOp gMul (rOp gMul (rC (.int 2)) (rVar 1)) (rVar 1)) rNil)))))))))
end L3

/-! ## R_k14 -/
set_option Elab.async false
set_option linter.all false
set_option maxRecDepth 100000
set_option maxHeartbeats 4000000
namespace L3.K14
open PySem NM L2
def errL : List Nat := [4, 5]
def rd_law_f1 (Γ : CL) : RS := (rSeq (rAsg (rCl (sp_law_times Γ) (rCons (rCl (sp_law_over Γ) (rCons (rOp gIx (rVar 2) (rVar 4)) rNil)) (rCons (rOp gIx (rVar 2) (rOp gAdd (rVar 4) (rC (.int 1)))) rNil))) (rGN 5))
 (rAsg (rCl (sp_law_plus Γ) (rCons (rVar 3) (rCons (rCl (sp_law_lowest Γ) (rCons (rOp gIx (rVar 5) (rC (.int 1))) (rCons (rC (.int 0)) (rCons (rOp gMul (rC (.int 2)) (rOp gIx (rVar 5) (rC (.int 2)))) rNil)))) rNil))) (rGN 3)))
def rd_law_t1 (Γ : CL) : RS := (rSeq (rAsg (rOp gIx (rLst (rCons (rTup rNil) (rCons (rTup (rCons (rTup (rCons (rC (.int 0)) (rCons (rC (.int 0)) (rCons (rC (.int 1)) rNil)))) (rCons (rTup (rCons (rC (.int 0)) (rCons (rC (.int 0)) (rCons (rC (.int 1)) rNil)))) rNil))) (rCons (rTup (rCons (rTup (rCons (rC (.int 1)) (rCons (rC (.int 0)) (rCons (rC (.int 0)) rNil)))) rNil)) rNil)))) (rCl (sp_law_below Γ) (rCons (rVar 1) (rCons (rC (.int 3)) rNil)))) (rGN 13))
 (rRet (rOp gEq (rErrOf Γ.tab lamQ (resE Γ errL) (rClX (spx_area Γ) (rCons (rVar 13) rNil))) (rTup (rCons (rC (.str "stroke")) (rCons (rC (.int 0)) rNil))))))
def rd_law_t2 (Γ : CL) : RS := (rSeq (rIf (rB (rOp gNe (rCl (sp_area Γ) (rCons (rVar 9) rNil)) (rCl (sp_law_ratio Γ) (rCons (rOp gMul (rOp gMul (rVar 12) (rOp gIx (rVar 6) (rC (.int 0)))) (rOp gIx (rVar 11) (rC (.int 0)))) (rCons (rOp gMul (rOp gIx (rVar 6) (rC (.int 1))) (rOp gIx (rVar 11) (rC (.int 1)))) rNil)))))
 (rRet (rC (.bl false)))
 rNext)
 (rd_law_t1 Γ))
def rd_law_t3 (Γ : CL) : RS := (rSeq (rAsg (rCl (sp_law_size Γ) (rCons (rOp gIx (rVar 8) (rC (.int 0))) rNil)) (rGN 11))
 (rSeq (rAsg (rIfE (rB (rOp gIx (rVar 8) (rC (.int 2)))) (rOp gSub (rC (.int 0)) (rC (.int 1))) (rC (.int 1))) (rGN 12))
 (rd_law_t2 Γ)))
def rd_law_t4 (Γ : CL) : RS := (rSeq (rAsg (rCl gTuple (rCons (rLc (rITup (rVar 2)) (rGN 10) rTrue (rCl (sp_law_carried Γ) (rCons (rVar 8) (rCons (rVar 10) rNil))) [10]) rNil)) (rGN 9))
 (rd_law_t3 Γ))
def rd_law_t5 (Γ : CL) : RS := (rSeq (rAsg (rCl (sp_law_toldT Γ) (rCons (rVar 1) rNil)) (rGN 8))
 (rd_law_t4 Γ))
def rd_law_t6 (Γ : CL) : RS := (rSeq (rIf (rAnd (rB (rOp gGt (rVar 7) (rC (.int 0)))) (rB (rOp gNe (rCl (sp_area Γ) (rCons (rOp gAdd (rSl (rVar 2) (rPart (rVar 7)) rNoPart) (rSl (rVar 2) (rPart (rC (.int 1))) (rPart (rOp gAdd (rVar 7) (rC (.int 1)))))) rNil)) (rVar 6))))
 (rRet (rC (.bl false)))
 rNext)
 (rd_law_t5 Γ))
def rd_law_t7 (Γ : CL) : RS := (rSeq (rAsg (rCl (sp_law_below Γ) (rCons (rVar 1) (rCons (rCl gLen (rCons (rVar 2) rNil)) rNil))) (rGN 7))
 (rd_law_t6 Γ))
def rd_law_t8 (Γ : CL) : RS := (rSeq (rIf (rOr (rNot (rB (rCl (sp_law_equal Γ 5) (rCons (rVar 6) (rCons (rTup (rCons (rOp gIx (rVar 3) (rC (.int 0))) (rCons (rOp gIx (rVar 3) (rC (.int 2))) rNil))) rNil))))) (rNot (rB (rCl (sp_law_equal Γ 5) (rCons (rCl (sp_area Γ) (rCons (rRev (rVar 2) (rUn (gU fun i => .int (-i)) (rC (.int 1)))) rNil)) (rCons (rTup (rCons (rOp gSub (rC (.int 0)) (rOp gIx (rVar 3) (rC (.int 0)))) (rCons (rOp gIx (rVar 3) (rC (.int 2))) rNil))) rNil))))))
 (rRet (rC (.bl false)))
 rNext)
 (rd_law_t7 Γ))
def rd_law_t9 (Γ : CL) : RS := (rSeq (rAsg (rCl (sp_area Γ) (rCons (rVar 2) rNil)) (rGN 6))
 (rd_law_t8 Γ))
def rd_law_t10 (Γ : CL) : RS := (rSeq (rFor (rIRng1 (rCons (rOp gSub (rCl gLen (rCons (rVar 2) rNil)) (rC (.int 1))) rNil)) (rGN 4)
 (rd_law_f1 Γ))
 (rd_law_t9 Γ))
def rd_law_t11 (Γ : CL) : RS := (rSeq (rAsg (rTup (rCons (rC (.int 0)) (rCons (rC (.int 0)) (rCons (rC (.int 1)) rNil)))) (rGN 3))
 (rd_law_t10 Γ))
def rd_law_t12 (Γ : CL) : RS := (rSeq (rIf (rB (rOp gNe (rOp gIx (rVar 2) (rUn (gU fun i => .int (-i)) (rC (.int 1)))) (rOp gIx (rVar 2) (rC (.int 0)))))
 (rSeq (rIf (rB (rOp gNe (rErrOf Γ.tab lamQ (resE Γ errL) (rClX (spx_area Γ) (rCons (rVar 2) rNil))) (rTup (rCons (rC (.str "open")) (rCons (rC (.int 0)) rNil)))))
 (rRet (rC (.bl false)))
 rNext)
 (rAsg (rOp gAdd (rVar 2) (rTup (rCons (rOp gIx (rVar 2) (rC (.int 0))) rNil))) (rGN 2)))
 rNext)
 (rd_law_t11 Γ))
/-- law(_law_script) : 0 _law_script, 1 _law_d, 2 _law_stroke_here, 3 _law_total, 4 _law_k, 5 _law_swept, 6 _law_found, 7 _law_at, 8 _law_told_here, 9 _law_moved, 10 _law_spot_here, 11 _law_growth, 12 _law_sign, 13 _law_bad -/
def rd_law (Γ : CL) : RS := (rSeq (rAsg (rCl (sp_law_random Γ) (rCons (rVar 0) (rCons (rC (.int 14)) rNil))) (rGN 1))
 (rSeq (rAsg (rCl (sp_law_strokeH Γ) (rCons (rVar 1) (rCons (rC (.int 6)) rNil))) (rGN 2))
 (rd_law_t12 Γ)))

end L3.K14

/-! ## D_k14 -/
set_option Elab.async false
set_option linter.all false
set_option maxRecDepth 100000
set_option maxHeartbeats 4000000
namespace L3.K14
open PySem PySem.Spec PyProof.Rows L2 NM
structure Fc (K : PySem.W.Frag) (mg : Str → Option Value) (Γ : CL) : Prop where
  f_abs : mg "abs" = none
  f_len : mg "len" = none
  f_range : mg "range" = none
  f_bool : mg "bool" = none
  f_int : mg "int" = none
  f_isinstance : mg "isinstance" = none
  f_all : mg "all" = none
  f_tuple : mg "tuple" = none
  c_MAX_SPOTS : ConstOk K mg "MAX_SPOTS" c_MAX_SPOTS
  f_any : mg "any" = none
  f_zip : mg "zip" = none
  f_list : mg "list" = none
  f_str : mg "str" = none
  ek_InvalidStroke : ErrA K (Γ.gx "InvalidStroke") (Γ.gx "CopyError") Γ.gx 4
  ek_OpenStroke : ErrA K (Γ.gx "OpenStroke") (Γ.gx "CopyError") Γ.gx 5
  x_InvalidSpot : ExcG K mg "InvalidSpot" (Γ.gx "InvalidSpot")
  gx_CopyError : mg "CopyError" = some (.ref (Γ.gx "CopyError"))
  xm_InvalidSpot : PySem.W.exmOne K (.ref (Γ.gx "InvalidSpot")) (.ref (Γ.gx "CopyError")) = some true
  x_OpenStroke : ExcG K mg "OpenStroke" (Γ.gx "OpenStroke")
  f_ValueError : mg "ValueError" = none
  gx_BadRow : mg "BadRow" = some (.ref (Γ.gx "BadRow"))
  gx_BadText : mg "BadText" = some (.ref (Γ.gx "BadText"))
  gx_Contradiction : mg "Contradiction" = some (.ref (Γ.gx "Contradiction"))
  gx_InvalidBox : mg "InvalidBox" = some (.ref (Γ.gx "InvalidBox"))
  gx_InvalidCode : mg "InvalidCode" = some (.ref (Γ.gx "InvalidCode"))
  gx_InvalidName : mg "InvalidName" = some (.ref (Γ.gx "InvalidName"))
  gx_InvalidOperation : mg "InvalidOperation" = some (.ref (Γ.gx "InvalidOperation"))
  gx_InvalidReach : mg "InvalidReach" = some (.ref (Γ.gx "InvalidReach"))
  gx_InvalidSize : mg "InvalidSize" = some (.ref (Γ.gx "InvalidSize"))
  gx_InvalidSpot : mg "InvalidSpot" = some (.ref (Γ.gx "InvalidSpot"))
  gx_InvalidStroke : mg "InvalidStroke" = some (.ref (Γ.gx "InvalidStroke"))
  gx_InvalidTimes : mg "InvalidTimes" = some (.ref (Γ.gx "InvalidTimes"))
  gx_InvalidTurn : mg "InvalidTurn" = some (.ref (Γ.gx "InvalidTurn"))
  gx_NotFree : mg "NotFree" = some (.ref (Γ.gx "NotFree"))
  gx_OpenStroke : mg "OpenStroke" = some (.ref (Γ.gx "OpenStroke"))
  gx_OutOfReach : mg "OutOfReach" = some (.ref (Γ.gx "OutOfReach"))
  gx_TooFew : mg "TooFew" = some (.ref (Γ.gx "TooFew"))
  gx_TooMany : mg "TooMany" = some (.ref (Γ.gx "TooMany"))
  gx_UnknownArm : mg "UnknownArm" = some (.ref (Γ.gx "UnknownArm"))
  gx_UnknownName : mg "UnknownName" = some (.ref (Γ.gx "UnknownName"))
theorem sc_law_random : FnScope ["_law_script", "_law_salt", "_law_seed", "_law_cell"] ["_law_script", "_law_salt"] (defScope (top 37)) := ⟨rfl, rfl, rfl, by decide +kernel, rfl, by decide +kernel, by decide +kernel⟩
theorem sc_law_below : FnScope ["_law_d", "_law_limit", "_law_result"] ["_law_d", "_law_limit"] (defScope (top 38)) := ⟨rfl, rfl, rfl, by decide +kernel, rfl, by decide +kernel, by decide +kernel⟩
theorem sc_law_step : FnScope ["_law_d", "_law_size_now"] ["_law_d", "_law_size_now"] (defScope (top 39)) := ⟨rfl, rfl, rfl, by decide +kernel, rfl, by decide +kernel, by decide +kernel⟩
theorem sc_law_common : FnScope ["_law_one", "_law_other"] ["_law_one", "_law_other"] (defScope (top 40)) := ⟨rfl, rfl, rfl, by decide +kernel, rfl, by decide +kernel, by decide +kernel⟩
theorem sc_law_lowest : FnScope ["_law_x", "_law_y", "_law_q", "_law_common_now"] ["_law_x", "_law_y", "_law_q"] (defScope (top 41)) := ⟨rfl, rfl, rfl, by decide +kernel, rfl, by decide +kernel, by decide +kernel⟩
theorem sc_law_spotT : FnScope ["_law_d", "_law_below_here"] ["_law_d"] (defScope (top 42)) := ⟨rfl, rfl, rfl, by decide +kernel, rfl, by decide +kernel, by decide +kernel⟩
theorem sc_law_strokeH : FnScope ["_law_d", "_law_most", "_law_stroke_here", "_law_k", "_law_spot_here"] ["_law_d", "_law_most"] (defScope (top 43)) := ⟨rfl, rfl, rfl, by decide +kernel, rfl, by decide +kernel, by decide +kernel⟩
theorem sc_is_int : FnScope ["value"] ["value"] (defScope (top 23)) := ⟨rfl, rfl, rfl, by decide +kernel, rfl, by decide +kernel, by decide +kernel⟩
theorem sc_common_divisor : FnScope ["one", "other"] ["one", "other"] (defScope (top 24)) := ⟨rfl, rfl, rfl, by decide +kernel, rfl, by decide +kernel, by decide +kernel⟩
theorem sc_lowest : FnScope ["x", "y", "d", "divisor", "sign"] ["x", "y", "d"] (defScope (top 27)) := ⟨rfl, rfl, rfl, by decide +kernel, rfl, by decide +kernel, by decide +kernel⟩
theorem sc_is_number : FnScope ["value", "part"] ["value"] (defScope (top 28)) := ⟨rfl, rfl, rfl, by decide +kernel, rfl, by decide +kernel, by decide +kernel⟩
theorem sc_common_multiple : FnScope ["values", "found", "value"] ["values"] (defScope (top 25)) := ⟨rfl, rfl, rfl, by decide +kernel, rfl, by decide +kernel, by decide +kernel⟩
theorem sc_scaled : FnScope ["strokes", "scale", "stroke", "spot", "found"] ["strokes"] (defScope (top 34)) := ⟨rfl, rfl, rfl, by decide +kernel, rfl, by decide +kernel, by decide +kernel⟩
theorem sc_ratio : FnScope ["numerator", "denominator", "divisor"] ["numerator", "denominator"] (defScope (top 26)) := ⟨rfl, rfl, rfl, by decide +kernel, rfl, by decide +kernel, by decide +kernel⟩
theorem sc_law_times : FnScope ["_law_one", "_law_other", "_law_x", "_law_y"] ["_law_one", "_law_other"] (defScope (top 45)) := ⟨rfl, rfl, rfl, by decide +kernel, rfl, by decide +kernel, by decide +kernel⟩
theorem sc_law_over : FnScope ["_law_one"] ["_law_one"] (defScope (top 46)) := ⟨rfl, rfl, rfl, by decide +kernel, rfl, by decide +kernel, by decide +kernel⟩
theorem sc_law_plus : FnScope ["_law_one", "_law_other", "_law_x", "_law_y"] ["_law_one", "_law_other"] (defScope (top 47)) := ⟨rfl, rfl, rfl, by decide +kernel, rfl, by decide +kernel, by decide +kernel⟩
theorem sc_check_spot : FnScope ["value"] ["value"] (defScope (top 30)) := ⟨rfl, rfl, rfl, by decide +kernel, rfl, by decide +kernel, by decide +kernel⟩
theorem sc_check_stroke : FnScope ["stroke", "index", "spot", "e", "is_still", "one", "other"] ["stroke", "index"] (defScope (top 33)) := ⟨rfl, rfl, rfl, by decide +kernel, rfl, by decide +kernel, by decide +kernel⟩
theorem sc_area : FnScope ["stroke", "scale", "places", "total", "one", "other"] ["stroke"] (defScope (top 35)) := ⟨rfl, rfl, rfl, by decide +kernel, rfl, by decide +kernel, by decide +kernel⟩
theorem sc_law_equal : FnScope ["_law_actual", "_law_expected", "_law_k"] ["_law_actual", "_law_expected"] (defScope (top 48)) := ⟨rfl, rfl, rfl, by decide +kernel, rfl, by decide +kernel, by decide +kernel⟩
theorem sc_law_turnT : FnScope ["_law_d", "_law_some"] ["_law_d"] (defScope (top 49)) := ⟨rfl, rfl, rfl, by decide +kernel, rfl, by decide +kernel, by decide +kernel⟩
theorem sc_law_toldT : FnScope ["_law_d"] ["_law_d"] (defScope (top 50)) := ⟨rfl, rfl, rfl, by decide +kernel, rfl, by decide +kernel, by decide +kernel⟩
theorem sc_law_carried : FnScope ["_law_told_here", "_law_spot_here"] ["_law_told_here", "_law_spot_here"] (defScope (top 51)) := ⟨rfl, rfl, rfl, by decide +kernel, rfl, by decide +kernel, by decide +kernel⟩
theorem sc_law_ratio : FnScope ["_law_p", "_law_q"] ["_law_p", "_law_q"] (defScope (top 52)) := ⟨rfl, rfl, rfl, by decide +kernel, rfl, by decide +kernel, by decide +kernel⟩
theorem sc_law_size : FnScope ["_law_one"] ["_law_one"] (defScope (top 53)) := ⟨rfl, rfl, rfl, by decide +kernel, rfl, by decide +kernel, by decide +kernel⟩
theorem sc_law : FnScope ["_law_script", "_law_d", "_law_stroke_here", "_law_total", "_law_k", "_law_swept", "_law_found", "_law_at", "_law_told_here", "_law_moved", "_law_spot_here", "_law_growth", "_law_sign", "_law_bad"] ["_law_script"] (defScope (top 54)) := ⟨rfl, rfl, rfl, by decide +kernel, rfl, by decide +kernel, by decide +kernel⟩
theorem sc_law_error_of : FnScope ["_law_call", "e", "_law_kinds", "_law_names", "_law_name"] ["_law_call"] (defScope (top 44)) := ⟨rfl, rfl, rfl, by decide +kernel, rfl, by decide +kernel, by decide +kernel⟩
section
variable {P : Program} {w : World} {K : PySem.W.Frag} {mg : Str → Option Value} {base : Heap} {f : Addr}

theorem gv_err (Γ : CL) {X : Cx} (T : Fc X.K X.mg Γ) (hA : X.A.units + 200 < cLine) {g : Addr} {cdg : Value} (q : Str) : LamX.GivesTo X ["_law_call", "e", "_law_kinds", "_law_names", "_law_name"] "_law_error_of" (defScope (top 44)) g cdg (defBody (top 44)) "_law_call" q (TErr X.K (resE Γ errL)) := by
  refine err_gives (sg := defScope (top 44)) (Ng := ["_law_call", "e", "_law_kinds", "_law_names", "_law_name"]) (i := 1) sc_law_error_of.nd rfl rfl rfl T.gx_CopyError (by decide) (fun _ => rfl) (fun C fs v r => ?_) (fun s H => ps_ret pe_non) (fun s H C fs v r => ?_)
  · obtain ⟨p, hp, ds, hl, rfl, rfl, rfl⟩ := r
    simp only [errL, List.mem_cons, List.not_mem_nil, or_false] at hp
    rcases hp with rfl | rfl
    · exact T.ek_InvalidStroke.k.ce
    · exact T.ek_OpenStroke.k.ce
  · obtain ⟨p, hp, ds, hl, rfl, rfl, rfl⟩ := r
    simp only [errL, List.mem_cons, List.not_mem_nil, or_false] at hp
    rcases hp with rfl | rfl
    · refine suOk_ofF (rd := fun a => rd_errF a (((attrNs 4).zip ds).reverse) (fun j => decide (j = 4))) (fun a oe d pn hz hf hd2 => ?_) (fun a μ DD q => vcF_4 hl a μ DD q)
      have XC := T.ek_InvalidStroke.k.xc
      have hve := T.ek_InvalidStroke.k.ve
      have hk := T.ek_InvalidStroke.k.ks
      have hat := T.ek_InvalidStroke.at
      have hr : UR (X.A.deeper (envOfC "_law_error_of" (defScope (top 44)) s.heap.objs.size g cdg)).units := ⟨by show X.A.units + 3 + 64 < cLine; omega, by show X.A.units + 3 + 65 < cLine; omega⟩
      exact (dssf_cons (dsf_set (i := 2) sc_law_error_of.nd (def_lst (daf_cons (def_isE (X := (cxOf C8.CX0 X.prog X.w X.K X.mg X.base ["_law_call", "e", "_law_kinds", "_law_names", "_law_name"] "_law_error_of" (defScope (top 44)) g cdg X.A X.stack s H C8.E0).nox) hd2 T.f_isinstance rfl XC hz hf T.gx_InvalidSpot (hk 0 (by decide)) rfl (de_var 1)) (daf_cons (def_isE (X := (cxOf C8.CX0 X.prog X.w X.K X.mg X.base ["_law_call", "e", "_law_kinds", "_law_names", "_law_name"] "_law_error_of" (defScope (top 44)) g cdg X.A X.stack s H C8.E0).nox) hd2 T.f_isinstance rfl XC hz hf T.gx_InvalidTurn (hk 1 (by decide)) rfl (de_var 1)) (daf_cons (def_isE (X := (cxOf C8.CX0 X.prog X.w X.K X.mg X.base ["_law_call", "e", "_law_kinds", "_law_names", "_law_name"] "_law_error_of" (defScope (top 44)) g cdg X.A X.stack s H C8.E0).nox) hd2 T.f_isinstance rfl XC hz hf T.gx_InvalidTimes (hk 2 (by decide)) rfl (de_var 1)) daf_nil)))))
 (dssf_cons (dsf_set (i := 2) sc_law_error_of.nd (def_add (def_no (de_var 2)) (def_lst (daf_cons (def_isE (X := (cxOf C8.CX0 X.prog X.w X.K X.mg X.base ["_law_call", "e", "_law_kinds", "_law_names", "_law_name"] "_law_error_of" (defScope (top 44)) g cdg X.A X.stack s H C8.E0).nox) hd2 T.f_isinstance rfl XC hz hf T.gx_TooFew (hk 3 (by decide)) rfl (de_var 1)) (daf_cons (def_isE (X := (cxOf C8.CX0 X.prog X.w X.K X.mg X.base ["_law_call", "e", "_law_kinds", "_law_names", "_law_name"] "_law_error_of" (defScope (top 44)) g cdg X.A X.stack s H C8.E0).nox) hd2 T.f_isinstance rfl XC hz hf T.gx_InvalidStroke (hk 4 (by decide)) rfl (de_var 1)) (daf_cons (def_isE (X := (cxOf C8.CX0 X.prog X.w X.K X.mg X.base ["_law_call", "e", "_law_kinds", "_law_names", "_law_name"] "_law_error_of" (defScope (top 44)) g cdg X.A X.stack s H C8.E0).nox) hd2 T.f_isinstance rfl XC hz hf T.gx_OpenStroke (hk 5 (by decide)) rfl (de_var 1)) daf_nil))))))
 (dssf_cons (dsf_set (i := 2) sc_law_error_of.nd (def_add (def_no (de_var 2)) (def_lst (daf_cons (def_isE (X := (cxOf C8.CX0 X.prog X.w X.K X.mg X.base ["_law_call", "e", "_law_kinds", "_law_names", "_law_name"] "_law_error_of" (defScope (top 44)) g cdg X.A X.stack s H C8.E0).nox) hd2 T.f_isinstance rfl XC hz hf T.gx_InvalidReach (hk 6 (by decide)) rfl (de_var 1)) (daf_cons (def_isE (X := (cxOf C8.CX0 X.prog X.w X.K X.mg X.base ["_law_call", "e", "_law_kinds", "_law_names", "_law_name"] "_law_error_of" (defScope (top 44)) g cdg X.A X.stack s H C8.E0).nox) hd2 T.f_isinstance rfl XC hz hf T.gx_OutOfReach (hk 7 (by decide)) rfl (de_var 1)) (daf_cons (def_isE (X := (cxOf C8.CX0 X.prog X.w X.K X.mg X.base ["_law_call", "e", "_law_kinds", "_law_names", "_law_name"] "_law_error_of" (defScope (top 44)) g cdg X.A X.stack s H C8.E0).nox) hd2 T.f_isinstance rfl XC hz hf T.gx_TooMany (hk 8 (by decide)) rfl (de_var 1)) daf_nil))))))
 (dssf_cons (dsf_set (i := 2) sc_law_error_of.nd (def_add (def_no (de_var 2)) (def_lst (daf_cons (def_isE (X := (cxOf C8.CX0 X.prog X.w X.K X.mg X.base ["_law_call", "e", "_law_kinds", "_law_names", "_law_name"] "_law_error_of" (defScope (top 44)) g cdg X.A X.stack s H C8.E0).nox) hd2 T.f_isinstance rfl XC hz hf T.gx_InvalidSize (hk 9 (by decide)) rfl (de_var 1)) (daf_cons (def_isE (X := (cxOf C8.CX0 X.prog X.w X.K X.mg X.base ["_law_call", "e", "_law_kinds", "_law_names", "_law_name"] "_law_error_of" (defScope (top 44)) g cdg X.A X.stack s H C8.E0).nox) hd2 T.f_isinstance rfl XC hz hf T.gx_InvalidBox (hk 10 (by decide)) rfl (de_var 1)) (daf_cons (def_isE (X := (cxOf C8.CX0 X.prog X.w X.K X.mg X.base ["_law_call", "e", "_law_kinds", "_law_names", "_law_name"] "_law_error_of" (defScope (top 44)) g cdg X.A X.stack s H C8.E0).nox) hd2 T.f_isinstance rfl XC hz hf T.gx_Contradiction (hk 11 (by decide)) rfl (de_var 1)) daf_nil))))))
 (dssf_cons (dsf_set (i := 2) sc_law_error_of.nd (def_add (def_no (de_var 2)) (def_lst (daf_cons (def_isE (X := (cxOf C8.CX0 X.prog X.w X.K X.mg X.base ["_law_call", "e", "_law_kinds", "_law_names", "_law_name"] "_law_error_of" (defScope (top 44)) g cdg X.A X.stack s H C8.E0).nox) hd2 T.f_isinstance rfl XC hz hf T.gx_BadText (hk 12 (by decide)) rfl (de_var 1)) (daf_cons (def_isE (X := (cxOf C8.CX0 X.prog X.w X.K X.mg X.base ["_law_call", "e", "_law_kinds", "_law_names", "_law_name"] "_law_error_of" (defScope (top 44)) g cdg X.A X.stack s H C8.E0).nox) hd2 T.f_isinstance rfl XC hz hf T.gx_BadRow (hk 13 (by decide)) rfl (de_var 1)) (daf_cons (def_isE (X := (cxOf C8.CX0 X.prog X.w X.K X.mg X.base ["_law_call", "e", "_law_kinds", "_law_names", "_law_name"] "_law_error_of" (defScope (top 44)) g cdg X.A X.stack s H C8.E0).nox) hd2 T.f_isinstance rfl XC hz hf T.gx_UnknownName (hk 14 (by decide)) rfl (de_var 1)) daf_nil))))))
 (dssf_cons (dsf_set (i := 2) sc_law_error_of.nd (def_add (def_no (de_var 2)) (def_lst (daf_cons (def_isE (X := (cxOf C8.CX0 X.prog X.w X.K X.mg X.base ["_law_call", "e", "_law_kinds", "_law_names", "_law_name"] "_law_error_of" (defScope (top 44)) g cdg X.A X.stack s H C8.E0).nox) hd2 T.f_isinstance rfl XC hz hf T.gx_InvalidName (hk 15 (by decide)) rfl (de_var 1)) (daf_cons (def_isE (X := (cxOf C8.CX0 X.prog X.w X.K X.mg X.base ["_law_call", "e", "_law_kinds", "_law_names", "_law_name"] "_law_error_of" (defScope (top 44)) g cdg X.A X.stack s H C8.E0).nox) hd2 T.f_isinstance rfl XC hz hf T.gx_InvalidCode (hk 16 (by decide)) rfl (de_var 1)) (daf_cons (def_isE (X := (cxOf C8.CX0 X.prog X.w X.K X.mg X.base ["_law_call", "e", "_law_kinds", "_law_names", "_law_name"] "_law_error_of" (defScope (top 44)) g cdg X.A X.stack s H C8.E0).nox) hd2 T.f_isinstance rfl XC hz hf T.gx_UnknownArm (hk 17 (by decide)) rfl (de_var 1)) daf_nil))))))
 (dssf_cons (dsf_set (i := 2) sc_law_error_of.nd (def_add (def_no (de_var 2)) (def_lst (daf_cons (def_isE (X := (cxOf C8.CX0 X.prog X.w X.K X.mg X.base ["_law_call", "e", "_law_kinds", "_law_names", "_law_name"] "_law_error_of" (defScope (top 44)) g cdg X.A X.stack s H C8.E0).nox) hd2 T.f_isinstance rfl XC hz hf T.gx_NotFree (hk 18 (by decide)) rfl (de_var 1)) (daf_cons (def_isE (X := (cxOf C8.CX0 X.prog X.w X.K X.mg X.base ["_law_call", "e", "_law_kinds", "_law_names", "_law_name"] "_law_error_of" (defScope (top 44)) g cdg X.A X.stack s H C8.E0).nox) hd2 T.f_isinstance rfl XC hz hf T.gx_InvalidOperation (hk 19 (by decide)) rfl (de_var 1)) daf_nil)))))
 (dssf_cons (dsf_ifF (dtf_w (dwf_or (dtf_no (dt_ne hr.units (de_count (X := (cxOf C8.CX0 X.prog X.w X.K X.mg X.base ["_law_call", "e", "_law_kinds", "_law_names", "_law_name"] "_law_error_of" (defScope (top 44)) g cdg X.A X.stack s H C8.E0).nox.suite a ((a, oe) :: pn)) hr.u65 (de_var 2) (da_cons de_bl da_nil)) de_int)) (dwf_or1 (dtf_not (dtf_val (def_isEV (X := (cxOf C8.CX0 X.prog X.w X.K X.mg X.base ["_law_call", "e", "_law_kinds", "_law_names", "_law_name"] "_law_error_of" (defScope (top 44)) g cdg X.A X.stack s H C8.E0).nox) (n := "ValueError") hd2 T.f_isinstance rfl XC hz hf T.f_ValueError (by decide +kernel) hve rfl (de_var 1)))))))
 (dssf_one (dsf_no ds_never))
 dssf_nil)
 (dssf_cons (dsf_set (i := 3) sc_law_error_of.nd (def_lst (daf_cons (def_no de_str) (daf_cons (def_no de_str) (daf_cons (def_no de_str) (daf_cons (def_no de_str) (daf_cons (def_no de_str) (daf_cons (def_no de_str) (daf_cons (def_no de_str) (daf_cons (def_no de_str) (daf_cons (def_no de_str) (daf_cons (def_no de_str) (daf_cons (def_no de_str) (daf_cons (def_no de_str) daf_nil))))))))))))))
 (dssf_cons (dsf_set (i := 3) sc_law_error_of.nd (def_add (def_no (de_var 3)) (def_lst (daf_cons (def_no de_str) (daf_cons (def_no de_str) (daf_cons (def_no de_str) (daf_cons (def_no de_str) (daf_cons (def_no de_str) (daf_cons (def_no de_str) (daf_cons (def_no de_str) (daf_cons (def_no de_str) daf_nil)))))))))))
 (dssf_cons (dsf_set (i := 4) sc_law_error_of.nd (def_no (de_ix (de_var 3) (de_index (X := (cxOf C8.CX0 X.prog X.w X.K X.mg X.base ["_law_call", "e", "_law_kinds", "_law_names", "_law_name"] "_law_error_of" (defScope (top 44)) g cdg X.A X.stack s H C8.E0).nox.suite a ((a, oe) :: pn)) hr.u65 (de_var 2) (da_cons de_bl da_nil)))))
 (dssf_cons (dsf_ifF (dtf_no (dt_eq hr.units (de_var 4) de_str))
 (dssf_one (dsf_A1 (X := (cxOf C8.CX0 X.prog X.w X.K X.mg X.base ["_law_call", "e", "_law_kinds", "_law_names", "_law_name"] "_law_error_of" (defScope (top 44)) g cdg X.A X.stack s H C8.E0).nox) (i := 1) (hat "index" (by decide)) hz hf (de_var 4)))
 dssf_nil)
 (dssf_cons (dsf_ifF (dtf_no (dt_eq hr.units (de_var 4) de_str))
 (dssf_one (dsf_A3 (X := (cxOf C8.CX0 X.prog X.w X.K X.mg X.base ["_law_call", "e", "_law_kinds", "_law_names", "_law_name"] "_law_error_of" (defScope (top 44)) g cdg X.A X.stack s H C8.E0).nox) (i := 1) (hat "arm" (by decide)) (hat "stroke" (by decide)) (hat "part" (by decide)) hz hf (de_var 4)))
 dssf_nil)
 (dssf_cons (dsf_ifF (dtf_no (dt_eq hr.units (de_var 4) de_str))
 (dssf_one (dsf_A2 (X := (cxOf C8.CX0 X.prog X.w X.K X.mg X.base ["_law_call", "e", "_law_kinds", "_law_names", "_law_name"] "_law_error_of" (defScope (top 44)) g cdg X.A X.stack s H C8.E0).nox) (i := 1) (hat "row" (by decide)) (hat "word" (by decide)) hz hf (de_var 4)))
 dssf_nil)
 (dssf_cons (dsf_ifF (dtf_no (dt_eq hr.units (de_var 4) de_str))
 (dssf_one (dsf_A2 (X := (cxOf C8.CX0 X.prog X.w X.K X.mg X.base ["_law_call", "e", "_law_kinds", "_law_names", "_law_name"] "_law_error_of" (defScope (top 44)) g cdg X.A X.stack s H C8.E0).nox) (i := 1) (hat "row" (by decide)) (hat "reason" (by decide)) hz hf (de_var 4)))
 dssf_nil)
 (dssf_one (dsf_AI (X := (cxOf C8.CX0 X.prog X.w X.K X.mg X.base ["_law_call", "e", "_law_kinds", "_law_names", "_law_name"] "_law_error_of" (defScope (top 44)) g cdg X.A X.stack s H C8.E0).nox) (i := 1) (hat "place" (by decide)) hz hf (de_var 4) (dt_in hr.u65 (de_var 4) (de_lst (da_cons de_str (da_cons de_str da_nil)))) de_int)))))))))))))))))
    · refine suOk_ofF (rd := fun a => rd_errF a (((attrNs 5).zip ds).reverse) (fun j => decide (j = 5))) (fun a oe d pn hz hf hd2 => ?_) (fun a μ DD q => vcF_5 hl a μ DD q)
      have XC := T.ek_OpenStroke.k.xc
      have hve := T.ek_OpenStroke.k.ve
      have hk := T.ek_OpenStroke.k.ks
      have hat := T.ek_OpenStroke.at
      have hr : UR (X.A.deeper (envOfC "_law_error_of" (defScope (top 44)) s.heap.objs.size g cdg)).units := ⟨by show X.A.units + 3 + 64 < cLine; omega, by show X.A.units + 3 + 65 < cLine; omega⟩
      exact (dssf_cons (dsf_set (i := 2) sc_law_error_of.nd (def_lst (daf_cons (def_isE (X := (cxOf C8.CX0 X.prog X.w X.K X.mg X.base ["_law_call", "e", "_law_kinds", "_law_names", "_law_name"] "_law_error_of" (defScope (top 44)) g cdg X.A X.stack s H C8.E0).nox) hd2 T.f_isinstance rfl XC hz hf T.gx_InvalidSpot (hk 0 (by decide)) rfl (de_var 1)) (daf_cons (def_isE (X := (cxOf C8.CX0 X.prog X.w X.K X.mg X.base ["_law_call", "e", "_law_kinds", "_law_names", "_law_name"] "_law_error_of" (defScope (top 44)) g cdg X.A X.stack s H C8.E0).nox) hd2 T.f_isinstance rfl XC hz hf T.gx_InvalidTurn (hk 1 (by decide)) rfl (de_var 1)) (daf_cons (def_isE (X := (cxOf C8.CX0 X.prog X.w X.K X.mg X.base ["_law_call", "e", "_law_kinds", "_law_names", "_law_name"] "_law_error_of" (defScope (top 44)) g cdg X.A X.stack s H C8.E0).nox) hd2 T.f_isinstance rfl XC hz hf T.gx_InvalidTimes (hk 2 (by decide)) rfl (de_var 1)) daf_nil)))))
 (dssf_cons (dsf_set (i := 2) sc_law_error_of.nd (def_add (def_no (de_var 2)) (def_lst (daf_cons (def_isE (X := (cxOf C8.CX0 X.prog X.w X.K X.mg X.base ["_law_call", "e", "_law_kinds", "_law_names", "_law_name"] "_law_error_of" (defScope (top 44)) g cdg X.A X.stack s H C8.E0).nox) hd2 T.f_isinstance rfl XC hz hf T.gx_TooFew (hk 3 (by decide)) rfl (de_var 1)) (daf_cons (def_isE (X := (cxOf C8.CX0 X.prog X.w X.K X.mg X.base ["_law_call", "e", "_law_kinds", "_law_names", "_law_name"] "_law_error_of" (defScope (top 44)) g cdg X.A X.stack s H C8.E0).nox) hd2 T.f_isinstance rfl XC hz hf T.gx_InvalidStroke (hk 4 (by decide)) rfl (de_var 1)) (daf_cons (def_isE (X := (cxOf C8.CX0 X.prog X.w X.K X.mg X.base ["_law_call", "e", "_law_kinds", "_law_names", "_law_name"] "_law_error_of" (defScope (top 44)) g cdg X.A X.stack s H C8.E0).nox) hd2 T.f_isinstance rfl XC hz hf T.gx_OpenStroke (hk 5 (by decide)) rfl (de_var 1)) daf_nil))))))
 (dssf_cons (dsf_set (i := 2) sc_law_error_of.nd (def_add (def_no (de_var 2)) (def_lst (daf_cons (def_isE (X := (cxOf C8.CX0 X.prog X.w X.K X.mg X.base ["_law_call", "e", "_law_kinds", "_law_names", "_law_name"] "_law_error_of" (defScope (top 44)) g cdg X.A X.stack s H C8.E0).nox) hd2 T.f_isinstance rfl XC hz hf T.gx_InvalidReach (hk 6 (by decide)) rfl (de_var 1)) (daf_cons (def_isE (X := (cxOf C8.CX0 X.prog X.w X.K X.mg X.base ["_law_call", "e", "_law_kinds", "_law_names", "_law_name"] "_law_error_of" (defScope (top 44)) g cdg X.A X.stack s H C8.E0).nox) hd2 T.f_isinstance rfl XC hz hf T.gx_OutOfReach (hk 7 (by decide)) rfl (de_var 1)) (daf_cons (def_isE (X := (cxOf C8.CX0 X.prog X.w X.K X.mg X.base ["_law_call", "e", "_law_kinds", "_law_names", "_law_name"] "_law_error_of" (defScope (top 44)) g cdg X.A X.stack s H C8.E0).nox) hd2 T.f_isinstance rfl XC hz hf T.gx_TooMany (hk 8 (by decide)) rfl (de_var 1)) daf_nil))))))
 (dssf_cons (dsf_set (i := 2) sc_law_error_of.nd (def_add (def_no (de_var 2)) (def_lst (daf_cons (def_isE (X := (cxOf C8.CX0 X.prog X.w X.K X.mg X.base ["_law_call", "e", "_law_kinds", "_law_names", "_law_name"] "_law_error_of" (defScope (top 44)) g cdg X.A X.stack s H C8.E0).nox) hd2 T.f_isinstance rfl XC hz hf T.gx_InvalidSize (hk 9 (by decide)) rfl (de_var 1)) (daf_cons (def_isE (X := (cxOf C8.CX0 X.prog X.w X.K X.mg X.base ["_law_call", "e", "_law_kinds", "_law_names", "_law_name"] "_law_error_of" (defScope (top 44)) g cdg X.A X.stack s H C8.E0).nox) hd2 T.f_isinstance rfl XC hz hf T.gx_InvalidBox (hk 10 (by decide)) rfl (de_var 1)) (daf_cons (def_isE (X := (cxOf C8.CX0 X.prog X.w X.K X.mg X.base ["_law_call", "e", "_law_kinds", "_law_names", "_law_name"] "_law_error_of" (defScope (top 44)) g cdg X.A X.stack s H C8.E0).nox) hd2 T.f_isinstance rfl XC hz hf T.gx_Contradiction (hk 11 (by decide)) rfl (de_var 1)) daf_nil))))))
 (dssf_cons (dsf_set (i := 2) sc_law_error_of.nd (def_add (def_no (de_var 2)) (def_lst (daf_cons (def_isE (X := (cxOf C8.CX0 X.prog X.w X.K X.mg X.base ["_law_call", "e", "_law_kinds", "_law_names", "_law_name"] "_law_error_of" (defScope (top 44)) g cdg X.A X.stack s H C8.E0).nox) hd2 T.f_isinstance rfl XC hz hf T.gx_BadText (hk 12 (by decide)) rfl (de_var 1)) (daf_cons (def_isE (X := (cxOf C8.CX0 X.prog X.w X.K X.mg X.base ["_law_call", "e", "_law_kinds", "_law_names", "_law_name"] "_law_error_of" (defScope (top 44)) g cdg X.A X.stack s H C8.E0).nox) hd2 T.f_isinstance rfl XC hz hf T.gx_BadRow (hk 13 (by decide)) rfl (de_var 1)) (daf_cons (def_isE (X := (cxOf C8.CX0 X.prog X.w X.K X.mg X.base ["_law_call", "e", "_law_kinds", "_law_names", "_law_name"] "_law_error_of" (defScope (top 44)) g cdg X.A X.stack s H C8.E0).nox) hd2 T.f_isinstance rfl XC hz hf T.gx_UnknownName (hk 14 (by decide)) rfl (de_var 1)) daf_nil))))))
 (dssf_cons (dsf_set (i := 2) sc_law_error_of.nd (def_add (def_no (de_var 2)) (def_lst (daf_cons (def_isE (X := (cxOf C8.CX0 X.prog X.w X.K X.mg X.base ["_law_call", "e", "_law_kinds", "_law_names", "_law_name"] "_law_error_of" (defScope (top 44)) g cdg X.A X.stack s H C8.E0).nox) hd2 T.f_isinstance rfl XC hz hf T.gx_InvalidName (hk 15 (by decide)) rfl (de_var 1)) (daf_cons (def_isE (X := (cxOf C8.CX0 X.prog X.w X.K X.mg X.base ["_law_call", "e", "_law_kinds", "_law_names", "_law_name"] "_law_error_of" (defScope (top 44)) g cdg X.A X.stack s H C8.E0).nox) hd2 T.f_isinstance rfl XC hz hf T.gx_InvalidCode (hk 16 (by decide)) rfl (de_var 1)) (daf_cons (def_isE (X := (cxOf C8.CX0 X.prog X.w X.K X.mg X.base ["_law_call", "e", "_law_kinds", "_law_names", "_law_name"] "_law_error_of" (defScope (top 44)) g cdg X.A X.stack s H C8.E0).nox) hd2 T.f_isinstance rfl XC hz hf T.gx_UnknownArm (hk 17 (by decide)) rfl (de_var 1)) daf_nil))))))
 (dssf_cons (dsf_set (i := 2) sc_law_error_of.nd (def_add (def_no (de_var 2)) (def_lst (daf_cons (def_isE (X := (cxOf C8.CX0 X.prog X.w X.K X.mg X.base ["_law_call", "e", "_law_kinds", "_law_names", "_law_name"] "_law_error_of" (defScope (top 44)) g cdg X.A X.stack s H C8.E0).nox) hd2 T.f_isinstance rfl XC hz hf T.gx_NotFree (hk 18 (by decide)) rfl (de_var 1)) (daf_cons (def_isE (X := (cxOf C8.CX0 X.prog X.w X.K X.mg X.base ["_law_call", "e", "_law_kinds", "_law_names", "_law_name"] "_law_error_of" (defScope (top 44)) g cdg X.A X.stack s H C8.E0).nox) hd2 T.f_isinstance rfl XC hz hf T.gx_InvalidOperation (hk 19 (by decide)) rfl (de_var 1)) daf_nil)))))
 (dssf_cons (dsf_ifF (dtf_w (dwf_or (dtf_no (dt_ne hr.units (de_count (X := (cxOf C8.CX0 X.prog X.w X.K X.mg X.base ["_law_call", "e", "_law_kinds", "_law_names", "_law_name"] "_law_error_of" (defScope (top 44)) g cdg X.A X.stack s H C8.E0).nox.suite a ((a, oe) :: pn)) hr.u65 (de_var 2) (da_cons de_bl da_nil)) de_int)) (dwf_or1 (dtf_not (dtf_val (def_isEV (X := (cxOf C8.CX0 X.prog X.w X.K X.mg X.base ["_law_call", "e", "_law_kinds", "_law_names", "_law_name"] "_law_error_of" (defScope (top 44)) g cdg X.A X.stack s H C8.E0).nox) (n := "ValueError") hd2 T.f_isinstance rfl XC hz hf T.f_ValueError (by decide +kernel) hve rfl (de_var 1)))))))
 (dssf_one (dsf_no ds_never))
 dssf_nil)
 (dssf_cons (dsf_set (i := 3) sc_law_error_of.nd (def_lst (daf_cons (def_no de_str) (daf_cons (def_no de_str) (daf_cons (def_no de_str) (daf_cons (def_no de_str) (daf_cons (def_no de_str) (daf_cons (def_no de_str) (daf_cons (def_no de_str) (daf_cons (def_no de_str) (daf_cons (def_no de_str) (daf_cons (def_no de_str) (daf_cons (def_no de_str) (daf_cons (def_no de_str) daf_nil))))))))))))))
 (dssf_cons (dsf_set (i := 3) sc_law_error_of.nd (def_add (def_no (de_var 3)) (def_lst (daf_cons (def_no de_str) (daf_cons (def_no de_str) (daf_cons (def_no de_str) (daf_cons (def_no de_str) (daf_cons (def_no de_str) (daf_cons (def_no de_str) (daf_cons (def_no de_str) (daf_cons (def_no de_str) daf_nil)))))))))))
 (dssf_cons (dsf_set (i := 4) sc_law_error_of.nd (def_no (de_ix (de_var 3) (de_index (X := (cxOf C8.CX0 X.prog X.w X.K X.mg X.base ["_law_call", "e", "_law_kinds", "_law_names", "_law_name"] "_law_error_of" (defScope (top 44)) g cdg X.A X.stack s H C8.E0).nox.suite a ((a, oe) :: pn)) hr.u65 (de_var 2) (da_cons de_bl da_nil)))))
 (dssf_cons (dsf_ifF (dtf_no (dt_eq hr.units (de_var 4) de_str))
 (dssf_one (dsf_A1 (X := (cxOf C8.CX0 X.prog X.w X.K X.mg X.base ["_law_call", "e", "_law_kinds", "_law_names", "_law_name"] "_law_error_of" (defScope (top 44)) g cdg X.A X.stack s H C8.E0).nox) (i := 1) (hat "index" (by decide)) hz hf (de_var 4)))
 dssf_nil)
 (dssf_cons (dsf_ifF (dtf_no (dt_eq hr.units (de_var 4) de_str))
 (dssf_one (dsf_A3 (X := (cxOf C8.CX0 X.prog X.w X.K X.mg X.base ["_law_call", "e", "_law_kinds", "_law_names", "_law_name"] "_law_error_of" (defScope (top 44)) g cdg X.A X.stack s H C8.E0).nox) (i := 1) (hat "arm" (by decide)) (hat "stroke" (by decide)) (hat "part" (by decide)) hz hf (de_var 4)))
 dssf_nil)
 (dssf_cons (dsf_ifF (dtf_no (dt_eq hr.units (de_var 4) de_str))
 (dssf_one (dsf_A2 (X := (cxOf C8.CX0 X.prog X.w X.K X.mg X.base ["_law_call", "e", "_law_kinds", "_law_names", "_law_name"] "_law_error_of" (defScope (top 44)) g cdg X.A X.stack s H C8.E0).nox) (i := 1) (hat "row" (by decide)) (hat "word" (by decide)) hz hf (de_var 4)))
 dssf_nil)
 (dssf_cons (dsf_ifF (dtf_no (dt_eq hr.units (de_var 4) de_str))
 (dssf_one (dsf_A2 (X := (cxOf C8.CX0 X.prog X.w X.K X.mg X.base ["_law_call", "e", "_law_kinds", "_law_names", "_law_name"] "_law_error_of" (defScope (top 44)) g cdg X.A X.stack s H C8.E0).nox) (i := 1) (hat "row" (by decide)) (hat "reason" (by decide)) hz hf (de_var 4)))
 dssf_nil)
 (dssf_one (dsf_AI (X := (cxOf C8.CX0 X.prog X.w X.K X.mg X.base ["_law_call", "e", "_law_kinds", "_law_names", "_law_name"] "_law_error_of" (defScope (top 44)) g cdg X.A X.stack s H C8.E0).nox) (i := 1) (hat "place" (by decide)) hz hf (de_var 4) (dt_in hr.u65 (de_var 4) (de_lst (da_cons de_str (da_cons de_str da_nil)))) de_int)))))))))))))))))
theorem dvx_check_spot (Γ : CL) (T : Fc K mg Γ) (G_is_number : FnG P w K mg base 3 "is_number" (sp_is_number Γ)) (cdv : Value) (A : Around) (outer : List Env) (s0 : Shared) (H : Hp) (E : XK) (hr : Room 3 (A.deeper (envOfC "check_spot" (defScope (top 30)) s0.heap.objs.size f cdv))) (tk : Takes (cxOf (L2.CX P w) P w K mg base ["value"] "check_spot" (defScope (top 30)) f cdv A outer s0 H E) (fun cls d _ H' => E cls d H')) : DSsX (cxOf (L2.CX P w) P w K mg base ["value"] "check_spot" (defScope (top 30)) f cdv A outer s0 H E) (fun cls d _ H' => E cls d H') (defBody (top 30)) (rdx_check_spot Γ) :=
 (dssx_one (dsx_if (dt_not (dt_val (de_call G_is_number (hr.mono (by decide)) rfl (da_cons (de_var 0) da_nil))))
 (dssx_one (dsx_raise T.x_InvalidSpot tk rfl))
 dssx_nil))
theorem dvxn_check_spot (Γ : CL) (T : Fc K mg Γ) (G_is_number : FnG P w K mg base 3 "is_number" (sp_is_number Γ)) (cdv : Value) (A : Around) (outer : List Env) (s0 : Shared) (H : Hp) (E : XK) (hr : Room 3 (A.deeper (envOfC "check_spot" (defScope (top 30)) s0.heap.objs.size f cdv))) (tk : L2N.Takes (cxOf (L2N.CX P w) P w K mg base ["value"] "check_spot" (defScope (top 30)) f cdv A outer s0 H E) (fun cls d _ H' => E cls d H')) : DSsX (cxOf (L2N.CX P w) P w K mg base ["value"] "check_spot" (defScope (top 30)) f cdv A outer s0 H E) (fun cls d _ H' => E cls d H') (defBody (top 30)) (rdx_check_spot Γ) :=
 (dssx_one (dsx_if (dt_not (dt_val (de_call G_is_number (hr.mono (by decide)) rfl (da_cons (de_var 0) da_nil))))
 (dssx_one (dsx_raiseN T.x_InvalidSpot tk rfl))
 dssx_nil))
theorem dvx_check_stroke (Γ : CL) (T : Fc K mg Γ) (GXA_InvalidStroke : ExcA P w K mg base 1 "InvalidStroke" (Γ.gx "InvalidStroke") ["index"]) (GXH_InvalidStroke : ExcAH P w K mg base 1 "InvalidStroke" (Γ.gx "InvalidStroke") ["index"]) (GN_check_spot : FnGXN P w K mg base 4 "check_spot" (spx_check_spot Γ)) (cdv : Value) (A : Around) (outer : List Env) (s0 : Shared) (H : Hp) (E : XK) (hr : Room 4 (A.deeper (envOfC "check_stroke" (defScope (top 33)) s0.heap.objs.size f cdv))) (tk : Takes (cxOf (L2.CX P w) P w K mg base ["stroke", "index", "spot", "e", "is_still", "one", "other"] "check_stroke" (defScope (top 33)) f cdv A outer s0 H E) (fun cls d _ H' => E cls d H')) : DSsX (cxOf (L2.CX P w) P w K mg base ["stroke", "index", "spot", "e", "is_still", "one", "other"] "check_stroke" (defScope (top 33)) f cdv A outer s0 H E) (fun cls d _ H' => E cls d H') (defBody (top 33)) (rdx_check_stroke Γ) :=
 (dssx_cons (dsx_tryHF (i := 3) (okc := fun C => C = Γ.gx "InvalidSpot") GXH_InvalidStroke (by simp) (by decide) rfl rfl sc_check_stroke.nd rfl rfl ⟨rfl, by decide, .inl T.gx_CopyError⟩ (passesAt_of rfl) tk (hr.mono (by decide)) rfl (fun C h => h ▸ ⟨T.xm_InvalidSpot, T.x_InvalidSpot.r1, T.x_InvalidSpot.r2⟩)
 (fun W pn xe tk pa => dsss_one (dss_for (vs := [2]) (di_tup (de_var 0)) (dg_name (i := 2) sc_check_stroke.nd) (dsss_one (dss_callN GN_check_spot tk (hr.mono (by decide)) rfl (da_cons (de_var 2) da_nil))) pa))
 (fun a oe pn xe => (da_cons (de_var 1) da_nil)))
 (dssx_cons (dsx_nox (ds_set (i := 4) sc_check_stroke.nd (de_any rfl T.f_any (da_cons (de_lc [("one", 5), ("other", 6)] sc_check_stroke.nd (di_zip rfl T.f_zip (da_cons (de_var 0) (da_cons (de_slice (de_var 0) (do_some de_int) do_none) da_nil))) (by kernel_rfl) (fun _ _ _ _ _ => (dg_tup (dgs_cons (dg_name (i := 5) sc_check_stroke.nd) (dgs_cons (dg_name (i := 6) sc_check_stroke.nd) dgs_nil)))) (fun _ _ _ _ _ => dts_nil) (fun _ _ _ _ _ => (de_eq hr.units (de_var 5) (de_var 6)))) da_nil))))
 (dssx_one (dsx_if (dt_w (dw_or (dt_not (dt_chain_le_le de_int (de_len rfl T.f_len (da_cons (de_var 0) da_nil)) T.c_MAX_SPOTS.de)) (dw_or1 (dt_val (de_var 4)))))
 (dssx_one (dsx_raiseA GXA_InvalidStroke (by simp) (by decide) tk (hr.mono (by decide)) rfl (da_cons (de_var 1) da_nil)))
 dssx_nil))))
theorem dvx_area (Γ : CL) (T : Fc K mg Γ) (G_scaled : FnG P w K mg base 3 "scaled" (sp_scaled Γ)) (G_ratio : FnG P w K mg base 2 "ratio" (sp_ratio Γ)) (GX_check_stroke : FnGX P w K mg base 5 "check_stroke" (spx_check_stroke Γ)) (cdv : Value) (A : Around) (outer : List Env) (s0 : Shared) (H : Hp) (E : XK) (hr : Room 5 (A.deeper (envOfC "area" (defScope (top 35)) s0.heap.objs.size f cdv))) (tk : Takes (cxOf (L2.CX P w) P w K mg base ["stroke", "scale", "places", "total", "one", "other"] "area" (defScope (top 35)) f cdv A outer s0 H E) (fun cls d _ H' => E cls d H')) : DSsX (cxOf (L2.CX P w) P w K mg base ["stroke", "scale", "places", "total", "one", "other"] "area" (defScope (top 35)) f cdv A outer s0 H E) (fun cls d _ H' => E cls d H') (defBody (top 35)) (rdx_area Γ) :=
 (dssx_cons (dsx_expr (dex_call GX_check_stroke tk (hr.mono (by decide)) (by rfl) (da_cons (de_var 0) (da_cons de_int da_nil))))
 (dssx_cons (dsx_if (dt_ne hr.units (de_ix (de_var 0) de_int) (de_ix (de_var 0) (de_neg de_int)))
 (dssx_one (dsx_raise T.x_OpenStroke tk rfl))
 dssx_nil)
 (dssx_cons (dsx_nox (ds_asg (vs := [1, 2]) (de_call G_scaled (hr.mono (by decide)) rfl (da_cons (de_lst (da_cons (de_var 0) da_nil)) da_nil)) (dg_tup (dgs_cons (dg_name (i := 1) sc_area.nd) (dgs_cons (dg_name (i := 2) sc_area.nd) dgs_nil)))))
 (dssx_cons (dsx_nox (ds_set (i := 3) sc_area.nd de_int))
 (dssx_cons (dsx_nox (ds_for (vs := [4, 5]) (di_zip rfl T.f_zip (da_cons (de_ix (de_var 2) de_int) (da_cons (de_slice (de_ix (de_var 2) de_int) (do_some de_int) do_none) da_nil))) (dg_tup (dgs_cons (dg_name (i := 4) sc_area.nd) (dgs_cons (dg_name (i := 5) sc_area.nd) dgs_nil)))
 (dss_one (ds_augAdd (i := 3) sc_area.nd (de_sub (de_mul (de_ix (de_var 4) de_int) (de_ix (de_var 5) de_int)) (de_mul (de_ix (de_var 5) de_int) (de_ix (de_var 4) de_int)))))))
 (dssx_one (dsx_nox (ds_ret (de_call G_ratio (hr.mono (by decide)) rfl (da_cons (de_var 3) (da_cons (de_mul (de_mul de_int (de_var 1)) (de_var 1)) da_nil)))))))))))
theorem dv_law_random (Γ : CL) (T : Fc K mg Γ)  (cdv : Value) (A : Around) (outer : List Env) (s0 : Shared) (H : Hp) (E : XK) (hr : Room 0 (A.deeper (envOfC "_law_random" (defScope (top 37)) s0.heap.objs.size f cdv))) : DSs (cxOf CX0 P w K mg base ["_law_script", "_law_salt", "_law_seed", "_law_cell"] "_law_random" (defScope (top 37)) f cdv A outer s0 H E).nox (defBody (top 37)) (rd_law_random Γ) :=
 (dss_cons (ds_set (i := 2) sc_law_random.nd (de_var 1))
 (dss_cons (ds_for (vs := [3]) (di_list (de_var 0)) (dg_name (i := 3) sc_law_random.nd)
 (dss_one (ds_set (i := 2) sc_law_random.nd (de_mod (de_add (de_mul (de_var 2) de_int) (de_abs rfl T.f_abs (da_cons (de_var 3) da_nil))) de_int))))
 (dss_one (ds_ret (de_addM (de_lst (da_cons (de_var 2) (da_cons de_int da_nil))) (de_lc [("_law_cell", 3)] sc_law_random.nd (di_list (de_var 0)) (by kernel_rfl) (fun _ _ _ _ _ => (dg_name (i := 3) sc_law_random.nd)) (fun _ _ _ _ _ => (dts_one (dt_ge (de_var 3) (de_pow de_int de_int)))) (fun _ _ _ _ _ => (de_var 3))))))))
theorem dv_law_below (Γ : CL) (T : Fc K mg Γ)  (cdv : Value) (A : Around) (outer : List Env) (s0 : Shared) (H : Hp) (E : XK) (hr : Room 0 (A.deeper (envOfC "_law_below" (defScope (top 38)) s0.heap.objs.size f cdv))) : DSs (cxOf CX0 P w K mg base ["_law_d", "_law_limit", "_law_result"] "_law_below" (defScope (top 38)) f cdv A outer s0 H E).nox (defBody (top 38)) (rd_law_below Γ) :=
 (dss_cons (ds_if (dt_w (dw_and (dt_eq hr.units (de_ix (de_var 0) de_int) de_int) (dw_and1 (dt_gt (de_len rfl T.f_len (da_cons (de_var 0) da_nil)) de_int))))
 (dss_one (ds_setIx (de_popAt (de_var 0) (da_cons de_int da_nil)) (de_var 0) de_int))
 dss_nil)
 (dss_cons (ds_if (dt_gt (de_ix (de_var 0) de_int) de_int)
 (dss_cons (ds_set (i := 2) sc_law_below.nd (de_mod (de_ix (de_var 0) de_int) (de_var 1)))
 (dss_cons (ds_setIx (de_div (de_ix (de_var 0) de_int) (de_var 1)) (de_var 0) de_int)
 (dss_one (ds_ret (de_var 2)))))
 dss_nil)
 (dss_cons (ds_setIx (de_mod (de_add (de_mul (de_ix (de_var 0) de_int) de_int) de_int) de_int) (de_var 0) de_int)
 (dss_one (ds_ret (de_mod (de_div (de_ix (de_var 0) de_int) de_int) (de_var 1)))))))
theorem dv_law_step (Γ : CL) (T : Fc K mg Γ) (G_law_below : FnG P w K mg base 1 "_law_below" (sp_law_below Γ)) (cdv : Value) (A : Around) (outer : List Env) (s0 : Shared) (H : Hp) (E : XK) (hr : Room 1 (A.deeper (envOfC "_law_step" (defScope (top 39)) s0.heap.objs.size f cdv))) : DSs (cxOf CX0 P w K mg base ["_law_d", "_law_size_now"] "_law_step" (defScope (top 39)) f cdv A outer s0 H E).nox (defBody (top 39)) (rd_law_step Γ) :=
 (dss_one (ds_ret (de_tup (da_cons (de_sub (de_call G_law_below (hr.mono (by decide)) rfl (da_cons (de_var 0) (da_cons (de_add (de_mul de_int (de_var 1)) de_int) da_nil))) (de_var 1)) (da_cons (de_sub (de_call G_law_below (hr.mono (by decide)) rfl (da_cons (de_var 0) (da_cons (de_add (de_mul de_int (de_var 1)) de_int) da_nil))) (de_var 1)) (da_cons de_int da_nil))))))
theorem dv_law_common (Γ : CL) (T : Fc K mg Γ)  (cdv : Value) (A : Around) (outer : List Env) (s0 : Shared) (H : Hp) (E : XK) (hr : Room 0 (A.deeper (envOfC "_law_common" (defScope (top 40)) s0.heap.objs.size f cdv))) : DSs (cxOf CX0 P w K mg base ["_law_one", "_law_other"] "_law_common" (defScope (top 40)) f cdv A outer s0 H E).nox (defBody (top 40)) (rd_law_common Γ) :=
 (dss_cons (ds_par (i := 0) (j := 1) sc_law_common.nd (da_cons (de_abs rfl T.f_abs (da_cons (de_var 0) da_nil)) (da_cons (de_abs rfl T.f_abs (da_cons (de_var 1) da_nil)) da_nil)))
 (dss_cons (ds_while (dt_gt (de_var 1) de_int) (dss_one (ds_par (i := 0) (j := 1) sc_law_common.nd (da_cons (de_var 1) (da_cons (de_mod (de_var 0) (de_var 1)) da_nil)))))
 (dss_one (ds_ret (de_var 0)))))
theorem dv_law_lowest (Γ : CL) (T : Fc K mg Γ) (G_law_common : FnG P w K mg base 1 "_law_common" (sp_law_common Γ)) (cdv : Value) (A : Around) (outer : List Env) (s0 : Shared) (H : Hp) (E : XK) (hr : Room 1 (A.deeper (envOfC "_law_lowest" (defScope (top 41)) s0.heap.objs.size f cdv))) : DSs (cxOf CX0 P w K mg base ["_law_x", "_law_y", "_law_q", "_law_common_now"] "_law_lowest" (defScope (top 41)) f cdv A outer s0 H E).nox (defBody (top 41)) (rd_law_lowest Γ) :=
 (dss_cons (ds_set (i := 3) sc_law_lowest.nd (de_call G_law_common (hr.mono (by decide)) rfl (da_cons (de_call G_law_common (hr.mono (by decide)) rfl (da_cons (de_var 0) (da_cons (de_var 1) da_nil))) (da_cons (de_var 2) da_nil))))
 (dss_cons (ds_set (i := 3) sc_law_lowest.nd (de_if (dt_gt (de_var 2) de_int) (de_var 3) (de_sub de_int (de_var 3))))
 (dss_one (ds_ret (de_tup (da_cons (de_div (de_var 0) (de_var 3)) (da_cons (de_div (de_var 1) (de_var 3)) (da_cons (de_div (de_var 2) (de_var 3)) da_nil))))))))
theorem dv_law_spotT (Γ : CL) (T : Fc K mg Γ) (G_law_below : FnG P w K mg base 1 "_law_below" (sp_law_below Γ)) (G_law_lowest : FnG P w K mg base 2 "_law_lowest" (sp_law_lowest Γ)) (cdv : Value) (A : Around) (outer : List Env) (s0 : Shared) (H : Hp) (E : XK) (hr : Room 2 (A.deeper (envOfC "_law_spot" (defScope (top 42)) s0.heap.objs.size f cdv))) : DSs (cxOf CX0 P w K mg base ["_law_d", "_law_below_here"] "_law_spot" (defScope (top 42)) f cdv A outer s0 H E).nox (defBody (top 42)) (rd_law_spotT Γ) :=
 (dss_cons (ds_set (i := 1) sc_law_spotT.nd (de_ix (de_lst (da_cons de_int (da_cons de_int (da_cons de_int (da_cons de_int (da_cons de_int (da_cons de_int da_nil))))))) (de_call G_law_below (hr.mono (by decide)) rfl (da_cons (de_var 0) (da_cons de_int da_nil)))))
 (dss_one (ds_ret (de_call G_law_lowest (hr.mono (by decide)) rfl (da_cons (de_sub (de_call G_law_below (hr.mono (by decide)) rfl (da_cons (de_var 0) (da_cons de_int da_nil))) de_int) (da_cons (de_sub (de_call G_law_below (hr.mono (by decide)) rfl (da_cons (de_var 0) (da_cons de_int da_nil))) de_int) (da_cons (de_var 1) da_nil)))))))
theorem dv_law_strokeH (Γ : CL) (T : Fc K mg Γ) (G_law_step : FnG P w K mg base 2 "_law_step" (sp_law_step Γ)) (G_law_below : FnG P w K mg base 1 "_law_below" (sp_law_below Γ)) (G_law_spotT : FnG P w K mg base 3 "_law_spot" (sp_law_spotT Γ)) (cdv : Value) (A : Around) (outer : List Env) (s0 : Shared) (H : Hp) (E : XK) (hr : Room 3 (A.deeper (envOfC "_law_stroke" (defScope (top 43)) s0.heap.objs.size f cdv))) : DSs (cxOf CX0 P w K mg base ["_law_d", "_law_most", "_law_stroke_here", "_law_k", "_law_spot_here"] "_law_stroke" (defScope (top 43)) f cdv A outer s0 H E).nox (defBody (top 43)) (rd_law_strokeH Γ) :=
 (dss_cons (ds_set (i := 2) sc_law_strokeH.nd (de_tup (da_cons (de_call G_law_step (hr.mono (by decide)) rfl (da_cons (de_var 0) (da_cons de_int da_nil))) da_nil)))
 (dss_cons (ds_for (vs := [3]) (di_range1 rfl T.f_range (da_cons (de_call G_law_below (hr.mono (by decide)) rfl (da_cons (de_var 0) (da_cons (de_var 1) da_nil))) da_nil)) (dg_name (i := 3) sc_law_strokeH.nd)
 (dss_cons (ds_set (i := 4) sc_law_strokeH.nd (de_if (dt_gt (de_call G_law_below (hr.mono (by decide)) rfl (da_cons (de_var 0) (da_cons de_int da_nil))) de_int) (de_call G_law_step (hr.mono (by decide)) rfl (da_cons (de_var 0) (da_cons de_int da_nil))) (de_call G_law_spotT (hr.mono (by decide)) rfl (da_cons (de_var 0) da_nil))))
 (dss_one (ds_if (dt_ne hr.units (de_var 4) (de_ix (de_var 2) (de_neg de_int)))
 (dss_one (ds_set (i := 2) sc_law_strokeH.nd (de_add (de_var 2) (de_tup (da_cons (de_var 4) da_nil)))))
 dss_nil))))
 (dss_one (ds_ret (de_var 2)))))
theorem dv_is_int (Γ : CL) (T : Fc K mg Γ)  (cdv : Value) (A : Around) (outer : List Env) (s0 : Shared) (H : Hp) (E : XK) (hr : Room 0 (A.deeper (envOfC "is_int" (defScope (top 23)) s0.heap.objs.size f cdv))) : DSs (cxOf CX0 P w K mg base ["value"] "is_int" (defScope (top 23)) f cdv A outer s0 H E).nox (defBody (top 23)) (rd_is_int Γ) :=
 (dss_one (ds_ret (de_and (de_isi rfl T.f_isinstance (da_cons (de_var 0) (da_cons (de_ty (n := "int") rfl T.f_int (by decide +kernel)) da_nil))) (de_one (de_not (de_isi rfl T.f_isinstance (da_cons (de_var 0) (da_cons (de_ty (n := "bool") rfl T.f_bool (by decide +kernel)) da_nil))))))))
theorem dv_common_divisor (Γ : CL) (T : Fc K mg Γ)  (cdv : Value) (A : Around) (outer : List Env) (s0 : Shared) (H : Hp) (E : XK) (hr : Room 0 (A.deeper (envOfC "common_divisor" (defScope (top 24)) s0.heap.objs.size f cdv))) : DSs (cxOf CX0 P w K mg base ["one", "other"] "common_divisor" (defScope (top 24)) f cdv A outer s0 H E).nox (defBody (top 24)) (rd_common_divisor Γ) :=
 (dss_cons (ds_par (i := 0) (j := 1) sc_common_divisor.nd (da_cons (de_abs rfl T.f_abs (da_cons (de_var 0) da_nil)) (da_cons (de_abs rfl T.f_abs (da_cons (de_var 1) da_nil)) da_nil)))
 (dss_cons (ds_while (dt_gt (de_var 1) de_int) (dss_one (ds_par (i := 0) (j := 1) sc_common_divisor.nd (da_cons (de_var 1) (da_cons (de_mod (de_var 0) (de_var 1)) da_nil)))))
 (dss_one (ds_ret (de_var 0)))))
theorem dv_lowest (Γ : CL) (T : Fc K mg Γ) (G_common_divisor : FnG P w K mg base 1 "common_divisor" (sp_common_divisor Γ)) (cdv : Value) (A : Around) (outer : List Env) (s0 : Shared) (H : Hp) (E : XK) (hr : Room 1 (A.deeper (envOfC "lowest" (defScope (top 27)) s0.heap.objs.size f cdv))) : DSs (cxOf CX0 P w K mg base ["x", "y", "d", "divisor", "sign"] "lowest" (defScope (top 27)) f cdv A outer s0 H E).nox (defBody (top 27)) (rd_lowest Γ) :=
 (dss_cons (ds_set (i := 3) sc_lowest.nd (de_call G_common_divisor (hr.mono (by decide)) rfl (da_cons (de_call G_common_divisor (hr.mono (by decide)) rfl (da_cons (de_var 0) (da_cons (de_var 1) da_nil))) (da_cons (de_var 2) da_nil))))
 (dss_cons (ds_set (i := 4) sc_lowest.nd (de_if (dt_gt (de_var 2) de_int) de_int (de_neg de_int)))
 (dss_one (ds_ret (de_tup (da_cons (de_div (de_mul (de_var 4) (de_var 0)) (de_var 3)) (da_cons (de_div (de_mul (de_var 4) (de_var 1)) (de_var 3)) (da_cons (de_div (de_mul (de_var 4) (de_var 2)) (de_var 3)) da_nil))))))))
theorem dv_is_number (Γ : CL) (T : Fc K mg Γ) (G_is_int : FnG P w K mg base 1 "is_int" (sp_is_int Γ)) (G_lowest : FnG P w K mg base 2 "lowest" (sp_lowest Γ)) (cdv : Value) (A : Around) (outer : List Env) (s0 : Shared) (H : Hp) (E : XK) (hr : Room 2 (A.deeper (envOfC "is_number" (defScope (top 28)) s0.heap.objs.size f cdv))) : DSs (cxOf CX0 P w K mg base ["value", "part"] "is_number" (defScope (top 28)) f cdv A outer s0 H E).nox (defBody (top 28)) (rd_is_number Γ) :=
 (dss_cons (ds_if (dt_w (dw_or (dt_not (dt_val (de_isi rfl T.f_isinstance (da_cons (de_var 0) (da_cons (de_ty (n := "tuple") rfl T.f_tuple (by decide +kernel)) da_nil))))) (dw_or (dt_ne hr.units (de_len rfl T.f_len (da_cons (de_var 0) da_nil)) de_int) (dw_or1 (dt_not (dt_val (de_all rfl T.f_all (da_cons (de_lc [("part", 1)] sc_is_number.nd (di_tup (de_var 0)) (by kernel_rfl) (fun _ _ _ _ _ => (dg_name (i := 1) sc_is_number.nd)) (fun _ _ _ _ _ => dts_nil) (fun _ _ _ _ _ => (de_call G_is_int (hr.mono (by decide)) rfl (da_cons (de_var 1) da_nil)))) da_nil))))))))
 (dss_one (ds_ret de_bl))
 dss_nil)
 (dss_one (ds_ret (de_and (de_gt (de_ix (de_var 0) de_int) de_int) (de_one (de_eq hr.units (de_callS1 G_lowest (hr.mono (by decide)) rfl (de_var 0)) (de_var 0)))))))
theorem dv_common_multiple (Γ : CL) (T : Fc K mg Γ) (G_common_divisor : FnG P w K mg base 1 "common_divisor" (sp_common_divisor Γ)) (cdv : Value) (A : Around) (outer : List Env) (s0 : Shared) (H : Hp) (E : XK) (hr : Room 1 (A.deeper (envOfC "common_multiple" (defScope (top 25)) s0.heap.objs.size f cdv))) : DSs (cxOf CX0 P w K mg base ["values", "found", "value"] "common_multiple" (defScope (top 25)) f cdv A outer s0 H E).nox (defBody (top 25)) (rd_common_multiple Γ) :=
 (dss_cons (ds_set (i := 1) sc_common_multiple.nd de_int)
 (dss_cons (ds_for (vs := [2]) (di_list (de_var 0)) (dg_name (i := 2) sc_common_multiple.nd)
 (dss_one (ds_set (i := 1) sc_common_multiple.nd (de_mul (de_div (de_var 1) (de_call G_common_divisor (hr.mono (by decide)) rfl (da_cons (de_var 1) (da_cons (de_var 2) da_nil)))) (de_var 2)))))
 (dss_one (ds_ret (de_var 1)))))
theorem dv_scaled (Γ : CL) (T : Fc K mg Γ) (G_common_multiple : FnG P w K mg base 2 "common_multiple" (sp_common_multiple Γ)) (cdv : Value) (A : Around) (outer : List Env) (s0 : Shared) (H : Hp) (E : XK) (hr : Room 2 (A.deeper (envOfC "scaled" (defScope (top 34)) s0.heap.objs.size f cdv))) : DSs (cxOf CX0 P w K mg base ["strokes", "scale", "stroke", "spot", "found"] "scaled" (defScope (top 34)) f cdv A outer s0 H E).nox (defBody (top 34)) (rd_scaled Γ) :=
 (dss_cons (ds_set (i := 1) sc_scaled.nd (de_call G_common_multiple (hr.mono (by decide)) rfl (da_cons (de_lc2 [("stroke", 2), ("spot", 3)] [3] sc_scaled.nd (di_seq (de_var 0)) (by kernel_rfl) (fun _ _ _ _ _ => (dg_name (i := 2) sc_scaled.nd)) (fun _ _ _ _ _ => dts_nil) (fun _ _ _ _ _ => (di_tup (de_var 2))) (fun _ _ _ _ _ => (dg_name (i := 3) sc_scaled.nd)) (fun _ _ _ _ _ => dts_nil) (fun _ _ _ _ _ => (de_ix (de_var 3) de_int))) da_nil)))
 (dss_cons (ds_set (i := 4) sc_scaled.nd (de_lstM da_nil))
 (dss_cons (ds_for (vs := [2]) (di_seq (de_var 0)) (dg_name (i := 2) sc_scaled.nd)
 (dss_one (ds_expr (de_append (de_var 4) (da_cons (de_tuple rfl T.f_tuple (da_cons (de_lc [("spot", 3)] sc_scaled.nd (di_tup (de_var 2)) (by kernel_rfl) (fun _ _ _ _ _ => (dg_name (i := 3) sc_scaled.nd)) (fun _ _ _ _ _ => dts_nil) (fun _ _ _ _ _ => (de_tup (da_cons (de_mul (de_ix (de_var 3) de_int) (de_div (de_var 1) (de_ix (de_var 3) de_int))) (da_cons (de_mul (de_ix (de_var 3) de_int) (de_div (de_var 1) (de_ix (de_var 3) de_int))) da_nil))))) da_nil)) da_nil)))))
 (dss_one (ds_ret (de_tup (da_cons (de_var 1) (da_cons (de_frz (de_var 4)) da_nil))))))))
theorem dv_ratio (Γ : CL) (T : Fc K mg Γ) (G_common_divisor : FnG P w K mg base 1 "common_divisor" (sp_common_divisor Γ)) (cdv : Value) (A : Around) (outer : List Env) (s0 : Shared) (H : Hp) (E : XK) (hr : Room 1 (A.deeper (envOfC "ratio" (defScope (top 26)) s0.heap.objs.size f cdv))) : DSs (cxOf CX0 P w K mg base ["numerator", "denominator", "divisor"] "ratio" (defScope (top 26)) f cdv A outer s0 H E).nox (defBody (top 26)) (rd_ratio Γ) :=
 (dss_cons (ds_set (i := 2) sc_ratio.nd (de_call G_common_divisor (hr.mono (by decide)) rfl (da_cons (de_var 0) (da_cons (de_var 1) da_nil))))
 (dss_one (ds_ret (de_tup (da_cons (de_div (de_var 0) (de_var 2)) (da_cons (de_div (de_var 1) (de_var 2)) da_nil))))))
theorem dv_law_times (Γ : CL) (T : Fc K mg Γ) (G_law_lowest : FnG P w K mg base 2 "_law_lowest" (sp_law_lowest Γ)) (cdv : Value) (A : Around) (outer : List Env) (s0 : Shared) (H : Hp) (E : XK) (hr : Room 2 (A.deeper (envOfC "_law_times" (defScope (top 45)) s0.heap.objs.size f cdv))) : DSs (cxOf CX0 P w K mg base ["_law_one", "_law_other", "_law_x", "_law_y"] "_law_times" (defScope (top 45)) f cdv A outer s0 H E).nox (defBody (top 45)) (rd_law_times Γ) :=
 (dss_cons (ds_set (i := 2) sc_law_times.nd (de_sub (de_mul (de_ix (de_var 0) de_int) (de_ix (de_var 1) de_int)) (de_mul (de_ix (de_var 0) de_int) (de_ix (de_var 1) de_int))))
 (dss_cons (ds_set (i := 3) sc_law_times.nd (de_add (de_mul (de_ix (de_var 0) de_int) (de_ix (de_var 1) de_int)) (de_mul (de_ix (de_var 0) de_int) (de_ix (de_var 1) de_int))))
 (dss_one (ds_ret (de_call G_law_lowest (hr.mono (by decide)) rfl (da_cons (de_var 2) (da_cons (de_var 3) (da_cons (de_mul (de_ix (de_var 0) de_int) (de_ix (de_var 1) de_int)) da_nil))))))))
theorem dv_law_over (Γ : CL) (T : Fc K mg Γ)  (cdv : Value) (A : Around) (outer : List Env) (s0 : Shared) (H : Hp) (E : XK) (hr : Room 0 (A.deeper (envOfC "_law_over" (defScope (top 46)) s0.heap.objs.size f cdv))) : DSs (cxOf CX0 P w K mg base ["_law_one"] "_law_over" (defScope (top 46)) f cdv A outer s0 H E).nox (defBody (top 46)) (rd_law_over Γ) :=
 (dss_one (ds_ret (de_tup (da_cons (de_ix (de_var 0) de_int) (da_cons (de_sub de_int (de_ix (de_var 0) de_int)) (da_cons (de_ix (de_var 0) de_int) da_nil))))))
theorem dv_law_plus (Γ : CL) (T : Fc K mg Γ) (G_law_lowest : FnG P w K mg base 2 "_law_lowest" (sp_law_lowest Γ)) (cdv : Value) (A : Around) (outer : List Env) (s0 : Shared) (H : Hp) (E : XK) (hr : Room 2 (A.deeper (envOfC "_law_plus" (defScope (top 47)) s0.heap.objs.size f cdv))) : DSs (cxOf CX0 P w K mg base ["_law_one", "_law_other", "_law_x", "_law_y"] "_law_plus" (defScope (top 47)) f cdv A outer s0 H E).nox (defBody (top 47)) (rd_law_plus Γ) :=
 (dss_cons (ds_set (i := 2) sc_law_plus.nd (de_add (de_mul (de_ix (de_var 0) de_int) (de_ix (de_var 1) de_int)) (de_mul (de_ix (de_var 1) de_int) (de_ix (de_var 0) de_int))))
 (dss_cons (ds_set (i := 3) sc_law_plus.nd (de_add (de_mul (de_ix (de_var 0) de_int) (de_ix (de_var 1) de_int)) (de_mul (de_ix (de_var 1) de_int) (de_ix (de_var 0) de_int))))
 (dss_one (ds_ret (de_call G_law_lowest (hr.mono (by decide)) rfl (da_cons (de_var 2) (da_cons (de_var 3) (da_cons (de_mul (de_ix (de_var 0) de_int) (de_ix (de_var 1) de_int)) da_nil))))))))
theorem dv_check_spot (Γ : CL) (T : Fc K mg Γ) (G_is_number : FnG P w K mg base 3 "is_number" (sp_is_number Γ)) (cdv : Value) (A : Around) (outer : List Env) (s0 : Shared) (H : Hp) (E : XK) (hr : Room 3 (A.deeper (envOfC "check_spot" (defScope (top 30)) s0.heap.objs.size f cdv))) : DSs (cxOf CX0 P w K mg base ["value"] "check_spot" (defScope (top 30)) f cdv A outer s0 H E).nox (defBody (top 30)) (rd_check_spot Γ) :=
 (dss_one (ds_if (dt_not (dt_val (de_call G_is_number (hr.mono (by decide)) rfl (da_cons (de_var 0) da_nil))))
 (dss_one ds_never)
 dss_nil))
theorem dv_check_stroke (Γ : CL) (T : Fc K mg Γ) (G_check_spot : FnG P w K mg base 4 "check_spot" (sp_check_spot Γ)) (cdv : Value) (A : Around) (outer : List Env) (s0 : Shared) (H : Hp) (E : XK) (hr : Room 4 (A.deeper (envOfC "check_stroke" (defScope (top 33)) s0.heap.objs.size f cdv))) : DSs (cxOf CX0 P w K mg base ["stroke", "index", "spot", "e", "is_still", "one", "other"] "check_stroke" (defScope (top 33)) f cdv A outer s0 H E).nox (defBody (top 33)) (rd_check_stroke Γ) :=
 (dss_cons (ds_thru (dss_one (ds_for (vs := [2]) (di_tup (de_var 0)) (dg_name (i := 2) sc_check_stroke.nd)
 (dss_one (ds_expr (de_call G_check_spot (hr.mono (by decide)) rfl (da_cons (de_var 2) da_nil)))))))
 (dss_cons (ds_set (i := 4) sc_check_stroke.nd (de_any rfl T.f_any (da_cons (de_lc [("one", 5), ("other", 6)] sc_check_stroke.nd (di_zip rfl T.f_zip (da_cons (de_var 0) (da_cons (de_slice (de_var 0) (do_some de_int) do_none) da_nil))) (by kernel_rfl) (fun _ _ _ _ _ => (dg_tup (dgs_cons (dg_name (i := 5) sc_check_stroke.nd) (dgs_cons (dg_name (i := 6) sc_check_stroke.nd) dgs_nil)))) (fun _ _ _ _ _ => dts_nil) (fun _ _ _ _ _ => (de_eq hr.units (de_var 5) (de_var 6)))) da_nil)))
 (dss_one (ds_if (dt_w (dw_or (dt_not (dt_chain_le_le de_int (de_len rfl T.f_len (da_cons (de_var 0) da_nil)) T.c_MAX_SPOTS.de)) (dw_or1 (dt_val (de_var 4)))))
 (dss_one ds_never)
 dss_nil))))
theorem dv_area (Γ : CL) (T : Fc K mg Γ) (G_check_stroke : FnG P w K mg base 5 "check_stroke" (sp_check_stroke Γ)) (G_scaled : FnG P w K mg base 3 "scaled" (sp_scaled Γ)) (G_ratio : FnG P w K mg base 2 "ratio" (sp_ratio Γ)) (cdv : Value) (A : Around) (outer : List Env) (s0 : Shared) (H : Hp) (E : XK) (hr : Room 5 (A.deeper (envOfC "area" (defScope (top 35)) s0.heap.objs.size f cdv))) : DSs (cxOf CX0 P w K mg base ["stroke", "scale", "places", "total", "one", "other"] "area" (defScope (top 35)) f cdv A outer s0 H E).nox (defBody (top 35)) (rd_area Γ) :=
 (dss_cons (ds_expr (de_call G_check_stroke (hr.mono (by decide)) rfl (da_cons (de_var 0) (da_cons de_int da_nil))))
 (dss_cons (ds_if (dt_ne hr.units (de_ix (de_var 0) de_int) (de_ix (de_var 0) (de_neg de_int)))
 (dss_one ds_never)
 dss_nil)
 (dss_cons (ds_asg (vs := [1, 2]) (de_call G_scaled (hr.mono (by decide)) rfl (da_cons (de_lst (da_cons (de_var 0) da_nil)) da_nil)) (dg_tup (dgs_cons (dg_name (i := 1) sc_area.nd) (dgs_cons (dg_name (i := 2) sc_area.nd) dgs_nil))))
 (dss_cons (ds_set (i := 3) sc_area.nd de_int)
 (dss_cons (ds_for (vs := [4, 5]) (di_zip rfl T.f_zip (da_cons (de_ix (de_var 2) de_int) (da_cons (de_slice (de_ix (de_var 2) de_int) (do_some de_int) do_none) da_nil))) (dg_tup (dgs_cons (dg_name (i := 4) sc_area.nd) (dgs_cons (dg_name (i := 5) sc_area.nd) dgs_nil)))
 (dss_one (ds_augAdd (i := 3) sc_area.nd (de_sub (de_mul (de_ix (de_var 4) de_int) (de_ix (de_var 5) de_int)) (de_mul (de_ix (de_var 5) de_int) (de_ix (de_var 4) de_int))))))
 (dss_one (ds_ret (de_call G_ratio (hr.mono (by decide)) rfl (da_cons (de_var 3) (da_cons (de_mul (de_mul de_int (de_var 1)) (de_var 1)) da_nil))))))))))
theorem dv_law_equal (Γ : CL) (T : Fc K mg Γ) {k m : Nat} (G_law_equal : FnG P w K mg base k "_law_equal" (sp_law_equal Γ m)) (cdv : Value) (A : Around) (outer : List Env) (s0 : Shared) (H : Hp) (E : XK) (hr : Room k (A.deeper (envOfC "_law_equal" (defScope (top 48)) s0.heap.objs.size f cdv))) : DSs (cxOf CX0 P w K mg base ["_law_actual", "_law_expected", "_law_k"] "_law_equal" (defScope (top 48)) f cdv A outer s0 H E).nox (defBody (top 48)) (rd_law_equal Γ m) :=
 (dss_cons (ds_if (dt_isN (de_var 1) de_non)
 (dss_one (ds_ret (de_isN (de_var 0) de_non)))
 dss_nil)
 (dss_cons (ds_if (dt_val (de_isi rfl T.f_isinstance (da_cons (de_var 1) (da_cons (de_ty (n := "bool") rfl T.f_bool (by decide +kernel)) da_nil))))
 (dss_one (ds_ret (de_and (de_isi rfl T.f_isinstance (da_cons (de_var 0) (da_cons (de_ty (n := "bool") rfl T.f_bool (by decide +kernel)) da_nil))) (de_one (de_eq hr.units (de_var 0) (de_var 1))))))
 dss_nil)
 (dss_cons (ds_if (dt_val (de_isi rfl T.f_isinstance (da_cons (de_var 1) (da_cons (de_ty (n := "int") rfl T.f_int (by decide +kernel)) da_nil))))
 (dss_one (ds_ret (de_and (de_isi rfl T.f_isinstance (da_cons (de_var 0) (da_cons (de_ty (n := "int") rfl T.f_int (by decide +kernel)) da_nil))) (de_and (de_not (de_isi rfl T.f_isinstance (da_cons (de_var 0) (da_cons (de_ty (n := "bool") rfl T.f_bool (by decide +kernel)) da_nil)))) (de_one (de_eq hr.units (de_var 0) (de_var 1)))))))
 dss_nil)
 (dss_cons (ds_if (dt_val (de_isi rfl T.f_isinstance (da_cons (de_var 1) (da_cons (de_ty (n := "str") rfl T.f_str (by decide +kernel)) da_nil))))
 (dss_one (ds_ret (de_and (de_isi rfl T.f_isinstance (da_cons (de_var 0) (da_cons (de_ty (n := "str") rfl T.f_str (by decide +kernel)) da_nil))) (de_one (de_eq hr.units (de_var 0) (de_var 1))))))
 dss_nil)
 (dss_cons (ds_if (dt_ne hr.units (de_isi rfl T.f_isinstance (da_cons (de_var 1) (da_cons (de_ty (n := "tuple") rfl T.f_tuple (by decide +kernel)) da_nil))) (de_isi rfl T.f_isinstance (da_cons (de_var 0) (da_cons (de_ty (n := "tuple") rfl T.f_tuple (by decide +kernel)) da_nil))))
 (dss_one (ds_ret de_bl))
 dss_nil)
 (dss_cons (ds_if (dt_ne hr.units (de_isi rfl T.f_isinstance (da_cons (de_var 1) (da_cons (de_ty (n := "list") rfl T.f_list (by decide +kernel)) da_nil))) (de_isi rfl T.f_isinstance (da_cons (de_var 0) (da_cons (de_ty (n := "list") rfl T.f_list (by decide +kernel)) da_nil))))
 (dss_one (ds_ret de_bl))
 dss_nil)
 (dss_cons (ds_if (dt_ne hr.units (de_len rfl T.f_len (da_cons (de_var 0) da_nil)) (de_len rfl T.f_len (da_cons (de_var 1) da_nil)))
 (dss_one (ds_ret de_bl))
 dss_nil)
 (dss_one (ds_ret (de_all rfl T.f_all (da_cons (de_lc [("_law_k", 2)] sc_law_equal.nd (di_range1 rfl T.f_range (da_cons (de_len rfl T.f_len (da_cons (de_var 1) da_nil)) da_nil)) (by kernel_rfl) (fun _ _ _ _ _ => (dg_name (i := 2) sc_law_equal.nd)) (fun _ _ _ _ _ => dts_nil) (fun _ _ _ _ _ => (de_call G_law_equal hr rfl (da_cons (de_ix (de_var 0) (de_var 2)) (da_cons (de_ix (de_var 1) (de_var 2)) da_nil))))) da_nil)))))))))))
theorem dv_law_turnT (Γ : CL) (T : Fc K mg Γ) (G_law_below : FnG P w K mg base 1 "_law_below" (sp_law_below Γ)) (cdv : Value) (A : Around) (outer : List Env) (s0 : Shared) (H : Hp) (E : XK) (hr : Room 1 (A.deeper (envOfC "_law_turn" (defScope (top 49)) s0.heap.objs.size f cdv))) : DSs (cxOf CX0 P w K mg base ["_law_d", "_law_some"] "_law_turn" (defScope (top 49)) f cdv A outer s0 H E).nox (defBody (top 49)) (rd_law_turnT Γ) :=
 (dss_cons (ds_set (i := 1) sc_law_turnT.nd (de_lst (da_cons (de_tup (da_cons de_int (da_cons de_int (da_cons de_int da_nil)))) (da_cons (de_tup (da_cons (de_sub de_int de_int) (da_cons de_int (da_cons de_int da_nil)))) (da_cons (de_tup (da_cons de_int (da_cons de_int (da_cons de_int da_nil)))) (da_cons (de_tup (da_cons de_int (da_cons (de_sub de_int de_int) (da_cons de_int da_nil)))) (da_cons (de_tup (da_cons de_int (da_cons de_int (da_cons de_int da_nil)))) (da_cons (de_tup (da_cons de_int (da_cons de_int (da_cons de_int da_nil)))) (da_cons (de_tup (da_cons de_int (da_cons de_int (da_cons de_int da_nil)))) (da_cons (de_tup (da_cons de_int (da_cons de_int (da_cons de_int da_nil)))) da_nil))))))))))
 (dss_cons (ds_set (i := 1) sc_law_turnT.nd (de_add (de_var 1) (de_lst (da_cons (de_tup (da_cons de_int (da_cons de_int (da_cons de_int da_nil)))) (da_cons (de_tup (da_cons (de_sub de_int de_int) (da_cons de_int (da_cons de_int da_nil)))) (da_cons (de_tup (da_cons de_int (da_cons (de_sub de_int de_int) (da_cons de_int da_nil)))) (da_cons (de_tup (da_cons de_int (da_cons de_int (da_cons de_int da_nil)))) (da_cons (de_tup (da_cons (de_sub de_int de_int) (da_cons de_int (da_cons de_int da_nil)))) da_nil))))))))
 (dss_one (ds_ret (de_ix (de_var 1) (de_call G_law_below (hr.mono (by decide)) rfl (da_cons (de_var 0) (da_cons de_int da_nil))))))))
theorem dv_law_toldT (Γ : CL) (T : Fc K mg Γ) (G_law_below : FnG P w K mg base 1 "_law_below" (sp_law_below Γ)) (G_law_spotT : FnG P w K mg base 3 "_law_spot" (sp_law_spotT Γ)) (G_law_turnT : FnG P w K mg base 2 "_law_turn" (sp_law_turnT Γ)) (cdv : Value) (A : Around) (outer : List Env) (s0 : Shared) (H : Hp) (E : XK) (hr : Room 3 (A.deeper (envOfC "_law_told" (defScope (top 50)) s0.heap.objs.size f cdv))) : DSs (cxOf CX0 P w K mg base ["_law_d"] "_law_told" (defScope (top 50)) f cdv A outer s0 H E).nox (defBody (top 50)) (rd_law_toldT Γ) :=
 (dss_one (ds_ret (de_tup (da_cons (de_call G_law_turnT (hr.mono (by decide)) rfl (da_cons (de_var 0) da_nil)) (da_cons (de_call G_law_spotT (hr.mono (by decide)) rfl (da_cons (de_var 0) da_nil)) (da_cons (de_eq hr.units (de_call G_law_below (hr.mono (by decide)) rfl (da_cons (de_var 0) (da_cons de_int da_nil))) de_int) da_nil))))))
theorem dv_law_carried (Γ : CL) (T : Fc K mg Γ) (G_law_plus : FnG P w K mg base 3 "_law_plus" (sp_law_plus Γ)) (G_law_times : FnG P w K mg base 3 "_law_times" (sp_law_times Γ)) (G_law_over : FnG P w K mg base 1 "_law_over" (sp_law_over Γ)) (cdv : Value) (A : Around) (outer : List Env) (s0 : Shared) (H : Hp) (E : XK) (hr : Room 3 (A.deeper (envOfC "_law_carried" (defScope (top 51)) s0.heap.objs.size f cdv))) : DSs (cxOf CX0 P w K mg base ["_law_told_here", "_law_spot_here"] "_law_carried" (defScope (top 51)) f cdv A outer s0 H E).nox (defBody (top 51)) (rd_law_carried Γ) :=
 (dss_one (ds_ret (de_call G_law_plus (hr.mono (by decide)) rfl (da_cons (de_call G_law_times (hr.mono (by decide)) rfl (da_cons (de_ix (de_var 0) de_int) (da_cons (de_if (dt_val (de_ix (de_var 0) de_int)) (de_call G_law_over (hr.mono (by decide)) rfl (da_cons (de_var 1) da_nil)) (de_var 1)) da_nil))) (da_cons (de_ix (de_var 0) de_int) da_nil)))))
theorem dv_law_ratio (Γ : CL) (T : Fc K mg Γ) (G_law_lowest : FnG P w K mg base 2 "_law_lowest" (sp_law_lowest Γ)) (cdv : Value) (A : Around) (outer : List Env) (s0 : Shared) (H : Hp) (E : XK) (hr : Room 2 (A.deeper (envOfC "_law_ratio" (defScope (top 52)) s0.heap.objs.size f cdv))) : DSs (cxOf CX0 P w K mg base ["_law_p", "_law_q"] "_law_ratio" (defScope (top 52)) f cdv A outer s0 H E).nox (defBody (top 52)) (rd_law_ratio Γ) :=
 (dss_one (ds_ret (de_tup (da_cons (de_ix (de_call G_law_lowest (hr.mono (by decide)) rfl (da_cons (de_var 0) (da_cons de_int (da_cons (de_var 1) da_nil)))) de_int) (da_cons (de_ix (de_call G_law_lowest (hr.mono (by decide)) rfl (da_cons (de_var 0) (da_cons de_int (da_cons (de_var 1) da_nil)))) de_int) da_nil)))))
theorem dv_law_size (Γ : CL) (T : Fc K mg Γ) (G_law_ratio : FnG P w K mg base 3 "_law_ratio" (sp_law_ratio Γ)) (cdv : Value) (A : Around) (outer : List Env) (s0 : Shared) (H : Hp) (E : XK) (hr : Room 3 (A.deeper (envOfC "_law_size" (defScope (top 53)) s0.heap.objs.size f cdv))) : DSs (cxOf CX0 P w K mg base ["_law_one"] "_law_size" (defScope (top 53)) f cdv A outer s0 H E).nox (defBody (top 53)) (rd_law_size Γ) :=
 (dss_one (ds_ret (de_call G_law_ratio (hr.mono (by decide)) rfl (da_cons (de_add (de_mul (de_ix (de_var 0) de_int) (de_ix (de_var 0) de_int)) (de_mul (de_ix (de_var 0) de_int) (de_ix (de_var 0) de_int))) (da_cons (de_mul (de_ix (de_var 0) de_int) (de_ix (de_var 0) de_int)) da_nil)))))
theorem dv_law (Γ : CL) (T : Fc K mg Γ) (G_law_random : FnG P w K mg base 1 "_law_random" (sp_law_random Γ)) (G_law_strokeH : FnG P w K mg base 4 "_law_stroke" (sp_law_strokeH Γ)) (G_law_times : FnG P w K mg base 3 "_law_times" (sp_law_times Γ)) (G_law_over : FnG P w K mg base 1 "_law_over" (sp_law_over Γ)) (G_law_plus : FnG P w K mg base 3 "_law_plus" (sp_law_plus Γ)) (G_law_lowest : FnG P w K mg base 2 "_law_lowest" (sp_law_lowest Γ)) (G_area : FnG P w K mg base 6 "area" (sp_area Γ)) (G_law_equal : FnG P w K mg base 5 "_law_equal" (sp_law_equal Γ 5)) (G_law_below : FnG P w K mg base 1 "_law_below" (sp_law_below Γ)) (G_law_toldT : FnG P w K mg base 4 "_law_told" (sp_law_toldT Γ)) (G_law_carried : FnG P w K mg base 4 "_law_carried" (sp_law_carried Γ)) (G_law_size : FnG P w K mg base 4 "_law_size" (sp_law_size Γ)) (G_law_ratio : FnG P w K mg base 3 "_law_ratio" (sp_law_ratio Γ)) (G_err : ErrD P w K mg base "_law_error_of" (resE Γ errL)) (GX_area : FnGX P w K mg base 6 "area" (spx_area Γ)) (TB : LamX.TabB base mg (lawC K) Γ.tab) (A : Around) (outer : List Env) (s0 : Shared) (H : Hp) (E : XK) (hr : Room 8 (A.deeper (envOfC "law" (defScope (top 54)) s0.heap.objs.size f (.ref (lawC K))))) : DSs (cxOf CX0 P w K mg base ["_law_script", "_law_d", "_law_stroke_here", "_law_total", "_law_k", "_law_swept", "_law_found", "_law_at", "_law_told_here", "_law_moved", "_law_spot_here", "_law_growth", "_law_sign", "_law_bad"] "law" (defScope (top 54)) f (.ref (lawC K)) A outer s0 H E).nox (defBody (top 54)) (rd_law Γ) :=
 (dss_cons (ds_set (i := 1) sc_law.nd (de_call G_law_random (hr.mono (by decide)) rfl (da_cons (de_var 0) (da_cons de_int da_nil))))
 (dss_cons (ds_set (i := 2) sc_law.nd (de_call G_law_strokeH (hr.mono (by decide)) rfl (da_cons (de_var 1) (da_cons de_int da_nil))))
 (dss_cons (ds_if (dt_ne hr.units (de_ix (de_var 2) (de_neg de_int)) (de_ix (de_var 2) de_int))
 (dss_cons (ds_if (dt_ne hr.units (de_errOf (X := (cxOf CX0 P w K mg base ["_law_script", "_law_d", "_law_stroke_here", "_law_total", "_law_k", "_law_swept", "_law_found", "_law_at", "_law_told_here", "_law_moved", "_law_spot_here", "_law_growth", "_law_sign", "_law_bad"] "law" (defScope (top 54)) f (.ref (lawC K)) A outer s0 H E).nox) (k := 6) G_err (hr.mono (by decide)) rfl TB rfl (LamX.lamS_by (by kernel_rfl)) rfl (fun _ _ _ _ _ => rfl) (fun _ _ _ _ _ _ _ hr tk => (dex_call GX_area tk (hr.mono (by decide)) (by rfl) (da_cons (de_var 2) da_nil))) (q := lamQ) (by kernel_rfl)) (de_tup (da_cons de_str (da_cons de_int da_nil))))
 (dss_one (ds_ret de_bl))
 dss_nil)
 (dss_one (ds_set (i := 2) sc_law.nd (de_add (de_var 2) (de_tup (da_cons (de_ix (de_var 2) de_int) da_nil))))))
 dss_nil)
 (dss_cons (ds_set (i := 3) sc_law.nd (de_tup (da_cons de_int (da_cons de_int (da_cons de_int da_nil)))))
 (dss_cons (ds_for (vs := [4]) (di_range1 rfl T.f_range (da_cons (de_sub (de_len rfl T.f_len (da_cons (de_var 2) da_nil)) de_int) da_nil)) (dg_name (i := 4) sc_law.nd)
 (dss_cons (ds_set (i := 5) sc_law.nd (de_call G_law_times (hr.mono (by decide)) rfl (da_cons (de_call G_law_over (hr.mono (by decide)) rfl (da_cons (de_ix (de_var 2) (de_var 4)) da_nil)) (da_cons (de_ix (de_var 2) (de_add (de_var 4) de_int)) da_nil))))
 (dss_one (ds_set (i := 3) sc_law.nd (de_call G_law_plus (hr.mono (by decide)) rfl (da_cons (de_var 3) (da_cons (de_call G_law_lowest (hr.mono (by decide)) rfl (da_cons (de_ix (de_var 5) de_int) (da_cons de_int (da_cons (de_mul de_int (de_ix (de_var 5) de_int)) da_nil)))) da_nil)))))))
 (dss_cons (ds_set (i := 6) sc_law.nd (de_call G_area (hr.mono (by decide)) rfl (da_cons (de_var 2) da_nil)))
 (dss_cons (ds_if (dt_w (dw_or (dt_not (dt_val (de_call G_law_equal (hr.mono (by decide)) rfl (da_cons (de_var 6) (da_cons (de_tup (da_cons (de_ix (de_var 3) de_int) (da_cons (de_ix (de_var 3) de_int) da_nil))) da_nil))))) (dw_or1 (dt_not (dt_val (de_call G_law_equal (hr.mono (by decide)) rfl (da_cons (de_call G_area (hr.mono (by decide)) rfl (da_cons (de_rev (de_var 2) (de_neg de_int)) da_nil)) (da_cons (de_tup (da_cons (de_sub de_int (de_ix (de_var 3) de_int)) (da_cons (de_ix (de_var 3) de_int) da_nil))) da_nil))))))))
 (dss_one (ds_ret de_bl))
 dss_nil)
 (dss_cons (ds_set (i := 7) sc_law.nd (de_call G_law_below (hr.mono (by decide)) rfl (da_cons (de_var 1) (da_cons (de_len rfl T.f_len (da_cons (de_var 2) da_nil)) da_nil))))
 (dss_cons (ds_if (dt_w (dw_and (dt_gt (de_var 7) de_int) (dw_and1 (dt_ne hr.units (de_call G_area (hr.mono (by decide)) rfl (da_cons (de_add (de_slice (de_var 2) (do_some (de_var 7)) do_none) (de_slice (de_var 2) (do_some de_int) (do_some (de_add (de_var 7) de_int)))) da_nil)) (de_var 6)))))
 (dss_one (ds_ret de_bl))
 dss_nil)
 (dss_cons (ds_set (i := 8) sc_law.nd (de_call G_law_toldT (hr.mono (by decide)) rfl (da_cons (de_var 1) da_nil)))
 (dss_cons (ds_set (i := 9) sc_law.nd (de_tuple rfl T.f_tuple (da_cons (de_lc [("_law_spot_here", 10)] sc_law.nd (di_tup (de_var 2)) (by kernel_rfl) (fun _ _ _ _ _ => (dg_name (i := 10) sc_law.nd)) (fun _ _ _ _ _ => dts_nil) (fun _ _ _ _ _ => (de_call G_law_carried (hr.mono (by decide)) rfl (da_cons (de_var 8) (da_cons (de_var 10) da_nil))))) da_nil)))
 (dss_cons (ds_set (i := 11) sc_law.nd (de_call G_law_size (hr.mono (by decide)) rfl (da_cons (de_ix (de_var 8) de_int) da_nil)))
 (dss_cons (ds_set (i := 12) sc_law.nd (de_if (dt_val (de_ix (de_var 8) de_int)) (de_sub de_int de_int) de_int))
 (dss_cons (ds_if (dt_ne hr.units (de_call G_area (hr.mono (by decide)) rfl (da_cons (de_var 9) da_nil)) (de_call G_law_ratio (hr.mono (by decide)) rfl (da_cons (de_mul (de_mul (de_var 12) (de_ix (de_var 6) de_int)) (de_ix (de_var 11) de_int)) (da_cons (de_mul (de_ix (de_var 6) de_int) (de_ix (de_var 11) de_int)) da_nil))))
 (dss_one (ds_ret de_bl))
 dss_nil)
 (dss_cons (ds_set (i := 13) sc_law.nd (de_ix (de_lst (da_cons (de_tup da_nil) (da_cons (de_tup (da_cons (de_tup (da_cons de_int (da_cons de_int (da_cons de_int da_nil)))) (da_cons (de_tup (da_cons de_int (da_cons de_int (da_cons de_int da_nil)))) da_nil))) (da_cons (de_tup (da_cons (de_tup (da_cons de_int (da_cons de_int (da_cons de_int da_nil)))) da_nil)) da_nil)))) (de_call G_law_below (hr.mono (by decide)) rfl (da_cons (de_var 1) (da_cons de_int da_nil)))))
 (dss_one (ds_ret (de_eq hr.units (de_errOf (X := (cxOf CX0 P w K mg base ["_law_script", "_law_d", "_law_stroke_here", "_law_total", "_law_k", "_law_swept", "_law_found", "_law_at", "_law_told_here", "_law_moved", "_law_spot_here", "_law_growth", "_law_sign", "_law_bad"] "law" (defScope (top 54)) f (.ref (lawC K)) A outer s0 H E).nox) (k := 6) G_err (hr.mono (by decide)) rfl TB rfl (LamX.lamS_by (by kernel_rfl)) rfl (fun _ _ _ _ _ => rfl) (fun _ _ _ _ _ _ _ hr tk => (dex_call GX_area tk (hr.mono (by decide)) (by rfl) (da_cons (de_var 13) da_nil))) (q := lamQ) (by kernel_rfl)) (de_tup (da_cons de_str (da_cons de_int da_nil)))))))))))))))))))))
end

end L3.K14

/-! ## V59 -/
set_option Elab.async false
set_option linter.all false
set_option maxRecDepth 100000
set_option maxHeartbeats 1000000
/-! What two random drawings share, told. -/
namespace L3
open PySem NM L2
open Ink (Q2 Pl Sg Ky)
/-- what is known of a told ink -/
structure Ti (C : Q2 → Prop) (I : Inkd) : Prop where
  is : IsInk C I
  tl : okTl 25 (toldS I)
  ll : I.lines.length ≤ 500 ∧ I.dots.length ≤ 500
theorem Ti.ok {C : Q2 → Prop} {I : Inkd} (t : Ti C I) (h : (toldS I).length ≤ 24) : ∃ N, okI N (toldS I) := okI_tl t.tl (by decide) (by decide) h
theorem Ti.dr {C : Q2 → Prop} {I : Inkd} (t : Ti C I) (h : (toldS I).length ≤ 12) : okDr big (toldS I) := ⟨h, fun s hs => ⟨(t.tl.st s hs).1, by have := (t.tl.st s hs).2.1; omega, (t.tl.st s hs).2.2, fun z hz => ⟨(t.tl.can s hs z hz).1, (t.tl.can s hs z hz).2.mono (by decide)⟩⟩⟩
theorem Ti.cov {C : Q2 → Prop} {I : Inkd} (t : Ti C I) (P : Q2) : covS (toldS I) P ↔ C P := told_cov t.is P
theorem Ti.okq {C : Q2 → Prop} {I : Inkd} (t : Ti C I) : okq 4 (inkD I) = true := okq_ink (by have := t.ll.1; omega) (by have := t.ll.2; omega)
theorem Ti.l3 {C : Q2 → Prop} {I : Inkd} (t : Ti C I) : okL3 (toldS I) := okL3_tl t.tl (by rw [told_len]; have := t.ll; omega) (by decide)
end L3
namespace L3
open PySem NM L2
open Ink (Q2 Pl Sg Ky)
end L3

/-! ## V67 -/
set_option Elab.async false
set_option linter.all false
set_option maxRecDepth 100000
set_option maxHeartbeats 1000000
/-! Ways from one drawing to another: the walk. -/
namespace L3
open PySem PySem.Spec PySem.Calls PyProof.Rows L2 NM
section
variable {Γ : CL} {E : Ed} {p : Addr} {ss ts : List Stk} {h k f s : Num} {H : List Num} {s1 s2 s3 s6 s7 : Option D}
end
end L3

/-! ## V68 -/
set_option Elab.async false
set_option linter.all false
set_option maxRecDepth 100000
set_option maxHeartbeats 1000000
/-! Copies in order: which they are. -/
namespace L3
open PySem PySem.Spec PySem.Calls PyProof.Rows L2 NM
theorem ins_nodup {l : List Num} {z : Num} (h : l.Nodup) : (insL l z).Nodup := by
  unfold insL
  by_cases m : z ∈ l
  · rw [if_pos m]; exact h
  · rw [if_neg m, List.nodup_append]
    exact ⟨h, by simp, fun a ha b hb e => m (by rw [← List.mem_singleton.mp hb, ← e]; exact ha)⟩
theorem nubF_nodup : ∀ (l acc : List Num), acc.Nodup → (l.foldl insL acc).Nodup
  | [], _, h => h
  | z :: l, acc, h => by
    rw [List.foldl_cons]
    exact nubF_nodup l _ (ins_nodup h)
theorem nub_nodup (l : List Num) : (nubL l).Nodup := nubF_nodup l [] List.nodup_nil
theorem asc_nodup {l : List Num} (h : l.Nodup) : (ascL l).Nodup := (List.mergeSort_perm l leN).nodup_iff.mpr h
end L3

/-! ## V69 -/
set_option Elab.async false
set_option linter.all false
set_option maxRecDepth 100000
set_option maxHeartbeats 1000000
/-! Which ways are found. -/
namespace L3
open PySem PySem.Spec PySem.Calls PyProof.Rows L2 NM
theorem corn_nodup : ∀ (l : List (Num × Num)) (acc : List Num), acc.Nodup → (l.foldl (fun l y => insL (insL l y.1) y.2) acc).Nodup
  | [], _, h => h
  | y :: l, acc, h => by
    rw [List.foldl_cons]
    exact corn_nodup l _ (ins_nodup (ins_nodup h))
theorem corn_memF {z : Num} : ∀ (l : List (Num × Num)) (acc : List Num), z ∈ l.foldl (fun l y => insL (insL l y.1) y.2) acc ↔ z ∈ acc ∨ ∃ y ∈ l, z = y.1 ∨ z = y.2
  | [], acc => by simp
  | y :: l, acc => by
    rw [List.foldl_cons, corn_memF l, mem_ins, mem_ins]
    constructor
    · rintro (((h | h) | h) | ⟨w, hw, h⟩)
      · exact .inl h
      · exact .inr ⟨y, List.mem_cons_self .., .inl h⟩
      · exact .inr ⟨y, List.mem_cons_self .., .inr h⟩
      · exact .inr ⟨w, List.mem_cons_of_mem _ hw, h⟩
    · rintro (h | ⟨w, hw, h⟩)
      · exact .inl (.inl (.inl h))
      · rcases List.mem_cons.mp hw with rfl | hw
        · exact h.elim (fun h => .inl (.inl (.inr h))) fun h => .inl (.inr h)
        · exact .inr ⟨w, hw, h⟩
theorem mem_cornK {I : Inkd} {z : Num} : z ∈ cornK I ↔ z ∈ I.dots ∨ ∃ y ∈ I.lines, z = y.1 ∨ z = y.2 := by
  unfold cornK
  rw [corn_memF, mem_nub]
theorem mem_cornS {I : Inkd} {z : Num} : z ∈ cornS I ↔ z ∈ I.dots ∨ ∃ y ∈ I.lines, z = y.1 ∨ z = y.2 := by
  unfold cornS
  rw [asc_mem, mem_cornK]
theorem cornS_nodup (I : Inkd) : (cornS I).Nodup := asc_nodup (corn_nodup _ _ (nub_nodup _))
theorem corn_ne {I : Inkd} (h : 2 ≤ (cornS I).length) : hdN (cornS I) ≠ sdN (cornS I) ∧ hdN (cornS I) ∈ cornS I ∧ sdN (cornS I) ∈ cornS I := by
  have nd := cornS_nodup I
  generalize cornS I = H at *
  match H, h with
  | [], h => simp at h
  | [_], h => simp at h
  | a :: b :: r, _ =>
    refine ⟨?_, List.mem_cons_self .., List.mem_cons_of_mem _ (List.mem_cons_self ..)⟩
    rw [List.nodup_cons] at nd
    exact fun e => nd.1 (by
      have e : a = b := e
      rw [e]
      exact List.mem_cons_self ..)
section
variable {ss ts : List Stk} {h k f s : Num} {c : Cp}
theorem carL_two (ne : h ≠ k) (kh : Can h ∧ Sz 100 h) (kk : Can k ∧ Sz 100 k) (kf : Can f ∧ Sz 100 f) (ks : Can s ∧ Sz 100 s) : c ∈ carL [(h, f), (k, s)] ↔ c.ok ∧ c.at h = f ∧ c.at k = s := by
  rw [carL_mem (ps := [(h, f), (k, s)]) (fun x hx => by
    rcases List.mem_cons.mp hx with rfl | hx
    · exact ⟨kh, kf⟩
    · rw [List.mem_singleton.mp hx]
      exact ⟨kk, ks⟩) (others_ne.mpr ⟨(h, f), by simp, (k, s), by simp, ne⟩)]
  constructor
  · rintro ⟨h1, h2⟩
    exact ⟨h1, h2 (h, f) (by simp), h2 (k, s) (by simp)⟩
  · rintro ⟨h1, h2, h3⟩
    refine ⟨h1, fun x hx => ?_⟩
    rcases List.mem_cons.mp hx with rfl | hx
    · exact h2
    · rw [List.mem_singleton.mp hx]
      exact h3
open Classical in
theorem mem_carW : c ∈ carW ss ts h k f s ↔ c ∈ carL [(h, f), (k, s)] ∧ inkS (movedBy c ss) = inkS ts := by
  unfold carW
  rw [List.mem_filter, decide_eq_true_iff]
/-- the ways that are found: all copies that take two corners to corners and one ink to the other -/
theorem mem_found {T : List Num} (ne : h ≠ k) (kh : Can h ∧ Sz 100 h) (kk : Can k ∧ Sz 100 k) (kt : ∀ f ∈ T, Can f ∧ Sz 100 f) : c ∈ T.flatMap (foundS ss ts h k T) ↔ c.ok ∧ c.at h ∈ T ∧ c.at k ∈ T ∧ inkS (movedBy c ss) = inkS ts := by
  rw [List.mem_flatMap]
  constructor
  · rintro ⟨f, hf, hc⟩
    unfold foundS at hc
    obtain ⟨s, hs, hc⟩ := List.mem_flatMap.mp hc
    by_cases e : f = s
    · rw [if_pos e] at hc
      cases hc
    · rw [if_neg e, mem_carW, carL_two ne kh kk (kt f hf) (kt s hs)] at hc
      obtain ⟨⟨h1, rfl, rfl⟩, h4⟩ := hc
      exact ⟨h1, hf, hs, h4⟩
  · rintro ⟨h1, h2, h3, h4⟩
    refine ⟨c.at h, h2, ?_⟩
    unfold foundS
    refine List.mem_flatMap.mpr ⟨c.at k, h3, ?_⟩
    have n2 := (car_unique (p := (h, c.at h)) (q := (k, c.at k)) ⟨kh, kt _ h2⟩ ⟨kk, kt _ h3⟩ (fun e => ne e.symm) h1 rfl rfl).1
    rw [if_neg (fun e => n2 e.symm), mem_carW, carL_two ne kh kk (kt _ h2) (kt _ h3)]
    exact ⟨⟨h1, rfl, rfl⟩, h4⟩
end
end L3

/-! ## V57 -/
set_option Elab.async false
set_option linter.all false
set_option maxRecDepth 100000
set_option maxHeartbeats 1000000
/-! Parts that are cut: what they cover. -/
namespace L3
open PySem NM L2
open Ink (Pl Sg Ky Q2 crs le lt)
/-! ### what is covered by the halves -/
theorem sg_comm {a b p : Q2} : Ink.sg a b p ↔ Ink.sg b a p := by
  unfold Ink.sg
  rw [Ink.crs_swap (a := a) (b := b)]
  constructor
  · rintro ⟨h, k⟩
    exact ⟨by grind, k.symm⟩
  · rintro ⟨h, k⟩
    exact ⟨by grind, k.symm⟩
/-! ### parts -/
def okSp (z : Num) : Prop := Can z ∧ Sz 15 z ∧ z.d ∣ 48
structure okPt (s : Stk) : Prop where
  st : 1 ≤ s.length ∧ s.length ≤ 4 ∧ moves s
  can : ∀ z ∈ s, okSp z
  dir : ∀ y ∈ segs s, dirB 6 y.1 y.2
  hull : ∃ h : Stk, 1 ≤ h.length ∧ h.length ≤ 2 ∧ moves h ∧ (∀ z ∈ h, okSp z) ∧ ∀ P, covS [s] P ↔ covS [h] P
theorem okSp_tiny {z : Num} (t : Tiny z) : okSp z := ⟨t.1.1, t.sz.mono (by decide), Int.dvd_trans (tiny_12 t) (by decide)⟩
theorem okTn.pt {s : Stk} (h : okTn s) : 1 ≤ s.length ∧ s.length ≤ 12 ∧ moves s ∧ ∀ z ∈ s, okSp z := ⟨h.1.1, by have := h.1.2.1; omega, h.1.2.2.1, fun z hz => okSp_tiny (h.2 z hz)⟩
/-! ### turned about -/
theorem moves_iff : ∀ {s : Stk}, moves s ↔ ∀ y ∈ segs s, y.1 ≠ y.2
  | [] => by simp [moves, segs]
  | [a] => by simp [moves, segs]
  | a :: b :: r => by
    show (a ≠ b ∧ moves (b :: r)) ↔ ∀ y ∈ (a, b) :: segs (b :: r), _
    rw [moves_iff (s := b :: r), List.forall_mem_cons]
theorem segs_rev {s : Stk} {a b : Num} : (a, b) ∈ segs s.reverse ↔ (b, a) ∈ segs s := by
  have one : ∀ {s : Stk} {a b : Num}, (a, b) ∈ segs s.reverse → (b, a) ∈ segs s := fun {s a b} h => by
    obtain ⟨i, h1, h2⟩ := seg_ix.mp h
    have l2 : i + 1 < s.length := by
      have := (List.getElem?_eq_some_iff.mp h2).1
      rwa [List.length_reverse] at this
    rw [List.getElem?_reverse (by omega)] at h1 h2
    refine seg_ix.mpr ⟨s.length - 1 - (i + 1), h2, ?_⟩
    rw [show s.length - 1 - (i + 1) + 1 = s.length - 1 - i by omega]
    exact h1
  constructor
  · exact one
  · intro h
    refine one ?_
    rw [List.reverse_reverse]
    exact h
theorem okTn.rev {s : Stk} (h : okTn s) : okTn s.reverse := by
  refine ⟨⟨by rw [List.length_reverse]; exact h.1.1, by rw [List.length_reverse]; exact h.1.2.1, moves_iff.mpr fun y hy => ?_, fun z hz => h.1.2.2.2 z (List.mem_reverse.mp hz)⟩, fun z hz => h.2 z (List.mem_reverse.mp hz)⟩
  obtain ⟨a, b⟩ := y
  exact fun e => moves_iff.mp h.1.2.2.1 _ (segs_rev.mp hy) e.symm
end L3

/-! ## V70 -/
set_option Elab.async false
set_option linter.all false
set_option maxRecDepth 100000
set_option maxHeartbeats 1000000
/-! A part of a line, by its share; under a copy. -/
namespace L3
open PySem PySem.Spec PySem.Calls PyProof.Rows L2 NM
open Ink (Q2 Pl Sg Ky)
theorem sg_t0 {a b p : Q2} (hc : Ink.crs a b p = 0) (h1 : Ink.le a p) (h2 : Ink.le p b) : ∃ t : Rat, 0 ≤ t ∧ t ≤ 1 ∧ p.1 = a.1 + t * (b.1 - a.1) ∧ p.2 = a.2 + t * (b.2 - a.2) := by
  unfold Ink.le Ink.crs at *
  by_cases e : a.1 = b.1
  · have e1 : a.1 = p.1 := by grind
    have l1 : a.2 ≤ p.2 := by grind
    have l2 : p.2 ≤ b.2 := by grind
    by_cases e2 : a.2 = b.2
    · exact ⟨0, by decide, by decide, by grind, by grind⟩
    · have d : 0 < b.2 - a.2 := by grind
      refine ⟨(p.2 - a.2) / (b.2 - a.2), ?_, ?_, by grind, by grind⟩
      · refine Rat.not_lt.mp fun q => ?_; rw [Rat.div_lt_iff d] at q; grind
      · refine Rat.not_lt.mp fun q => ?_; rw [Rat.lt_div_iff d] at q; grind
  · have d : 0 < b.1 - a.1 := by grind
    have l1 : a.1 ≤ p.1 := by grind
    have l2 : p.1 ≤ b.1 := by grind
    refine ⟨(p.1 - a.1) / (b.1 - a.1), ?_, ?_, by grind, by grind⟩
    · refine Rat.not_lt.mp fun q => ?_; rw [Rat.div_lt_iff d] at q; grind
    · refine Rat.not_lt.mp fun q => ?_; rw [Rat.lt_div_iff d] at q; grind
theorem sg_f0 {a b p : Q2} {t : Rat} (h : Ink.le a b) (t0 : 0 ≤ t) (t1 : t ≤ 1) (e1 : p.1 = a.1 + t * (b.1 - a.1)) (e2 : p.2 = a.2 + t * (b.2 - a.2)) : Ink.le a p ∧ Ink.le p b := by
  unfold Ink.le at *
  rcases h with h | ⟨h, k⟩
  · by_cases z : t = 0
    · subst z
      exact ⟨.inr ⟨by grind, by grind⟩, .inl (by grind)⟩
    · by_cases o : t = 1
      · subst o
        exact ⟨.inl (by grind), .inr ⟨by grind, by grind⟩⟩
      · have p1 := Rat.mul_pos (show 0 < t by grind) (show 0 < b.1 - a.1 by grind)
        have p2 := Rat.mul_pos (show 0 < 1 - t by grind) (show 0 < b.1 - a.1 by grind)
        exact ⟨.inl (by grind), .inl (by grind)⟩
  · have p1 := Rat.mul_nonneg t0 (show 0 ≤ b.2 - a.2 by grind)
    have p2 := Rat.mul_nonneg (show 0 ≤ 1 - t by grind) (show 0 ≤ b.2 - a.2 by grind)
    exact ⟨.inr ⟨by grind, by grind⟩, .inr ⟨by grind, by grind⟩⟩
theorem sg_iff {a b p : Q2} : Ink.sg a b p ↔ ∃ t : Rat, 0 ≤ t ∧ t ≤ 1 ∧ p.1 = a.1 + t * (b.1 - a.1) ∧ p.2 = a.2 + t * (b.2 - a.2) := by
  constructor
  · rintro ⟨hc, ⟨h1, h2⟩ | ⟨h1, h2⟩⟩
    · exact sg_t0 hc h1 h2
    · obtain ⟨t, t0, t1, e1, e2⟩ := sg_t0 (a := b) (b := a) (by unfold Ink.crs at *; grind) h1 h2
      exact ⟨1 - t, by grind, by grind, by grind, by grind⟩
  · rintro ⟨t, t0, t1, e1, e2⟩
    refine ⟨by unfold Ink.crs; rw [e1, e2]; grind, ?_⟩
    by_cases h : Ink.le a b
    · exact .inl (sg_f0 h t0 t1 e1 e2)
    · have h : Ink.le b a := by unfold Ink.le at *; grind
      exact .inr (sg_f0 (t := 1 - t) h (by grind) (by grind) (by grind) (by grind))
end L3

/-! ## V38 -/
set_option Elab.async false
set_option linter.all false
set_option maxRecDepth 100000
set_option maxHeartbeats 1000000
/-! Arms of great reach: what they trace is in their reach. -/
namespace L3
open PySem NM L2
theorem sq_nn (x : Rat) : 0 ≤ x * x := by
  by_cases h : 0 ≤ x
  · exact Rat.mul_nonneg h h
  · have : 0 ≤ (-x) * (-x) := Rat.mul_nonneg (by grind) (by grind)
    grind
theorem nrm_eq {z : Num} (h : Can z) : nrm z * ((z.d : Rat) * (z.d : Rat)) = (((z.x * z.x + z.y * z.y : Int)) : Rat) := by
  have n1 := rat_d h
  unfold nrm re im
  simp only [Rat.intCast_add, Rat.intCast_mul]
  grind
theorem moved_inv2 {c : Cp} {ss : List Stk} (h : c.ok) (k : CanS ss) : movedBy c.inv (movedBy c ss) = ss := by
  rw [moved_moved]
  have : (ss.map fun s => s.map fun z => c.inv.at (c.at z)) = ss.map id := List.map_congr_left fun s hs => by
    show _ = s
    rw [show (s.map fun z => c.inv.at (c.at z)) = s.map id from List.map_congr_left fun z hz => Cp.inv_at h (k s hs z hz), List.map_id]
  rw [this, List.map_id]
end L3

/-! ## V61 -/
set_option Elab.async false
set_option linter.all false
set_option maxRecDepth 100000
set_option maxHeartbeats 1000000
/-! Pictures. -/
namespace L3
open PySem PySem.Spec PySem.Calls PyProof.Rows L2 NM
open Ink (Pl Sg Ky Q2 qP)
end L3

/-! ## V41 -/
set_option Elab.async false
set_option linter.all false
set_option maxRecDepth 100000
set_option maxHeartbeats 1000000
/-! Copies seen from where another copy carries them. -/
namespace L3
open PySem NM L2
section
variable {u c a b : Cp}
theorem conj_conj (hu : u.ok) (k : c.ok) : conjC u.inv (conjC u c) = c := by
  have hi := Cp.inv_ok hu
  unfold conjC
  rw [Cp.inv_inv hu, ← Cp.comp_assoc hu (Cp.comp_ok hi k) hu, ← Cp.comp_assoc hu hi k, Cp.comp_inv hu, Cp.id_comp k, Cp.comp_assoc k hu hi, Cp.comp_inv hu, Cp.comp_id k]
theorem conj_conj2 (hu : u.ok) (k : c.ok) : conjC u (conjC u.inv c) = c := by
  have hi := Cp.inv_ok hu
  have := conj_conj hi k
  rw [Cp.inv_inv hu] at this
  exact this
/-- what is kept, here and there -/
inductive KK (u : Cp) : Kp → Kp → Prop
  | all : KK u .all .all
  | none : KK u .none .none
  | spot (z : Num) : KK u (.spot z) (.spot (u.at z))
  | line {a b e a' b' e' : Int} (h : ∀ z, Can z → a * z.x + b * z.y = e * z.d → a' * (u.at z).x + b' * (u.at z).y = e' * (u.at z).d) : KK u (.line a b e) (.line a' b' e')
end
/-! ### carriers there, carriers back -/
section
variable {u : Cp} {ps : List (Num × Num)}
theorem at_inj {u : Cp} {a b : Num} (hu : u.ok) (ha : Can a) (hb : Can b) (h : u.at a = u.at b) : a = b := by
  have := congrArg u.inv.at h
  rw [Cp.inv_at hu ha, Cp.inv_at hu hb] at this
  exact this
end
end L3

/-! ## V60 -/
set_option Elab.async false
set_option linter.all false
set_option maxRecDepth 100000
set_option maxHeartbeats 1000000
/-! Spots that stand in order; inks of random drawings. -/
namespace L3
open PySem NM L2
open Ink (Q2 Pl Sg Ky crs seg lt le)
/-- the ink of a random drawing -/
structure Kn (ss : List Stk) (I : Inkd) : Prop where
  ks : ∀ s ∈ ss, okTn s
  l6 : ss.length ≤ 6
  is : IsInk (covS ss) I
  td : ∀ z ∈ I.dots, Tiny z
  tl : ∀ l ∈ I.lines, Tiny l.1 ∧ Tiny l.2
  ll : I.lines.length ≤ 18 ∧ I.dots.length ≤ 6
theorem told_tn {ss : List Stk} {I : Inkd} (k : Kn ss I) : ∀ s ∈ toldS I, okTn s := fun s hs => by
  obtain ⟨a, b, c, _⟩ := told_moves k.is hs
  have t : ∀ z ∈ s, Tiny z := by
    rcases told_mem hs with ⟨l, hl, rfl⟩ | ⟨w, hw, rfl⟩
    · intro z hz
      rcases List.mem_cons.mp hz with rfl | hz
      · exact (k.tl l hl).1
      · rcases List.mem_cons.mp hz with rfl | hz
        · exact (k.tl l hl).2
        · cases hz
    · intro z hz
      rcases List.mem_cons.mp hz with rfl | hz
      · exact k.td z hw
      · cases hz
  exact ⟨⟨a, by omega, c, fun z hz => (t z hz).1⟩, t⟩
end L3

/-! ## V62 -/
set_option Elab.async false
set_option linter.all false
set_option maxRecDepth 100000
set_option maxHeartbeats 1000000
/-! Pictures of four times as great drawings; drawings of one spot. -/
namespace L3
open PySem PySem.Spec PySem.Calls PyProof.Rows L2 NM
open Ink (Pl Sg Ky Q2 qP)
theorem segs_mapN (f : Num → Num) : ∀ s : Stk, segs (s.map f) = (segs s).map fun y => (f y.1, f y.2)
  | [] => rfl
  | [_] => rfl
  | a :: b :: r => by
    show (f a, f b) :: segs ((b :: r).map f) = _
    rw [segs_mapN f (b :: r)]
    rfl
/-- four times as great -/
def c4 : Cp := ⟨⟨4, 0, 1⟩, zero, false⟩
end L3

/-! ## V71 -/
set_option Elab.async false
set_option linter.all false
set_option maxRecDepth 100000
set_option maxHeartbeats 1000000
/-! What a copied drawing covers. -/
namespace L3
open PySem PySem.Spec PySem.Calls PyProof.Rows L2 NM
open Ink (Q2 Pl Sg Ky)
/-- a copy, on the plane -/
def atQ (c : Cp) (P : Q2) : Q2 := (re c.t * P.1 - im c.t * (sg c.m * P.2) + re c.s, re c.t * (sg c.m * P.2) + im c.t * P.1 + im c.s)
theorem at_Q {c : Cp} (kc : c.ok) {z : Num} (kz : Can z) : numQ (c.at z) = atQ c (numQ z) := by
  refine Prod.ext ?_ ?_
  · show re (c.at z) = re c.t * re z - im c.t * (sg c.m * im z) + re c.s
    rw [re_at kc kz]
  · show im (c.at z) = re c.t * (sg c.m * im z) + im c.t * re z + im c.s
    rw [im_at kc kz]
theorem sg_atQ (c : Cp) {a b p : Q2} (h : Ink.sg a b p) : Ink.sg (atQ c a) (atQ c b) (atQ c p) := by
  obtain ⟨t, t0, t1, e1, e2⟩ := sg_iff.mp h
  refine sg_iff.mpr ⟨t, t0, t1, ?_, ?_⟩
  · unfold atQ
    simp only [e1, e2]
    grind
  · unfold atQ
    simp only [e1, e2]
    grind
theorem cov_at0 {c : Cp} (kc : c.ok) {ss : List Stk} (k : ∀ s ∈ ss, ∀ z ∈ s, Can z) {P : Q2} (h : covS ss P) : covS (movedBy c ss) (atQ c P) := by
  obtain ⟨s, hs, q⟩ := h
  refine ⟨s.map c.at, List.mem_map.mpr ⟨s, hs, rfl⟩, ?_⟩
  rcases q with ⟨z, rfl, rfl⟩ | ⟨y, hy, h⟩
  · exact .inl ⟨c.at z, rfl, (at_Q kc (k _ hs z (List.mem_cons_self ..))).symm⟩
  · obtain ⟨m1, m2⟩ := segs_mem2 hy
    refine .inr ⟨(c.at y.1, c.at y.2), by rw [segs_mapN]; exact List.mem_map.mpr ⟨y, hy, rfl⟩, ?_⟩
    rw [at_Q kc (k s hs _ m1), at_Q kc (k s hs _ m2)]
    exact sg_atQ c h
theorem ex_num (P : Q2) : ∃ z, Can z ∧ numQ z = P := by
  have d1 : ((P.1.den : Int) : Rat) ≠ 0 := by
    have := P.1.den_pos
    intro e
    have e : ((P.1.den : Int)) = 0 := by exact_mod_cast e
    omega
  have d2 : ((P.2.den : Int) : Rat) ≠ 0 := by
    have := P.2.den_pos
    intro e
    have e : ((P.2.den : Int)) = 0 := by exact_mod_cast e
    omega
  have ne : ((P.1.den : Int) * (P.2.den : Int)) ≠ 0 := by
    have h1 := P.1.den_pos
    have h2 := P.2.den_pos
    exact Int.mul_ne_zero (by omega) (by omega)
  have n1 : P.1 = (P.1.num : Rat) / ((P.1.den : Int) : Rat) := by rw [← Rat.divInt_eq_div, Rat.num_divInt_den]
  have n2 : P.2 = (P.2.num : Rat) / ((P.2.den : Int) : Rat) := by rw [← Rat.divInt_eq_div, Rat.num_divInt_den]
  refine ⟨low (P.1.num * P.2.den) (P.2.num * P.1.den) (P.1.den * P.2.den), low_can ne, Prod.ext ?_ ?_⟩
  · show re (low _ _ _) = P.1
    rw [re_low ne, Rat.intCast_mul, Rat.intCast_mul]
    conv => rhs; rw [n1]
    grind
  · show im (low _ _ _) = P.2
    rw [im_low ne, Rat.intCast_mul, Rat.intCast_mul]
    conv => rhs; rw [n2]
    grind
theorem cov_at {c : Cp} (kc : c.ok) {ss : List Stk} (k : ∀ s ∈ ss, ∀ z ∈ s, Can z) (P : Q2) : covS (movedBy c ss) (atQ c P) ↔ covS ss P := by
  refine ⟨fun h => ?_, cov_at0 kc k⟩
  obtain ⟨z, kz, rfl⟩ := ex_num P
  rw [← at_Q kc kz] at h
  have km : ∀ s ∈ movedBy c ss, ∀ z ∈ s, Can z := CanS.at kc k
  have := cov_at0 (Cp.inv_ok kc) km h
  rw [moved_inv2 kc k, ← at_Q (Cp.inv_ok kc) (Cp.can_at kc kz), Cp.inv_at kc kz] at this
  exact this
end L3

/-! ## V72 -/
set_option Elab.async false
set_option linter.all false
set_option maxRecDepth 100000
set_option maxHeartbeats 1000000
/-! Lines of two inks, of which one is the other's image. -/
namespace L3
open PySem PySem.Spec PySem.Calls PyProof.Rows L2 NM
open Ink (Q2 Pl Sg Ky)
theorem sg_conv {k m a b p : Q2} (ha : Ink.sg k m a) (hb : Ink.sg k m b) (hp : Ink.sg a b p) : Ink.sg k m p := by
  obtain ⟨s, s0, s1, a1, a2⟩ := sg_iff.mp ha
  obtain ⟨u, u0, u1, b1, b2⟩ := sg_iff.mp hb
  obtain ⟨t, t0, t1, p1, p2⟩ := sg_iff.mp hp
  have x1 := Rat.mul_nonneg (show 0 ≤ 1 - t by grind) s0
  have x2 := Rat.mul_nonneg t0 u0
  have x3 := Rat.mul_nonneg (show 0 ≤ 1 - t by grind) (show 0 ≤ 1 - s by grind)
  have x4 := Rat.mul_nonneg t0 (show 0 ≤ 1 - u by grind)
  refine sg_iff.mpr ⟨(1 - t) * s + t * u, by grind, by grind, ?_, ?_⟩
  · rw [p1, a1, b1]; grind
  · rw [p2, a2, b2]; grind
theorem sg_inside {ds : List Q2} {ls : List Ink.Ln} (n : Ink.NF ds ls) {a b : Q2} (ne : a ≠ b) (c : ∀ p, Ink.sg a b p → Ink.cov ds ls p) : ∃ m ∈ ls, Ink.sg m.1 m.2 a ∧ Ink.sg m.1 m.2 b := by
  have key : ∀ a b : Q2, Ink.lt a b → (∀ p, Ink.sg a b p → Ink.cov ds ls p) → ∃ m ∈ ls, Ink.sg m.1 m.2 a ∧ Ink.sg m.1 m.2 b := by
    intro a b h c
    obtain ⟨m, hm, m1, m2, m3, m4⟩ := Ink.inside n h fun p hp => c p ⟨hp.1, .inl ⟨hp.2.1, hp.2.2⟩⟩
    have am := n.asc m hm
    exact ⟨m, hm, ⟨(Ink.on_two h am m1 m2).mpr Ink.on_l, .inl ⟨m3, Ink.le_trans h.le m4⟩⟩, ⟨(Ink.on_two h am m1 m2).mpr Ink.on_r, .inl ⟨Ink.le_trans m3 h.le, m4⟩⟩⟩
  rcases Ink.tri (a := a) (b := b) with z | z | z
  · exact key a b z c
  · exact absurd z ne
  · obtain ⟨m, hm, h1, h2⟩ := key b a z fun p hp => c p (sg_comm.mp hp)
    exact ⟨m, hm, h2, h1⟩
theorem sg_lt2 {a b p : Q2} (h : Ink.lt a b) : Ink.sg a b p ↔ Ink.crs a b p = 0 ∧ Ink.le a p ∧ Ink.le p b := by
  constructor
  · rintro ⟨c, k | ⟨k1, k2⟩⟩
    · exact ⟨c, k⟩
    · have e := Ink.le_anti h.le (Ink.le_trans k1 k2)
      exact absurd (e ▸ h) Ink.lt_irrefl
  · rintro ⟨c, k⟩
    exact ⟨c, .inl k⟩
theorem sg_same {a b m k : Q2} (h : Ink.lt m k) (h1 : Ink.sg m k a) (h2 : Ink.sg m k b) (h3 : Ink.sg a b m) (h4 : Ink.sg a b k) : (m = a ∧ k = b) ∨ (m = b ∧ k = a) := by
  rw [sg_lt2 h] at h1 h2
  rcases h3.2 with ⟨x, y⟩ | ⟨x, y⟩
  · have e := Ink.le_anti h1.2.1 x
    subst e
    rcases h4.2 with ⟨z, w⟩ | ⟨z, w⟩
    · exact .inl ⟨rfl, Ink.le_anti w h2.2.2⟩
    · exact absurd (Ink.le_anti h.le w ▸ h) Ink.lt_irrefl
  · have e := Ink.le_anti h2.2.1 x
    subst e
    rcases h4.2 with ⟨z, w⟩ | ⟨z, w⟩
    · exact absurd (Ink.le_anti h.le w ▸ h) Ink.lt_irrefl
    · exact .inr ⟨rfl, Ink.le_anti w h1.2.2⟩
/-- lines go to lines, end to end -/
theorem ln_go {ds ds' : List Q2} {ls ls' : List Ink.Ln} (n : Ink.NF ds ls) (n' : Ink.NF ds' ls') {F G : Q2 → Q2} (FG : ∀ p, F (G p) = p) (GF : ∀ p, G (F p) = p) (sF : ∀ {a b p}, Ink.sg a b p → Ink.sg (F a) (F b) (F p))
    (sG : ∀ {a b p}, Ink.sg a b p → Ink.sg (G a) (G b) (G p)) (c : ∀ p, Ink.cov ds' ls' (F p) ↔ Ink.cov ds ls p) : ∀ l ∈ ls, ∃ m ∈ ls', (m.1 = F l.1 ∧ m.2 = F l.2) ∨ (m.1 = F l.2 ∧ m.2 = F l.1) := by
  intro l hl
  have al := n.asc l hl
  have nl : l.1 ≠ l.2 := fun e => Ink.lt_irrefl (e ▸ al)
  obtain ⟨m, hm, m1, m2⟩ := sg_inside n' (a := F l.1) (b := F l.2) (fun e => nl (by rw [← GF l.1, e, GF])) fun p hp => by
    have := sG hp
    rw [GF, GF] at this
    rw [← FG p, c]
    exact .inr ⟨l, hl, (sg_lt2 al).mp this⟩
  have am := n'.asc m hm
  obtain ⟨k, hk, k1, k2⟩ := sg_inside n (a := G m.1) (b := G m.2) (fun e => Ink.lt_irrefl (show Ink.lt m.1 m.1 by
    have e : m.1 = m.2 := by rw [← FG m.1, e, FG]
    rw [← e] at am
    exact am)) fun p hp => by
    have := sF hp
    rw [FG, FG] at this
    rw [← c]
    exact .inr ⟨m, hm, (sg_lt2 am).mp this⟩
  have ak := n.asc k hk
  have g1 := sG m1
  have g2 := sG m2
  rw [GF] at g1 g2
  have o1 := sg_conv k1 k2 g1
  have o2 := sg_conv k1 k2 g2
  have q1 := (sg_lt2 ak).mp o1
  have q2 := (sg_lt2 ak).mp o2
  have e := n.apart l hl k hk ((Ink.on_two ak al q1.1 q2.1).mpr Ink.on_l) ((Ink.on_two ak al q1.1 q2.1).mpr Ink.on_r) l.1 (Ink.seg_l al) q1
  subst e
  have f1 := sF k1
  have f2 := sF k2
  rw [FG] at f1 f2
  exact ⟨m, hm, sg_same am m1 m2 f1 f2⟩
end L3

/-! ## V73 -/
set_option Elab.async false
set_option linter.all false
set_option maxRecDepth 100000
set_option maxHeartbeats 1000000
/-! Corners go with a copy. -/
namespace L3
open PySem PySem.Spec PySem.Calls PyProof.Rows L2 NM
open Ink (Q2 Pl Sg Ky)
theorem atQ_inv {c : Cp} (kc : c.ok) (P : Q2) : atQ c (atQ c.inv P) = P := by
  obtain ⟨z, kz, rfl⟩ := ex_num P
  rw [← at_Q (Cp.inv_ok kc) kz, ← at_Q kc (Cp.can_at (Cp.inv_ok kc) kz), Cp.at_inv kc kz]
theorem atQ_inv2 {c : Cp} (kc : c.ok) (P : Q2) : atQ c.inv (atQ c P) = P := by
  obtain ⟨z, kz, rfl⟩ := ex_num P
  rw [← at_Q kc kz, ← at_Q (Cp.inv_ok kc) (Cp.can_at kc kz), Cp.inv_at kc kz]
theorem corn_go {c : Cp} (kc : c.ok) {ss : List Stk} (k : CanS ss) {I J : Inkd} (hI : IsInk (covS ss) I) (hJ : IsInk (covS (movedBy c ss)) J) {z : Num} (h : z ∈ cornS I) : c.at z ∈ cornS J := by
  have cc : ∀ p, Ink.cov (J.dots.map numQ) (J.lines.map numL) (atQ c p) ↔ Ink.cov (I.dots.map numQ) (I.lines.map numL) p := fun p => (hJ.cov _).trans ((cov_at kc k p).trans (hI.cov p).symm)
  have cc2 : ∀ p, Ink.cov (I.dots.map numQ) (I.lines.map numL) (atQ c.inv p) ↔ Ink.cov (J.dots.map numQ) (J.lines.map numL) p := fun p => by
    have := cc (atQ c.inv p)
    rw [atQ_inv kc] at this
    exact this.symm
  rw [mem_cornS] at h ⊢
  rcases h with h | ⟨l, hl, h⟩
  · have kz := hI.cd z h
    rcases (cc (numQ z)).mpr (.inl (List.mem_map.mpr ⟨z, h, rfl⟩)) with q | ⟨m, hm, q⟩
    · obtain ⟨d, hd, e⟩ := List.mem_map.mp q
      rw [← at_Q kc kz] at e
      exact .inl (numQ_inj (hJ.cd d hd) (Cp.can_at kc kz) e ▸ hd)
    · obtain ⟨l, hl, e⟩ := ln_go hJ.nf hI.nf (F := atQ c.inv) (G := atQ c) (atQ_inv2 kc) (atQ_inv kc) (fun h => sg_atQ _ h) (fun h => sg_atQ _ h) cc2 m hm
      have al := hI.nf.asc l hl
      have s := sg_atQ c.inv (show Ink.sg m.1 m.2 (atQ c (numQ z)) from ⟨q.1, .inl q.2⟩)
      rw [atQ_inv2 kc] at s
      refine absurd ?_ (hI.nf.off (numQ z) (List.mem_map.mpr ⟨z, h, rfl⟩) l hl)
      refine (sg_lt2 al).mp ?_
      rcases e with ⟨e1, e2⟩ | ⟨e1, e2⟩
      · rw [e1, e2]; exact s
      · rw [e1, e2]; exact sg_comm.mp s
  · obtain ⟨k1, k2⟩ := hI.cl l hl
    obtain ⟨m, hm, e⟩ := ln_go hI.nf hJ.nf (F := atQ c) (G := atQ c.inv) (atQ_inv kc) (atQ_inv2 kc) (fun h => sg_atQ _ h) (fun h => sg_atQ _ h) cc (numL l) (List.mem_map.mpr ⟨l, hl, rfl⟩)
    obtain ⟨w, hw, rfl⟩ := List.mem_map.mp hm
    obtain ⟨w1, w2⟩ := hJ.cl w hw
    have a1 : numQ (c.at l.1) = atQ c (numL l).1 := at_Q kc k1
    have a2 : numQ (c.at l.2) = atQ c (numL l).2 := at_Q kc k2
    refine .inr ⟨w, hw, ?_⟩
    rcases e with ⟨e1, e2⟩ | ⟨e1, e2⟩
    · rcases h with rfl | rfl
      · exact .inl (numQ_inj (Cp.can_at kc k1) w1 (a1.trans e1.symm))
      · exact .inr (numQ_inj (Cp.can_at kc k2) w2 (a2.trans e2.symm))
    · rcases h with rfl | rfl
      · exact .inr (numQ_inj (Cp.can_at kc k1) w2 (a1.trans e2.symm))
      · exact .inl (numQ_inj (Cp.can_at kc k2) w1 (a2.trans e1.symm))
end L3

/-! ## V74 -/
set_option Elab.async false
set_option linter.all false
set_option maxRecDepth 100000
set_option maxHeartbeats 1000000
/-! The ways that are found are all ways. -/
namespace L3
open PySem PySem.Spec PySem.Calls PyProof.Rows L2 NM
open Ink (Q2 Pl Sg Ky)
section
variable {ss ts : List Stk} {c : Cp}
theorem found_i (h2 : 2 ≤ (cornS (inkS ss)).length) (w : okW ss ts) (k : CanS ss) (hI : IsInk (covS ss) (inkS ss)) (kc : c.ok) (hJ : IsInk (covS (movedBy c ss)) (inkS (movedBy c ss))) (e : inkS (movedBy c ss) = inkS ts) : c ∈ foundC ss ts := by
  obtain ⟨ne, m1, m2⟩ := corn_ne h2
  unfold foundC
  rw [mem_found ne w.kh.1 w.kh.2 w.kt]
  have g1 := corn_go kc k hI hJ m1
  have g2 := corn_go kc k hI hJ m2
  rw [e] at g1 g2
  exact ⟨kc, g1, g2, e⟩
theorem found_e (h2 : 2 ≤ (cornS (inkS ss)).length) (w : okW ss ts) (h : c ∈ foundC ss ts) : c.ok ∧ inkS (movedBy c ss) = inkS ts := by
  obtain ⟨ne, m1, m2⟩ := corn_ne h2
  unfold foundC at h
  rw [mem_found ne w.kh.1 w.kh.2 w.kt] at h
  exact ⟨h.1, h.2.2.2⟩
end
end L3

/-! ## V75 -/
set_option Elab.async false
set_option linter.all false
set_option maxRecDepth 100000
set_option maxHeartbeats 1000000
/-! Sizes of corners. -/
namespace L3
open PySem PySem.Spec PySem.Calls PyProof.Rows L2 NM
open Ink (Q2 Pl Sg Ky)
section
variable {ss : List Stk} {I : Inkd}
theorem corn_told {z : Num} (h : z ∈ cornS I) : ∃ s ∈ toldS I, z ∈ s := by
  unfold toldS
  rcases mem_cornS.mp h with h | ⟨y, hy, h⟩
  · exact ⟨[z], List.mem_append_right _ (List.mem_map.mpr ⟨z, h, rfl⟩), by simp⟩
  · refine ⟨[y.1, y.2], List.mem_append_left _ (List.mem_map.mpr ⟨y, hy, rfl⟩), ?_⟩
    rcases h with rfl | rfl <;> simp
theorem corn_tiny (k : Kn ss I) {z : Num} (h : z ∈ cornS I) : Tiny z := by
  obtain ⟨s, hs, hz⟩ := corn_told h
  exact (told_tn k s hs).2 z hz
theorem Kn.co (k : Kn ss I) : okCo I := by
  refine ⟨12, by decide, (show Bt 4 12 by unfold Bt; decide).mono (by decide), by have := k.ll; omega, fun z hz => ?_⟩
  have t := corn_tiny k (show z ∈ cornS I by unfold cornS; rw [asc_mem]; exact hz)
  exact ⟨t.1.1, t.1.2.mono (by decide), tiny_12 t⟩
end
end L3

/-! ## V76 -/
set_option Elab.async false
set_option linter.all false
set_option maxRecDepth 100000
set_option maxHeartbeats 1000000
/-! Denominators: of images, of copies that carry corners to corners. -/
namespace L3
open PySem PySem.Spec PySem.Calls PyProof.Rows L2 NM
/-- M times z is of whole numbers -/
def On (M : Int) (z : Num) : Prop := ∃ a b : Int, re z * (M : Rat) = (a : Rat) ∧ im z * (M : Rat) = (b : Rat)
theorem gz_mulr (a b : Int) {M : Int} (h : 0 ≤ M) : gz (a * M) (b * M) = gz a b * M := by
  unfold gz
  rw [Int.gcd_mul_right, Int.natCast_mul, Int.natAbs_of_nonneg h]
theorem on_dvd {z : Num} (h : Can z) {M : Int} (hM : 0 < M) (o : On M z) : z.d ∣ M := by
  obtain ⟨a, b, ha, hb⟩ := o
  have d0 := rat_d h
  have ex : z.x * M = a * z.d := by
    have : (z.x : Rat) * (M : Rat) = (a : Rat) * (z.d : Rat) := by
      rw [← ha]; unfold re; grind
    exact_mod_cast this
  have ey : z.y * M = b * z.d := by
    have : (z.y : Rat) * (M : Rat) = (b : Rat) * (z.d : Rat) := by
      rw [← hb]; unfold im; grind
    exact_mod_cast this
  have h1 : z.d ∣ z.x * M := ⟨a, by rw [ex, Int.mul_comm]⟩
  have h2 : z.d ∣ z.y * M := ⟨b, by rw [ey, Int.mul_comm]⟩
  have h3 : z.d ∣ z.d * M := Int.dvd_mul_right ..
  have q := dvd_gz (dvd_gz h1 h2) h3
  have M0 : 0 ≤ M := by omega
  rw [gz_mulr _ _ M0, gz_mulr _ _ M0, h.2, Int.one_mul] at q
  exact q
theorem on_of {z : Num} (h : Can z) {M : Int} (d : z.d ∣ M) : On M z := by
  obtain ⟨k, rfl⟩ := d
  have d0 := rat_d h
  refine ⟨z.x * k, z.y * k, ?_, ?_⟩
  · unfold re
    rw [Rat.intCast_mul, Rat.intCast_mul]
    grind
  · unfold im
    rw [Rat.intCast_mul, Rat.intCast_mul]
    grind
section
variable {z w : Num} {M K : Int}
theorem On.more (o : On M z) (K : Int) : On (M * K) z := by
  obtain ⟨a, b, ha, hb⟩ := o
  refine ⟨a * K, b * K, ?_, ?_⟩
  · rw [Rat.intCast_mul, Rat.intCast_mul, ← ha]; grind
  · rw [Rat.intCast_mul, Rat.intCast_mul, ← hb]; grind
theorem On.less (o : On K z) (M : Int) : On (M * K) z := by
  rw [Int.mul_comm]
  exact o.more M
theorem On.mul (hz : Can z) (hw : Can w) (o : On M z) (p : On K w) : On (M * K) (NM.mul z w) := by
  obtain ⟨a, b, ha, hb⟩ := o
  obtain ⟨c, e, hc, he⟩ := p
  refine ⟨a * c - b * e, a * e + b * c, ?_, ?_⟩
  · rw [re_mul hz hw, Rat.intCast_mul, Rat.intCast_sub, Rat.intCast_mul, Rat.intCast_mul, ← ha, ← hb, ← hc, ← he]; grind
  · rw [im_mul hz hw, Rat.intCast_mul, Rat.intCast_add, Rat.intCast_mul, Rat.intCast_mul, ← ha, ← hb, ← hc, ← he]; grind
theorem On.add (hz : Can z) (hw : Can w) (o : On M z) (p : On M w) : On M (NM.add z w) := by
  obtain ⟨a, b, ha, hb⟩ := o
  obtain ⟨c, e, hc, he⟩ := p
  refine ⟨a + c, b + e, ?_, ?_⟩
  · rw [re_add hz hw, Rat.intCast_add, ← ha, ← hc]; grind
  · rw [im_add hz hw, Rat.intCast_add, ← hb, ← he]; grind
theorem On.sub (hz : Can z) (hw : Can w) (o : On M z) (p : On M w) : On M (NM.sub z w) := by
  obtain ⟨a, b, ha, hb⟩ := o
  obtain ⟨c, e, hc, he⟩ := p
  refine ⟨a - c, b - e, ?_, ?_⟩
  · rw [re_sub hz hw, Rat.intCast_sub, ← ha, ← hc]; grind
  · rw [im_sub hz hw, Rat.intCast_sub, ← hb, ← he]; grind
theorem On.flip (o : On M z) (m : Bool) : On M (flip m z) := by
  obtain ⟨a, b, ha, hb⟩ := o
  cases m with
  | false => exact ⟨a, b, ha, hb⟩
  | true =>
    refine ⟨a, -b, ha, ?_⟩
    show im (ovr z) * (M : Rat) = _
    rw [im_ovr, Rat.intCast_neg, ← hb]
    grind
theorem on_inv (h : Can z) (nz : NZ z) : On (z.x * z.x + z.y * z.y) (NM.inv z) := by
  have e := nrm_eq h
  have n0 := (nz_iff h).mp nz
  have d0 := rat_d h
  refine ⟨z.x * z.d, - (z.y * z.d), ?_, ?_⟩
  · rw [re_inv h nz, ← e, Rat.intCast_mul]
    have : re z * (z.d : Rat) = (z.x : Rat) := by unfold re; grind
    grind
  · rw [im_inv h nz, ← e, Rat.intCast_neg, Rat.intCast_mul]
    have : im z * (z.d : Rat) = (z.y : Rat) := by unfold im; grind
    grind
theorem flip_nrm (m : Bool) (z : Num) : (flip m z).x * (flip m z).x + (flip m z).y * (flip m z).y = z.x * z.x + z.y * z.y := by
  cases m with
  | false => rfl
  | true =>
    show z.x * z.x + (0 - z.y) * (0 - z.y) = _
    grind
theorem On.at {c : Cp} (kc : c.ok) (hz : Can z) (o : On M z) : On (M * c.t.d * c.s.d) (c.at z) := by
  rw [Cp.at_eq]
  refine On.add (can_mul kc.1 (can_flip hz)) kc.2.2 ?_ ((on_of kc.2.2 (Int.dvd_refl _)).less _)
  refine On.more ?_ _
  rw [Int.mul_comm]
  exact On.mul kc.1 (can_flip hz) (on_of kc.1 (Int.dvd_refl _)) (o.flip _)
theorem at_dvd {c : Cp} (kc : c.ok) (hz : Can z) (hM : 0 < M) (d : z.d ∣ M) : (c.at z).d ∣ M * c.t.d * c.s.d :=
  on_dvd (Cp.can_at kc hz) (Int.mul_pos (Int.mul_pos hM kc.1.1) kc.2.2.1) ((on_of hz d).at kc hz)
end
/-- a carried drawing -/
theorem okI.at {c : Cp} (kc : c.ok) {N : Int} {n m p : Nat} {ss : List Stk} (k : okI N ss) (bN : Bt p N) (sz : c.sz n) (sm : ∀ s ∈ ss, ∀ z ∈ s, Sz m z) (h1 : n + m + 1 + n + 1 ≤ 1500) (h2 : p + n + n ≤ 6000) : okI (N * c.t.d * c.s.d) (movedBy c ss) := by
  refine ⟨Int.mul_pos (Int.mul_pos k.pos kc.1.1) kc.2.2.1, (((bN.mul sz.1.2.2).mul sz.2.2.2).mono h2), by unfold movedBy; rw [List.length_map]; exact k.le, fun s hs => ?_, fun s hs z hz => ?_⟩
  · obtain ⟨t, ht, rfl⟩ := List.mem_map.mp hs
    obtain ⟨a, b, d⟩ := k.st t ht
    rw [List.length_map]
    exact ⟨a, b, moves_at kc (fun z hz => (k.can t ht z hz).1) d⟩
  · obtain ⟨t, ht, rfl⟩ := List.mem_map.mp hs
    obtain ⟨w, hw, rfl⟩ := List.mem_map.mp hz
    obtain ⟨a, b, d⟩ := k.can t ht w hw
    exact ⟨Cp.can_at kc a, (Cp.sz_at kc a sz (sm t ht w hw)).mono h1, at_dvd kc a k.pos d⟩
/-- what is known of a drawing whose ways are looked for -/
structure okWy (N : Int) (p n c : Nat) (ss : List Stk) : Prop where
  ok : okI N ss
  bN : Bt p N
  sz : ∀ s ∈ ss, ∀ z ∈ s, Sz n z
  ln : (cornS (inkS ss)).length ≤ c
  lk : (inkS ss).dots.length + 2 * (inkS ss).lines.length ≤ 100000
theorem corn_in {N : Int} {ss : List Stk} (k : okI N ss) {z : Num} (h : z ∈ cornS (inkS ss)) : ∃ s ∈ ss, z ∈ s := by
  obtain ⟨i1, i2⟩ := ink_spots k
  rcases mem_cornS.mp h with h | ⟨y, hy, rfl | rfl⟩
  · exact i1 z h
  · exact (i2 y hy).1
  · exact (i2 y hy).2
section
variable {N M : Int} {p n c q m e : Nat} {ss ts : List Stk}
theorem okWy.corn (k : okWy N p n c ss) {z : Num} (h : z ∈ cornS (inkS ss)) : Can z ∧ Sz n z ∧ z.d ∣ N := by
  obtain ⟨s, hs, hz⟩ := corn_in k.ok h
  obtain ⟨a, _, d⟩ := k.ok.can s hs z hz
  exact ⟨a, k.sz s hs z hz, d⟩
theorem okWy.co (k : okWy N p n c ss) (p6 : p ≤ 6000) (n15 : n ≤ 1500) : okCo (inkS ss) :=
  ⟨N, k.ok.pos, k.bN.mono p6, k.lk, fun z hz => by
    obtain ⟨a, b, d⟩ := k.corn (show z ∈ cornS (inkS ss) by unfold cornS; rw [asc_mem]; exact hz)
    exact ⟨a, b.mono n15, d⟩⟩
/-- sizes of the copy that carries h to f and k to s -/
theorem car_sz {g h f s : Num} {b : Bool} (kg : Can g ∧ Sz n g) (kh : Can h ∧ Sz n h) (kf : Can f ∧ Sz m f) (ks : Can s ∧ Sz m s) (ne : h ≠ g) : (carC b (g, f) (h, s)).sz (3 * m + 5 * n + 7) := by
  have kb := can_sub kh.1 kg.1
  have nb := NZ_sub2 kh.1 kg.1 ne
  have kq := can_sub ks.1 kf.1
  have ki : Can (NM.inv (flip b (sub h g))) := can_inv (NZ_flip nb)
  have kt := can_mul kq ki
  have sb : Sz (n + n + 1) (sub h g) := Sz.add kh.1 (can_opp kg.1) kh.2 kg.2.opp
  have sh : Sz (m + m + 1) (sub s f) := Sz.add ks.1 (can_opp kf.1) ks.2 kf.2.opp
  have stt := Sz.mul kq ki sh (Sz.inv (NZ_flip nb) (sz_flip (m := b) sb))
  have sm := Sz.mul kt (can_flip (m := b) kg.1) stt (sz_flip (m := b) kg.2)
  rw [carC_eq]
  refine ⟨stt.mono (by omega), (Sz.add kf.1 (can_opp (can_mul kt (can_flip kg.1))) kf.2 sm.opp).mono (by omega)⟩
/-- denominators of the copy that carries g to f and h to s -/
theorem car_d {g h f s : Num} {b : Bool} (kg : Can g) (kh : Can h) (kf : Can f) (ks : Can s) (ne : h ≠ g) (hN : 0 < N) (hM : 0 < M) (dg : g.d ∣ N) (df : f.d ∣ M) (ds : s.d ∣ M) :
    0 < (sub h g).x * (sub h g).x + (sub h g).y * (sub h g).y ∧ (carC b (g, f) (h, s)).t.d ∣ M * ((sub h g).x * (sub h g).x + (sub h g).y * (sub h g).y) * N ∧ (carC b (g, f) (h, s)).s.d ∣ M * ((sub h g).x * (sub h g).x + (sub h g).y * (sub h g).y) * N := by
  have kb := can_sub kh kg
  have nb := NZ_sub2 kh kg ne
  have kq := can_sub ks kf
  have ki : Can (NM.inv (flip b (sub h g))) := can_inv (NZ_flip nb)
  have kt := can_mul kq ki
  have n0 : (sub h g).x * (sub h g).x + (sub h g).y * (sub h g).y ≠ 0 := sq_ne nb
  have x0 := NM.sq_nn (sub h g).x
  have y0 := NM.sq_nn (sub h g).y
  have o1 : On ((sub h g).x * (sub h g).x + (sub h g).y * (sub h g).y) (NM.inv (flip b (sub h g))) := by
    have := on_inv (can_flip (m := b) kb) (NZ_flip nb)
    rw [flip_nrm] at this
    exact this
  have o2 := On.mul kq ki (On.sub ks kf (on_of ks ds) (on_of kf df)) o1
  have np : 0 < (sub h g).x * (sub h g).x + (sub h g).y * (sub h g).y := by omega
  have pp : 0 < M * ((sub h g).x * (sub h g).x + (sub h g).y * (sub h g).y) * N := Int.mul_pos (Int.mul_pos hM np) hN
  rw [carC_eq]
  refine ⟨np, on_dvd kt pp (o2.more _), on_dvd (can_sub kf (can_mul kt (can_flip kg))) pp ?_⟩
  exact On.sub kf (can_mul kt (can_flip kg)) (((on_of kf df).more _).more _) (On.mul kt (can_flip kg) o2 ((on_of kg dg).flip b))
theorem flatM_len {α β : Type} {f : α → List β} {e : Nat} : ∀ (l : List α), (∀ x ∈ l, (f x).length ≤ e) → (l.flatMap f).length ≤ l.length * e
  | [], _ => by simp
  | x :: l, h => by
    have h1 := h x (List.mem_cons_self ..)
    have h2 := flatM_len l fun y hy => h y (List.mem_cons_of_mem _ hy)
    rw [List.flatMap_cons, List.length_append, List.length_cons, Nat.add_mul]
    omega
theorem carL_le2 (ps : List (Num × Num)) : (carL ps).length ≤ 2 := by
  unfold carL
  split
  · rename_i p r q o _
    rw [List.length_append]
    have l1 : (carM (p :: r) p q false).length ≤ 1 := by
      rcases carM_len (p :: r) p q false with h | h <;> rw [h] <;> simp
    have l2 : (carM (p :: r) p q true).length ≤ 1 := by
      rcases carM_len (p :: r) p q true with h | h <;> rw [h] <;> simp
    omega
  · simp
theorem found_len (ss ts : List Stk) (h k : Num) (T : List Num) (c : Nat) (l : T.length ≤ c) : (T.flatMap (foundS ss ts h k T)).length ≤ c * (c * 2) := by
  have h1 : ∀ f ∈ T, (foundS ss ts h k T f).length ≤ c * 2 := fun f _ => by
    unfold foundS
    refine Nat.le_trans (flatM_len (e := 2) T fun s _ => ?_) (Nat.mul_le_mul_right 2 l)
    split
    · simp
    · unfold carW
      exact Nat.le_trans (List.length_filter_le _ _) (carL_le2 _)
  exact Nat.le_trans (flatM_len T h1) (Nat.mul_le_mul_right _ l)
theorem mem_foundS {ss ts : List Stk} {h k f : Num} {T : List Num} {c : Cp} (q : c ∈ foundS ss ts h k T f) : ∃ s ∈ T, f ≠ s ∧ c ∈ carL [(h, f), (k, s)] := by
  unfold foundS at q
  obtain ⟨s, hs, q⟩ := List.mem_flatMap.mp q
  refine ⟨s, hs, ?_⟩
  split at q
  · cases q
  · rename_i ne
    exact ⟨ne, (mem_carW.mp q).1⟩
/-- the ways from one known drawing to another can be looked for -/
theorem okWy.w (ka : okWy N p n c ss) (kb : okWy M q m e ts) (h2 : 2 ≤ (cornS (inkS ss)).length) (n1 : n ≤ 100) (m1 : m ≤ 100) (e1 : e ≤ 22) (x1 : p + (3 * m + 5 * n + 7) + (3 * m + 5 * n + 7) ≤ 6000) (x2 : q + (2 * (2 * n + 1) + 1) + p ≤ 6000) (x3 : (3 * m + 5 * n + 7) + n + 1 + (3 * m + 5 * n + 7) + 1 ≤ 1500) (x4 : 3 * m + 5 * n + 7 ≤ 900) : okW ss ts := by
  obtain ⟨ne, g1, g2⟩ := corn_ne h2
  obtain ⟨a1, a2, a3⟩ := ka.corn g1
  obtain ⟨b1, b2, b3⟩ := ka.corn g2
  have car : ∀ f ∈ cornS (inkS ts), ∀ s ∈ cornS (inkS ts), f ≠ s → ∀ c ∈ carL [(hdN (cornS (inkS ss)), f), (sdN (cornS (inkS ss)), s)], c.ok ∧ c = carC c.m (hdN (cornS (inkS ss)), f) (sdN (cornS (inkS ss)), s) := fun f hf s hs fs c hc => by
    obtain ⟨f1, f2, f3⟩ := kb.corn hf
    obtain ⟨s1, s2, s3⟩ := kb.corn hs
    obtain ⟨ok, e1, e2⟩ := (carL_two ne ⟨a1, a2.mono n1⟩ ⟨b1, b2.mono n1⟩ ⟨f1, f2.mono m1⟩ ⟨s1, s2.mono m1⟩).mp hc
    exact ⟨ok, (car_unique (p := (hdN (cornS (inkS ss)), f)) (q := (sdN (cornS (inkS ss)), s)) ⟨⟨a1, a2.mono n1⟩, f1, f2.mono m1⟩ ⟨⟨b1, b2.mono n1⟩, s1, s2.mono m1⟩ ne.symm ok e1 e2).2⟩
  have csz : ∀ f ∈ cornS (inkS ts), ∀ s ∈ cornS (inkS ts), ∀ b, (carC b (hdN (cornS (inkS ss)), f) (sdN (cornS (inkS ss)), s)).sz (3 * m + 5 * n + 7) := fun f hf s hs b => by
    obtain ⟨f1, f2, f3⟩ := kb.corn hf
    obtain ⟨s1, s2, s3⟩ := kb.corn hs
    exact car_sz ⟨a1, a2⟩ ⟨b1, b2⟩ ⟨f1, f2⟩ ⟨s1, s2⟩ ne.symm
  refine ⟨ne, ⟨⟨a1, a2.mono n1⟩, b1, b2.mono n1⟩, fun f hf => ⟨(kb.corn hf).1, (kb.corn hf).2.1.mono m1⟩, fun f hf s hs fs c hc => ?_, ?_⟩
  · obtain ⟨ok, ec⟩ := car f hf s hs fs c hc
    have sz := csz f hf s hs c.m
    rw [← ec] at sz
    exact ⟨ok, ⟨sz.1.mono x4, sz.2.mono x4⟩, _, okI.at ok ka.ok ka.bN sz ka.sz x3 x1⟩
  · have sb : Sz (n + n + 1) (sub (sdN (cornS (inkS ss))) (hdN (cornS (inkS ss)))) := Sz.add b1 (can_opp a1) b2 a2.opp
    have nn := sq_ne (NZ_sub2 b1 a1 ne.symm)
    have np : 0 < (sub (sdN (cornS (inkS ss))) (hdN (cornS (inkS ss)))).x * (sub (sdN (cornS (inkS ss))) (hdN (cornS (inkS ss)))).x + (sub (sdN (cornS (inkS ss))) (hdN (cornS (inkS ss)))).y * (sub (sdN (cornS (inkS ss))) (hdN (cornS (inkS ss)))).y := by
      have x0 := NM.sq_nn (sub (sdN (cornS (inkS ss))) (hdN (cornS (inkS ss)))).x
      have y0 := NM.sq_nn (sub (sdN (cornS (inkS ss))) (hdN (cornS (inkS ss)))).y
      omega
    refine ⟨M * _ * N, Int.mul_pos (Int.mul_pos kb.ok.pos np) ka.ok.pos, (((kb.bN.mul ((sb.1.mul sb.1).add (sb.2.1.mul sb.2.1))).mul ka.bN).mono (by omega)), ?_, fun c hc => ?_⟩
    · unfold foundC
      have := found_len ss ts (hdN (cornS (inkS ss))) (sdN (cornS (inkS ss))) (cornS (inkS ts)) e kb.ln
      have h3 : e * (e * 2) ≤ 22 * (22 * 2) := Nat.mul_le_mul e1 (Nat.mul_le_mul_right 2 e1)
      omega
    · unfold foundC at hc
      obtain ⟨f, hf, hc⟩ := List.mem_flatMap.mp hc
      obtain ⟨s, hs, fs, hc⟩ := mem_foundS hc
      obtain ⟨ok, ec⟩ := car f hf s hs fs c hc
      have sz := csz f hf s hs c.m
      obtain ⟨f1, f2, f3⟩ := kb.corn hf
      obtain ⟨s1, s2, s3⟩ := kb.corn hs
      obtain ⟨_, d1, d2⟩ := car_d (b := c.m) a1 b1 f1 s1 ne.symm ka.ok.pos kb.ok.pos a3 f3 s3
      rw [← ec] at sz d1 d2
      exact ⟨⟨ok.1, sz.1.mono (by omega), d1⟩, ok.2.2, sz.2.mono (by omega), d2⟩
/-- a random drawing -/
theorem okWy.tn (ks : ∀ s ∈ ss, okTn s) (l2 : ss.length ≤ 3) : okWy 12 4 3 (ss.length + 6 * ss.length) ss := by
  have o : okI 12 ss := okI_tiny (by omega) ks
  have il := ink_len o
  have p3 := parts_3 ks
  have cl : (cornS (inkS ss)).length ≤ (inkS ss).dots.length + 2 * (inkS ss).lines.length := by
    unfold cornS
    rw [asc_len]
    have h1 := corn_len (inkS ss).lines (nubL (inkS ss).dots)
    have h2 := nub_le (inkS ss).dots
    unfold cornK
    omega
  exact ⟨o, by unfold Bt; decide, fun s hs z hz => ((ks s hs).2 z hz).sz, by omega, by omega⟩
end
end L3

/-! ## V77 -/
set_option Elab.async false
set_option linter.all false
set_option maxRecDepth 100000
set_option maxHeartbeats 1000000
/-! Ways there and back; one dot more. -/
namespace L3
open PySem PySem.Spec PySem.Calls PyProof.Rows L2 NM
open Ink (Q2 Pl Sg Ky)
theorem sg_bound {a b p : Q2} {B : Rat} (ha : a.1 ≤ B) (hb : b.1 ≤ B) (h : Ink.sg a b p) : p.1 ≤ B := by
  obtain ⟨t, t0, t1, e1, _⟩ := sg_iff.mp h
  have h1 : 0 ≤ (1 - t) * (B - a.1) := Rat.mul_nonneg (by grind) (by grind)
  have h2 : 0 ≤ t * (B - b.1) := Rat.mul_nonneg t0 (by grind)
  grind
theorem cov_bound {ss : List Stk} {B : Rat} (h : ∀ s ∈ ss, ∀ z ∈ s, re z ≤ B) {P : Q2} (c : covS ss P) : P.1 ≤ B := by
  obtain ⟨s, hs, ⟨z, rfl, rfl⟩ | ⟨y, hy, q⟩⟩ := c
  · exact h _ hs z (by simp)
  · obtain ⟨m1, m2⟩ := segs_mem2 hy
    exact sg_bound (h s hs _ m1) (h s hs _ m2) q
/-- a dot to the right of all -/
theorem ink_far {ts : List Stk} {I : Inkd} (h : IsInk (covS ts) I) {z : Num} (kz : Can z) {B : Rat} (hB : ∀ P, covS ts P → P.1 ≤ B) (hz : B < re z) : IsInk (covS (ts ++ [[z]])) ⟨I.dots ++ [z], I.lines⟩ := by
  have out : ¬ covS ts (numQ z) := fun c => by
    have : re z ≤ B := hB _ c
    grind
  have inn : ∀ w ∈ I.dots, covS ts (numQ w) := fun w hw => (h.cov _).mp (.inl (List.mem_map.mpr ⟨w, hw, rfl⟩))
  refine ⟨fun w hw => ?_, h.cl, ⟨h.nf.asc, h.nf.apart, fun d hd l hl q => ?_, ?_, h.nf.sl⟩, fun p => ?_⟩
  · rcases List.mem_append.mp hw with hw | hw
    · exact h.cd w hw
    · rw [List.mem_singleton.mp hw]; exact kz
  · obtain ⟨w, hw, rfl⟩ := List.mem_map.mp hd
    rcases List.mem_append.mp hw with hw | hw
    · exact h.nf.off _ (List.mem_map.mpr ⟨w, hw, rfl⟩) l hl q
    · rw [List.mem_singleton.mp hw] at q
      exact out ((h.cov _).mp (.inr ⟨l, hl, q⟩))
  · show ((I.dots ++ [z]).map numQ).Pairwise Ink.lt
    rw [List.map_append, List.pairwise_append]
    refine ⟨h.nf.sd, List.pairwise_singleton .., fun a ha b hb => ?_⟩
    obtain ⟨w, hw, rfl⟩ := List.mem_map.mp ha
    have : b = numQ z := by simpa using hb
    subst this
    have w1 : re w ≤ B := hB _ (inn w hw)
    exact .inl (by show re w < re z; grind)
  · rw [cov_app, cov_one, ← h.cov p]
    show (p ∈ (I.dots ++ [z]).map numQ ∨ _) ↔ _
    rw [List.map_append, List.mem_append]
    constructor
    · rintro ((a | a) | a)
      · exact .inl (.inl a)
      · exact .inr (by simpa using a)
      · exact .inl (.inr a)
    · rintro ((a | a) | a)
      · exact .inl (.inl a)
      · exact .inr a
      · exact .inl (.inr (by simpa using a))
theorem corn_far {I : Inkd} {z : Num} (h : z ∉ cornS I) : (cornS ⟨I.dots ++ [z], I.lines⟩).length = (cornS I).length + 1 := by
  have pm : (cornS ⟨I.dots ++ [z], I.lines⟩).Perm (z :: cornS I) := (List.perm_ext_iff_of_nodup (cornS_nodup _) (List.nodup_cons.mpr ⟨h, cornS_nodup I⟩)).mpr fun w => by
    rw [List.mem_cons, mem_cornS, mem_cornS]
    show (w ∈ I.dots ++ [z] ∨ _) ↔ _
    rw [List.mem_append, List.mem_singleton]
    constructor
    · rintro ((a | a) | a)
      · exact .inr (.inl a)
      · exact .inl a
      · exact .inr (.inr a)
    · rintro (a | a | a)
      · exact .inl (.inr a)
      · exact .inl (.inl a)
      · exact .inr a
  rw [pm.length_eq, List.length_cons]
theorem IsInk.congr {C C' : Q2 → Prop} {I : Inkd} (h : IsInk C I) (e : ∀ P, C P ↔ C' P) : IsInk C' I := ⟨h.cd, h.cl, h.nf, fun p => (h.cov p).trans (e p)⟩
theorem is_self {ss : List Stk} {I : Inkd} (h : IsInk (covS ss) I) : IsInk (covS ss) (inkS ss) := by rw [inkS_of h]; exact h
theorem ink_cov {as bs : List Stk} (ha : IsInk (covS as) (inkS as)) (hb : IsInk (covS bs) (inkS bs)) (e : inkS as = inkS bs) (P : Q2) : covS as P ↔ covS bs P := (ha.cov P).symm.trans (e ▸ hb.cov P)
/-- the ink of a carried drawing is one -/
theorem is_back {c : Cp} (kc : c.ok) {ss ts : List Stk} (ks : CanS ss) (kt : CanS ts) (hs : IsInk (covS ss) (inkS ss)) (e : ∀ P, covS (movedBy c ss) P ↔ covS ts P) : IsInk (covS (movedBy c.inv ts)) (inkS ss) := by
  refine hs.congr fun P => ?_
  have h1 := cov_at (Cp.inv_ok kc) kt (atQ c P)
  rw [atQ_inv2 kc] at h1
  exact ((h1.trans (e _).symm).trans (cov_at kc ks P)).symm
section
variable {ss ts : List Stk} {c : Cp}
theorem found_ok (h2 : 2 ≤ (cornS (inkS ss)).length) (w : okW ss ts) (h : c ∈ foundC ss ts) : c.ok ∧ c.sz quart ∧ ∃ N, okI N (movedBy c ss) := by
  unfold foundC at h
  obtain ⟨f, hf, h⟩ := List.mem_flatMap.mp h
  obtain ⟨s, hs, fs, h⟩ := mem_foundS h
  exact w.kc f hf s hs fs c h
theorem found_cov (h2 : 2 ≤ (cornS (inkS ss)).length) (w : okW ss ts) (ht : IsInk (covS ts) (inkS ts)) (h : c ∈ foundC ss ts) (P : Q2) : covS (movedBy c ss) P ↔ covS ts P := by
  obtain ⟨_, _, N, k⟩ := found_ok h2 w h
  exact ink_cov k.is ht (found_e h2 w h).2 P
theorem found_inv (h2 : 2 ≤ (cornS (inkS ss)).length) (h2' : 2 ≤ (cornS (inkS ts)).length) (w : okW ss ts) (w' : okW ts ss) (ks : CanS ss) (kt : CanS ts) (hs : IsInk (covS ss) (inkS ss)) (ht : IsInk (covS ts) (inkS ts)) (h : c ∈ foundC ss ts) : c.inv ∈ foundC ts ss := by
  have kc := (found_ok h2 w h).1
  have b := is_back kc ks kt hs (found_cov h2 w ht h)
  exact found_i h2' w' kt ht (Cp.inv_ok kc) (is_self b) (inkS_of b)
end
/-! ### strokes in another order, turned about -/
def revS (ss : List Stk) : List Stk := (ss.map List.reverse).reverse
theorem revS_len (ss : List Stk) : (revS ss).length = ss.length := by
  unfold revS
  rw [List.length_reverse, List.length_map]
/-! ### places of images -/
/-! ### rules for ways -/
theorem part_11 : ∀ {ss : List Stk}, (∀ s ∈ ss, s.length ≤ 12) → (ss.flatMap segs).length ≤ 11 * ss.length
  | [], _ => Nat.le_refl _
  | s :: ss, h => by
    have ih := part_11 fun t ht => h t (List.mem_cons_of_mem _ ht)
    have := h s (List.mem_cons_self ..)
    rw [List.flatMap_cons, List.length_append, List.length_cons, segs_len]
    omega
theorem okI.lk {N : Int} {ss : List Stk} (k : okI N ss) : (inkS ss).dots.length + 2 * (inkS ss).lines.length ≤ 100000 := by
  have il := ink_len k
  have p := part_11 fun s hs => (k.st s hs).2.1
  have := k.le
  omega
theorem okI.canS {N : Int} {ss : List Stk} (k : okI N ss) : CanS ss := fun s hs z hz => (k.can s hs z hz).1
section
variable {Γ : CL} {μ : MH} {Q : D → MH → Prop} {N M : Int} {p n c q m e : Nat} {ss ts : List Stk}
/-- .. one dot more, to the right of all -/
theorem okWy.far (k : okWy N p n c ts) {z : Num} {B : Rat} (kz : Can z) (sz : Sz m z) (nm : n ≤ m) (m1 : m ≤ 1500) (dz : z.d ∣ N * 3) (p6 : p + 2 ≤ 6000) (l : ts.length ≤ 400) (hB : ∀ s ∈ ts, ∀ w ∈ s, re w ≤ B) (hz : B < re z) : okWy (N * 3) (p + 2) m (c + 1) (ts ++ [[z]]) ∧ (cornS (inkS (ts ++ [[z]]))).length = (cornS (inkS ts)).length + 1 := by
  have i := ink_far k.ok.is kz (fun P h => cov_bound hB h) hz
  have out : z ∉ cornS (inkS ts) := fun h => by
    obtain ⟨s, hs, hz2⟩ := corn_in k.ok h
    have := hB s hs z hz2
    grind
  have l1 : (cornS (inkS (ts ++ [[z]]))).length = (cornS (inkS ts)).length + 1 := by
    rw [inkS_of i]
    exact corn_far out
  have ko : okI (N * 3) (ts ++ [[z]]) := by
    refine ⟨Int.mul_pos k.ok.pos (by decide), ((k.bN.mul (show Bt 2 3 by unfold Bt; decide)).mono p6), by rw [List.length_append]; show _ + 1 ≤ _; omega, fun s hs => ?_, fun s hs w hw => ?_⟩
    · rcases List.mem_append.mp hs with hs | hs
      · exact k.ok.st s hs
      · rw [List.mem_singleton.mp hs]
        exact ⟨by show 1 ≤ 1; decide, by show 1 ≤ 12; decide, trivial⟩
    · rcases List.mem_append.mp hs with hs | hs
      · obtain ⟨a, b, d⟩ := k.ok.can s hs w hw
        exact ⟨a, b, Int.dvd_trans d (Int.dvd_mul_right ..)⟩
      · rw [List.mem_singleton.mp hs] at hw
        rw [List.mem_singleton.mp hw]
        exact ⟨kz, sz.mono m1, dz⟩
  refine ⟨⟨ko, k.bN.mul (show Bt 2 3 by unfold Bt; decide), fun s hs w hw => ?_, by rw [l1]; have := k.ln; omega, ko.lk⟩, l1⟩
  rcases List.mem_append.mp hs with hs | hs
  · exact (k.sz s hs w hw).mono nm
  · rw [List.mem_singleton.mp hs] at hw
    rw [List.mem_singleton.mp hw]
    exact sz
end
end L3

/-! ## V78 -/
set_option Elab.async false
set_option linter.all false
set_option maxRecDepth 100000
set_option maxHeartbeats 1000000
/-! Symmetries: what copies carry an ink to itself, told by its dots and lines. -/
namespace L3
open PySem PySem.Spec PySem.Calls PyProof.Rows L2 NM
open Ink (Q2 Pl Sg Ky)
def okB (c : Cp) (I : Inkd) : Bool := (I.dots.all fun d => decide (c.at d ∈ I.dots)) && I.lines.all fun l => decide ((c.at l.1, c.at l.2) ∈ I.lines) || decide ((c.at l.2, c.at l.1) ∈ I.lines)
def symB (c : Cp) (I : Inkd) : Bool := okB c I && okB c.inv I
section
variable {c : Cp} {ss : List Stk} {I : Inkd}
theorem okB_of (kc : c.ok) (k : CanS ss) (hI : IsInk (covS ss) I) (e : ∀ P, covS (movedBy c ss) P ↔ covS ss P) : okB c I = true := by
  have hJ : IsInk (covS (movedBy c ss)) I := hI.congr fun P => (e P).symm
  have cc : ∀ p, Ink.cov (I.dots.map numQ) (I.lines.map numL) (atQ c p) ↔ Ink.cov (I.dots.map numQ) (I.lines.map numL) p := fun p => (hJ.cov _).trans ((cov_at kc k p).trans (hI.cov p).symm)
  have cc2 : ∀ p, Ink.cov (I.dots.map numQ) (I.lines.map numL) (atQ c.inv p) ↔ Ink.cov (I.dots.map numQ) (I.lines.map numL) p := fun p => by
    have := cc (atQ c.inv p)
    rw [atQ_inv kc] at this
    exact this.symm
  unfold okB
  rw [Bool.and_eq_true, List.all_eq_true, List.all_eq_true]
  refine ⟨fun z h => decide_eq_true ?_, fun l hl => ?_⟩
  · have kz := hI.cd z h
    rcases (cc (numQ z)).mpr (.inl (List.mem_map.mpr ⟨z, h, rfl⟩)) with q | ⟨m, hm, q⟩
    · obtain ⟨d, hd, e⟩ := List.mem_map.mp q
      rw [← at_Q kc kz] at e
      exact numQ_inj (hJ.cd d hd) (Cp.can_at kc kz) e ▸ hd
    · obtain ⟨l, hl, e⟩ := ln_go hJ.nf hI.nf (F := atQ c.inv) (G := atQ c) (atQ_inv2 kc) (atQ_inv kc) (fun h => sg_atQ _ h) (fun h => sg_atQ _ h) cc2 m hm
      have al := hI.nf.asc l hl
      have s := sg_atQ c.inv (show Ink.sg m.1 m.2 (atQ c (numQ z)) from ⟨q.1, .inl q.2⟩)
      rw [atQ_inv2 kc] at s
      refine absurd ?_ (hI.nf.off (numQ z) (List.mem_map.mpr ⟨z, h, rfl⟩) l hl)
      refine (sg_lt2 al).mp ?_
      rcases e with ⟨e1, e2⟩ | ⟨e1, e2⟩
      · rw [e1, e2]; exact s
      · rw [e1, e2]; exact sg_comm.mp s
  · obtain ⟨k1, k2⟩ := hI.cl l hl
    obtain ⟨m, hm, e⟩ := ln_go hI.nf hJ.nf (F := atQ c) (G := atQ c.inv) (atQ_inv kc) (atQ_inv2 kc) (fun h => sg_atQ _ h) (fun h => sg_atQ _ h) cc (numL l) (List.mem_map.mpr ⟨l, hl, rfl⟩)
    obtain ⟨w, hw, rfl⟩ := List.mem_map.mp hm
    obtain ⟨w1, w2⟩ := hJ.cl w hw
    have a1 : numQ (c.at l.1) = atQ c (numL l).1 := at_Q kc k1
    have a2 : numQ (c.at l.2) = atQ c (numL l).2 := at_Q kc k2
    rw [Bool.or_eq_true, decide_eq_true_iff, decide_eq_true_iff]
    rcases e with ⟨e1, e2⟩ | ⟨e1, e2⟩
    · refine .inl ?_
      rw [show (c.at l.1, c.at l.2) = w from Prod.ext (numQ_inj (Cp.can_at kc k1) w1 (a1.trans e1.symm)) (numQ_inj (Cp.can_at kc k2) w2 (a2.trans e2.symm))]
      exact hw
    · refine .inr ?_
      rw [show (c.at l.2, c.at l.1) = w from Prod.ext (numQ_inj (Cp.can_at kc k2) w1 (a2.trans e1.symm)) (numQ_inj (Cp.can_at kc k1) w2 (a1.trans e2.symm))]
      exact hw
theorem cov_okB (kc : c.ok) (k : CanS ss) (hI : IsInk (covS ss) I) (b : okB c I = true) {P : Q2} (h : covS (movedBy c ss) P) : covS ss P := by
  unfold okB at b
  rw [Bool.and_eq_true, List.all_eq_true, List.all_eq_true] at b
  obtain ⟨b1, b2⟩ := b
  have h1 : covS ss (atQ c.inv P) := by
    have := cov_at kc k (atQ c.inv P)
    rw [atQ_inv kc] at this
    exact this.mp h
  rw [← hI.cov]
  rcases (hI.cov _).mpr h1 with q | ⟨m, hm, q⟩
  · obtain ⟨d, hd, e⟩ := List.mem_map.mp q
    have : numQ (c.at d) = P := by rw [at_Q kc (hI.cd d hd), e, atQ_inv kc]
    rw [← this]
    exact .inl (List.mem_map.mpr ⟨_, of_decide_eq_true (b1 d hd), rfl⟩)
  · obtain ⟨l, hl, rfl⟩ := List.mem_map.mp hm
    obtain ⟨k1, k2⟩ := hI.cl l hl
    have s := sg_atQ c (show Ink.sg (numL l).1 (numL l).2 (atQ c.inv P) from ⟨q.1, .inl q.2⟩)
    rw [atQ_inv kc] at s
    have a1 : numQ (c.at l.1) = atQ c (numL l).1 := at_Q kc k1
    have a2 : numQ (c.at l.2) = atQ c (numL l).2 := at_Q kc k2
    rw [← a1, ← a2] at s
    have b := b2 l hl
    rw [Bool.or_eq_true, decide_eq_true_iff, decide_eq_true_iff] at b
    have fin : ∀ w ∈ I.lines, Ink.sg (numL w).1 (numL w).2 P → Ink.cov (I.dots.map numQ) (I.lines.map numL) P := fun w hw s => by
      have hm : numL w ∈ I.lines.map numL := List.mem_map.mpr ⟨w, hw, rfl⟩
      exact .inr ⟨numL w, hm, (sg_lt2 (hI.nf.asc _ hm)).mp s⟩
    rcases b with b | b
    · exact fin _ b s
    · exact fin _ b (sg_comm.mp s)
theorem sym_iff (kc : c.ok) (k : CanS ss) (hI : IsInk (covS ss) I) : (∀ P, covS (movedBy c ss) P ↔ covS ss P) ↔ symB c I = true := by
  unfold symB
  rw [Bool.and_eq_true]
  constructor
  · intro e
    refine ⟨okB_of kc k hI e, okB_of (Cp.inv_ok kc) k hI fun P => ?_⟩
    have h1 := cov_at (Cp.inv_ok kc) k (atQ c P)
    rw [atQ_inv2 kc] at h1
    exact (h1.trans (e _).symm).trans (cov_at kc k P)
  · rintro ⟨b1, b2⟩ P
    refine ⟨cov_okB kc k hI b1, fun h => ?_⟩
    have h2 : covS (movedBy c.inv ss) (atQ c.inv P) := (cov_at (Cp.inv_ok kc) k P).mpr h
    have h3 := cov_okB (Cp.inv_ok kc) k hI b2 h2
    have h4 := (cov_at kc k _).mpr h3
    rw [atQ_inv kc] at h4
    exact h4
end
/-- the copies that may carry an ink to itself -/
def candS (H : List Num) : List Cp := H.flatMap fun f => H.flatMap fun s => if f = s then [] else carL [(hdN H, f), (sdN H, s)]
theorem hd_ne {H : List Num} (nd : H.Nodup) (h : 2 ≤ H.length) : hdN H ≠ sdN H ∧ hdN H ∈ H ∧ sdN H ∈ H := by
  match H, h with
  | [], h => simp at h
  | [_], h => simp at h
  | a :: b :: r, _ =>
    refine ⟨?_, List.mem_cons_self .., List.mem_cons_of_mem _ (List.mem_cons_self ..)⟩
    rw [List.nodup_cons] at nd
    exact fun e => nd.1 (by
      have e : a = b := e
      rw [e]
      exact List.mem_cons_self ..)
/-- inks of the same dots and lines, in whatever order -/
structure SameI (I J : Inkd) : Prop where
  d : ∀ z, z ∈ I.dots ↔ z ∈ J.dots
  l : ∀ y, y ∈ I.lines ↔ y ∈ J.lines
theorem okB_same {c : Cp} {I J : Inkd} (h : SameI I J) : okB c I = okB c J := by
  rw [Bool.eq_iff_iff]
  unfold okB
  simp only [Bool.and_eq_true, List.all_eq_true, Bool.or_eq_true, decide_eq_true_iff, h.d, h.l]
theorem symB_same {c : Cp} {I J : Inkd} (h : SameI I J) : symB c I = symB c J := by
  unfold symB
  rw [okB_same h, okB_same h]
theorem cornK_same {I J : Inkd} (h : SameI I J) (z : Num) : z ∈ cornK I ↔ z ∈ cornK J := by
  rw [mem_cornK, mem_cornK, h.d]
  simp only [h.l]
section
variable {c : Cp} {ss : List Stk} {I J : Inkd}
theorem sym_cand (k : CanS ss) (hI : IsInk (covS ss) I) (hJ : SameI I J) (h2 : 2 ≤ (cornK J).length) (sz : ∀ z ∈ cornK J, Can z ∧ Sz 100 z) (kc : c.ok) (e : ∀ P, covS (movedBy c ss) P ↔ covS ss P) : c ∈ candS (cornK J) := by
  have nd : (cornK J).Nodup := corn_nodup _ _ (nub_nodup _)
  obtain ⟨ne, m1, m2⟩ := hd_ne nd h2
  have hI' : IsInk (covS (movedBy c ss)) I := hI.congr fun P => (e P).symm
  have go : ∀ z, z ∈ cornK J → c.at z ∈ cornK J := fun z hz => by
    have := corn_go kc k hI hI' (z := z) (by unfold cornS; rw [asc_mem, cornK_same hJ]; exact hz)
    unfold cornS at this
    rw [asc_mem, cornK_same hJ] at this
    exact this
  unfold candS
  refine List.mem_flatMap.mpr ⟨_, go _ m1, List.mem_flatMap.mpr ⟨_, go _ m2, ?_⟩⟩
  rw [if_neg fun q => ne (Cp.at_inj kc (sz _ m1).1 (sz _ m2).1 q)]
  exact (carL_two ne (sz _ m1) (sz _ m2) (sz _ (go _ m1)) (sz _ (go _ m2))).mpr ⟨kc, rfl, rfl⟩
end
/-- the ink of strokes no two of whose parts lie on one line, in no order -/
def inkU (S : Int) (pl : List (List Ink.Pl)) : Inkd := ⟨(Ink.dotsI pl (Ink.groupI (Ink.partsI pl))).map (lowP S), ((Ink.groupI (Ink.partsI pl)).flatMap (·.2)).map fun s => (lowP S s.1, lowP S s.2)⟩
/-! ### the shapes -/
def S0 : Nat → List Stk
  | 0 => [[⟨0,0,1⟩, ⟨1,0,1⟩, ⟨1,1,1⟩, ⟨0,1,1⟩, ⟨0,0,1⟩]]
  | 1 => [[⟨0,0,1⟩, ⟨1,0,1⟩], [⟨1,0,1⟩, ⟨1,1,1⟩], [⟨0,0,1⟩, ⟨0,1,1⟩]]
  | 2 => [[⟨0,0,1⟩, ⟨1,0,1⟩]]
  | 3 => [[⟨0,0,1⟩, ⟨1,0,1⟩], [⟨1,1,1⟩]]
  | 4 => [[⟨0,0,1⟩], [⟨1,1,1⟩], [⟨0,1,1⟩]]
  | _ => [[⟨0,0,1⟩, ⟨1,1,1⟩], [⟨1,0,1⟩, ⟨0,1,1⟩]]
def G0 : Nat → List Cp
  | 0 => [⟨⟨1,0,1⟩, ⟨0,0,1⟩, false⟩, ⟨⟨0,1,1⟩, ⟨0,0,1⟩, true⟩, ⟨⟨1,0,1⟩, ⟨0,1,1⟩, true⟩, ⟨⟨0,-1,1⟩, ⟨0,1,1⟩, false⟩, ⟨⟨0,1,1⟩, ⟨1,0,1⟩, false⟩, ⟨⟨-1,0,1⟩, ⟨1,0,1⟩, true⟩, ⟨⟨0,-1,1⟩, ⟨1,1,1⟩, true⟩, ⟨⟨-1,0,1⟩, ⟨1,1,1⟩, false⟩]
  | 1 => [⟨⟨1,0,1⟩, ⟨0,0,1⟩, false⟩, ⟨⟨-1,0,1⟩, ⟨1,0,1⟩, true⟩]
  | 2 => [⟨⟨1,0,1⟩, ⟨0,0,1⟩, false⟩, ⟨⟨1,0,1⟩, ⟨0,0,1⟩, true⟩, ⟨⟨-1,0,1⟩, ⟨1,0,1⟩, false⟩, ⟨⟨-1,0,1⟩, ⟨1,0,1⟩, true⟩]
  | 3 => [⟨⟨1,0,1⟩, ⟨0,0,1⟩, false⟩]
  | 4 => [⟨⟨1,0,1⟩, ⟨0,0,1⟩, false⟩, ⟨⟨0,-1,1⟩, ⟨1,1,1⟩, true⟩]
  | _ => [⟨⟨1,0,1⟩, ⟨0,0,1⟩, false⟩, ⟨⟨0,1,1⟩, ⟨0,0,1⟩, true⟩, ⟨⟨-1,0,1⟩, ⟨1,1,1⟩, false⟩, ⟨⟨0,-1,1⟩, ⟨1,1,1⟩, true⟩, ⟨⟨0,-1,1⟩, ⟨0,1,1⟩, false⟩, ⟨⟨1,0,1⟩, ⟨0,1,1⟩, true⟩, ⟨⟨0,1,1⟩, ⟨1,0,1⟩, false⟩, ⟨⟨-1,0,1⟩, ⟨1,0,1⟩, true⟩]
def U0 (k : Nat) : Inkd := inkU 1 (plsI 1 (S0 k))
end L3

/-! ## V79 -/
set_option Elab.async false
set_option linter.all false
set_option maxRecDepth 100000
set_option maxHeartbeats 1000000
/-! Symmetries of carried shapes. -/
namespace L3
open PySem PySem.Spec PySem.Calls PyProof.Rows L2 NM
open Ink (Q2 Pl Sg Ky)
def dueN : Nat → Nat
  | 0 => 8
  | 1 => 2
  | 2 => 4
  | 3 => 1
  | 4 => 2
  | _ => 8
structure Shp (k : Nat) : Prop where
  oi : okI 1 (S0 k)
  sz : ∀ s ∈ S0 k, ∀ z ∈ s, Sz 2 z
  h2 : 2 ≤ (cornK (U0 k)).length
  kc : ∀ z ∈ cornK (U0 k), Can z ∧ Sz 100 z
  same : SameI (inkP 1 (plsI 1 (S0 k))) (U0 k)
  cand : ∀ c ∈ candS (cornK (U0 k)), symB c (U0 k) = true → c ∈ G0 k
  grp : ∀ c ∈ G0 k, c.ok ∧ symB c (U0 k) = true
  len : (S0 k).length ≤ 12
  gl : (G0 k).length = dueN k
  unit : ∀ c ∈ G0 k, szN c.t = ⟨1, 0, 1⟩
  mir : ((G0 k).filter (·.m)).length = 0 ∨ ((G0 k).filter (·.m)).length = dueN k / 2
  neg : dueN k = 8 ∨ dueN k = 4 → ∃ c ∈ G0 k, c.m = false ∧ c.t = ⟨-1, 0, 1⟩
  one : Cp.id ∈ G0 k
  nd : (G0 k).Nodup
section
variable {k : Nat} {u c x y : Cp} {ss : List Stk}
theorem Shp.iff (s : Shp k) (kc : c.ok) : (∀ P, covS (movedBy c (S0 k)) P ↔ covS (S0 k) P) ↔ c ∈ G0 k := by
  have hI := s.oi.okS.ink
  constructor
  · intro e
    refine s.cand c (sym_cand s.oi.canS hI s.same s.h2 s.kc kc e) ?_
    rw [← symB_same s.same]
    exact (sym_iff kc s.oi.canS hI).mp e
  · intro h
    refine (sym_iff kc s.oi.canS hI).mpr ?_
    rw [symB_same s.same]
    exact (s.grp c h).2
/-- .. carried -/
theorem Shp.at (s : Shp k) (ku : u.ok) (kx : x.ok) : (∀ P, covS (movedBy x (movedBy u (S0 k))) P ↔ covS (movedBy u (S0 k)) P) ↔ ∃ y ∈ G0 k, x = conjC u y := by
  have ky := conj_ok (Cp.inv_ok ku) kx
  have ex : x = conjC u (conjC u.inv x) := (conj_conj2 ku kx).symm
  have e : (∀ P, covS (movedBy x (movedBy u (S0 k))) P ↔ covS (movedBy u (S0 k)) P) ↔ ∀ P, covS (movedBy (conjC u.inv x) (S0 k)) P ↔ covS (S0 k) P := by
    have m : movedBy x (movedBy u (S0 k)) = movedBy u (movedBy (conjC u.inv x) (S0 k)) := by
      have := moved_conj ku ky s.oi.canS
      rw [← ex] at this
      exact this
    rw [m]
    have c1 := CanS.at ky s.oi.canS
    constructor
    · intro h P
      exact (cov_at ku c1 P).symm.trans ((h (atQ u P)).trans (cov_at ku s.oi.canS P))
    · intro h P
      have h1 := cov_at ku c1 (atQ u.inv P)
      have h2 := cov_at ku s.oi.canS (atQ u.inv P)
      rw [atQ_inv ku] at h1 h2
      exact h1.trans ((h _).trans h2.symm)
  rw [e, s.iff ky]
  constructor
  · intro h
    exact ⟨_, h, ex⟩
  · rintro ⟨y, hy, rfl⟩
    rw [conj_conj ku (s.grp y hy).1]
    exact hy
/-- what is asked of symmetries that are found -/
structure Syms (ss : List Stk) : Prop where
  h2 : 2 ≤ (cornS (inkS ss)).length
  w : okW ss ss
  k : CanS ss
  is : IsInk (covS ss) (inkS ss)
theorem Syms.mem (t : Syms ss) : x ∈ foundC ss ss ↔ x.ok ∧ ∀ P, covS (movedBy x ss) P ↔ covS ss P := by
  constructor
  · intro h
    exact ⟨(found_ok t.h2 t.w h).1, found_cov t.h2 t.w t.is h⟩
  · rintro ⟨kx, e⟩
    have j : IsInk (covS (movedBy x ss)) (inkS ss) := t.is.congr fun P => (e P).symm
    exact found_i t.h2 t.w t.k t.is kx (is_self j) (inkS_of j)
theorem moved_comp (kx : x.ok) (ky : y.ok) (k : CanS ss) : movedBy (x.comp y) ss = movedBy y (movedBy x ss) := by
  rw [moved_moved]
  exact List.map_congr_left fun s hs => List.map_congr_left fun z hz => Cp.comp_at kx ky (k s hs z hz)
theorem Syms.comp (t : Syms ss) (hx : x ∈ foundC ss ss) (hy : y ∈ foundC ss ss) : x.comp y ∈ foundC ss ss := by
  rw [t.mem] at hx hy ⊢
  refine ⟨Cp.comp_ok hx.1 hy.1, fun P => ?_⟩
  rw [moved_comp hx.1 hy.1 t.k]
  have h1 := cov_at hy.1 (CanS.at hx.1 t.k) (atQ y.inv P)
  have h2 := cov_at hy.1 t.k (atQ y.inv P)
  rw [atQ_inv hy.1] at h1 h2
  exact h1.trans ((hx.2 _).trans (h2.symm.trans (hy.2 P)))
theorem Syms.inv (t : Syms ss) (hx : x ∈ foundC ss ss) : x.inv ∈ foundC ss ss := found_inv t.h2 t.h2 t.w t.w t.k t.k t.is t.is hx
theorem Shp.found (s : Shp k) (ku : u.ok) (t : Syms (movedBy u (S0 k))) : x ∈ foundC (movedBy u (S0 k)) (movedBy u (S0 k)) ↔ ∃ y ∈ G0 k, x = conjC u y := by
  rw [t.mem]
  constructor
  · rintro ⟨kx, e⟩
    exact (s.at ku kx).mp e
  · rintro ⟨y, hy, rfl⟩
    have ky := (s.grp y hy).1
    exact ⟨conj_ok ku ky, (s.at ku (conj_ok ku ky)).mpr ⟨y, hy, rfl⟩⟩
end
/-! ### greater shapes -/
def pt (x y : Int) : Num := ⟨x, y, 1⟩
end L3

/-! ## V80 -/
set_option Elab.async false
set_option linter.all false
set_option maxRecDepth 100000
set_option maxHeartbeats 1000000
/-! What copies and arms raise; == with what is of another kind. -/
namespace L3
open PySem NM L2
/-! ### making what raises -/
section
variable {Γ : CL} {μ : MH} {R : D → MH → Prop} {re : RE}
end
/-! ### lists of lambdas -/
end L3

/-! ## V81 -/
set_option Elab.async false
set_option linter.all false
set_option maxRecDepth 100000
set_option maxHeartbeats 1000000
/-! Copies of copies. -/
namespace L3
open PySem NM L2
end L3

/-! ## V82 -/
set_option Elab.async false
set_option linter.all false
set_option maxRecDepth 100000
set_option maxHeartbeats 1000000
/-! Copies of copies: how large they are. -/
namespace L3
open PySem NM L2
def dk (c : Cp) : Nat → Int
  | 0 => 12 * c.s.d
  | k + 1 => dk c k * c.t.d
section
variable {c : Cp} {k n : Nat} {z w : Num} {ss ts : List Stk}
theorem dk_pos (kc : c.ok) : ∀ k, 0 < dk c k
  | 0 => Int.mul_pos (by decide) kc.2.2.1
  | k + 1 => Int.mul_pos (dk_pos kc k) kc.1.1
theorem dk_bt (sc : c.sz 3) : ∀ k, Bt (7 + 3 * k) (dk c k)
  | 0 => (Bt.mul (n := 4) (m := 3) (by show (12 : Int).natAbs < 2 ^ 4; decide) sc.2.2.2).mono (by omega)
  | k + 1 => ((dk_bt sc k).mul sc.1.2.2).mono (by omega)
theorem dk_dvd (c : Cp) : ∀ {k n : Nat}, k ≤ n → dk c k ∣ dk c n
  | k, 0, h => by
    have : k = 0 := by omega
    subst this
    exact Int.dvd_refl _
  | k, n + 1, h => by
    by_cases q : k = n + 1
    · subst q
      exact Int.dvd_refl _
    · exact Int.dvd_trans (dk_dvd c (by omega : k ≤ n)) (Int.dvd_mul_right ..)
theorem sd_dvd (c : Cp) (k : Nat) : c.s.d ∣ dk c k := Int.dvd_trans (Int.dvd_mul_left ..) (dk_dvd c (Nat.zero_le k))
structure Gz (c : Cp) (k : Nat) (z : Num) : Prop where
  can : Can z
  sz : Sz (5 + 8 * k) z
  dv : z.d ∣ dk c k
theorem Gz.step (kc : c.ok) (sc : c.sz 3) (h : Gz c k z) : Gz c (k + 1) (c.at z) := by
  refine ⟨Cp.can_at kc h.can, (Cp.sz_at kc h.can sc h.sz).mono (by omega), ?_⟩
  refine on_dvd (Cp.can_at kc h.can) (dk_pos kc (k + 1)) ?_
  rw [Cp.at_eq]
  refine On.add (can_mul kc.1 (can_flip h.can)) kc.2.2 ?_ ((on_of kc.2.2 (sd_dvd c k)).more _)
  show On (dk c k * c.t.d) _
  rw [Int.mul_comm]
  exact On.mul kc.1 (can_flip h.can) (on_of kc.1 (Int.dvd_refl _)) ((on_of h.can h.dv).flip _)
theorem dirB.mono {e f : Nat} (h : dirB e z w) (l : e ≤ f) : dirB f z w := by
  obtain ⟨A, B, h0, h1, h2, h3⟩ := h
  have := Nat.pow_le_pow_right (n := 2) (by decide) l
  exact ⟨A, B, h0, by omega, by omega, h3⟩
theorem dirB.step {e : Nat} (kc : c.ok) (sc : c.sz 3) (kz : Can z) (kw : Can w) (h : dirB e z w) : dirB (e + 4) (c.at z) (c.at w) := by
  obtain ⟨A, B, h0, h1, h2, h3⟩ := h
  obtain ⟨s, hs, hr⟩ : ∃ s : Int, s * s = 1 ∧ sg c.m = (s : Rat) := by
    cases c.m with
    | false => exact ⟨1, rfl, rfl⟩
    | true => exact ⟨-1, rfl, rfl⟩
  obtain ⟨⟨x1, y1, _⟩, _⟩ := id sc
  have d0 := rat_d kc.1
  have er : re c.t * (c.t.d : Rat) = (c.t.x : Rat) := by unfold re; grind
  have ei : im c.t * (c.t.d : Rat) = (c.t.y : Rat) := by unfold im; grind
  have pw : 2 ^ (e + 4) = 16 * 2 ^ e := by rw [Nat.pow_add]; omega
  have sB : (s * B).natAbs ≤ B.natAbs := by
    have : s = 1 ∨ s = -1 := by
      have : s.natAbs * s.natAbs = 1 := by rw [← Int.natAbs_mul, hs]; rfl
      have h1 : s.natAbs = 1 := Nat.eq_one_of_mul_eq_one_left this
      omega
    rcases this with rfl | rfl <;> omega
  have bnd : ∀ x y P Q : Int, x.natAbs < 8 → y.natAbs < 8 → P.natAbs + 1 < 2 ^ e → Q.natAbs + 1 < 2 ^ e → (x * P).natAbs + (y * Q).natAbs + 1 < 2 ^ (e + 4) := fun x y P Q hx hy hp hq => by
    rw [Int.natAbs_mul, Int.natAbs_mul, pw]
    have a := Nat.mul_le_mul (show x.natAbs ≤ 7 by omega) (Nat.le_refl P.natAbs)
    have b := Nat.mul_le_mul (show y.natAbs ≤ 7 by omega) (Nat.le_refl Q.natAbs)
    omega
  have b1 := bnd c.t.x c.t.y A (s * B) x1 y1 h1 (by omega)
  have b2 := bnd c.t.x c.t.y (s * B) A x1 y1 (by omega) h1
  refine ⟨c.t.x * A - c.t.y * (s * B), c.t.x * (s * B) + c.t.y * A, fun ⟨q1, q2⟩ => ?_, by omega, by omega, ?_⟩
  · have e1 : (c.t.x * c.t.x + c.t.y * c.t.y) * (A * A + B * B) = 0 := by
      have : (c.t.x * A - c.t.y * (s * B)) * (c.t.x * A - c.t.y * (s * B)) + (c.t.x * (s * B) + c.t.y * A) * (c.t.x * (s * B) + c.t.y * A) = (c.t.x * c.t.x + c.t.y * c.t.y) * (A * A + (s * s) * (B * B)) := by grind
      rw [q1, q2, hs, Int.one_mul] at this
      omega
    rcases Int.mul_eq_zero.mp e1 with q | q
    · exact sq_ne kc.2.1 q
    · have a1 := NM.sq_nn A
      have a2 := NM.sq_nn B
      have zA : A * A = 0 := by omega
      have zB : B * B = 0 := by omega
      exact h0 ⟨(Int.mul_eq_zero.mp zA).elim id id, (Int.mul_eq_zero.mp zB).elim id id⟩
  · rw [re_at kc kw, re_at kc kz, im_at kc kw, im_at kc kz, hr]
    simp only [Rat.intCast_sub, Rat.intCast_add, Rat.intCast_mul]
    rw [← er, ← ei]
    have hs2 : (s : Rat) * (s : Rat) = 1 := by exact_mod_cast hs
    generalize (A : Rat) = a at *
    generalize (B : Rat) = b at *
    generalize (s : Rat) = q at *
    generalize re c.t = r at *
    generalize im c.t = i at *
    generalize (c.t.d : Rat) = d at *
    have key : (r * re w - i * (q * im w) + re c.s - (r * re z - i * (q * im z) + re c.s)) * (r * d * (q * b) + i * d * a) - (r * (q * im w) + i * re w + im c.s - (r * (q * im z) + i * re z + im c.s)) * (r * d * a - i * d * (q * b)) = (d * q) * (r * r + i * i) * ((re w - re z) * b - (im w - im z) * a) := by grind
    rw [h3] at key
    grind
/-- a drawing that was copied k times -/
structure Gs (c : Cp) (k : Nat) (ss : List Stk) : Prop where
  l3 : ss.length ≤ 3
  st : ∀ s ∈ ss, 1 ≤ s.length ∧ s.length ≤ 4 ∧ moves s
  g : ∀ s ∈ ss, ∀ z ∈ s, Gz c k z
  d : ∀ s ∈ ss, ∀ y ∈ segs s, dirB (6 + 4 * k) y.1 y.2
theorem Gs.step (kc : c.ok) (sc : c.sz 3) (h : Gs c k ss) : Gs c (k + 1) (movedBy c ss) := by
  refine ⟨by unfold movedBy; rw [List.length_map]; exact h.l3, fun s hs => ?_, fun s hs z hz => ?_, fun s hs y hy => ?_⟩
  · obtain ⟨t, ht, rfl⟩ := List.mem_map.mp hs
    obtain ⟨a, b, d⟩ := h.st t ht
    rw [List.length_map]
    exact ⟨a, b, moves_at kc (fun z hz => (h.g t ht z hz).can) d⟩
  · obtain ⟨t, ht, rfl⟩ := List.mem_map.mp hs
    obtain ⟨w, hw, rfl⟩ := List.mem_map.mp hz
    exact (h.g t ht w hw).step kc sc
  · obtain ⟨t, ht, rfl⟩ := List.mem_map.mp hs
    rw [segs_mapN] at hy
    obtain ⟨x, hx, rfl⟩ := List.mem_map.mp hy
    obtain ⟨m1, m2⟩ := segs_mem2 hx
    exact ((h.d t ht x hx).step kc sc (h.g t ht _ m1).can (h.g t ht _ m2).can).mono (by omega)
theorem Gs.tiny (kc : c.ok) (h : ∀ s ∈ ss, okTn s) (l : ss.length ≤ 3) : Gs c 0 ss := by
  refine ⟨l, fun s hs => ⟨(h s hs).1.1, (h s hs).1.2.1, (h s hs).1.2.2.1⟩, fun s hs z hz => ?_, fun s hs y hy => ?_⟩
  · have t := (h s hs).2 z hz
    exact ⟨t.1.1, t.1.2, Int.dvd_trans (tiny_12 t) (Int.dvd_mul_right ..)⟩
  · obtain ⟨m1, m2⟩ := segs_mem2 hy
    exact dir_tiny ((h s hs).2 _ m1) ((h s hs).2 _ m2) (segs_ne2 (h s hs).1.2.2.1 hy)
theorem Gs.dr (h : Gs c k ss) (hk : k ≤ 20) : okDr 165 ss := ⟨by have := h.l3; omega, fun s hs => ⟨(h.st s hs).1, by have := (h.st s hs).2.1; omega, (h.st s hs).2.2, fun z hz => ⟨(h.g s hs z hz).can, (h.g s hs z hz).sz.mono (by omega)⟩⟩⟩
theorem Gs.can (h : Gs c k ss) : CanS ss := fun s hs z hz => (h.g s hs z hz).can
theorem Gs.rows (kc : c.ok) (sc : c.sz 3) : ∀ (n k : Nat) (ss : List Stk), Gs c k ss → ∀ a ∈ rowsF c n ss, ∃ j, k ≤ j ∧ j ≤ k + n ∧ Gs c j a
  | 0, k, ss, h, a, ha => by
    rw [List.mem_singleton.mp ha]
    exact ⟨k, by omega, by omega, h⟩
  | n + 1, k, ss, h, a, ha => by
    rcases List.mem_cons.mp ha with rfl | ha
    · exact ⟨k, by omega, by omega, h⟩
    · obtain ⟨j, a1, a2, a3⟩ := Gs.rows kc sc n (k + 1) _ (h.step kc sc) a ha
      exact ⟨j, by omega, by omega, a3⟩
theorem parts3 : ∀ {ss : List Stk}, (∀ s ∈ ss, s.length ≤ 4) → (ss.flatMap segs).length ≤ 3 * ss.length
  | [], _ => Nat.le_refl _
  | s :: ss, h => by
    have ih := parts3 fun t ht => h t (List.mem_cons_of_mem _ ht)
    have := h s (List.mem_cons_self ..)
    rw [List.flatMap_cons, List.length_append, List.length_cons, segs_len]
    omega
theorem Gs.pair (kc : c.ok) (sc : c.sz 3) {i j : Nat} (ha : Gs c i ss) (hb : Gs c j ts) (hi : i ≤ 4) (hj : j ≤ 4) : okC (dk c 4) 19 (37 + 19) 22 81 ss ts := by
  have la := ha.l3
  have lb := hb.l3
  have mem : ∀ s ∈ ss ++ ts, ∃ a j, s ∈ a ∧ j ≤ 4 ∧ Gs c j a := fun s hs => (List.mem_append.mp hs).elim (fun m => ⟨ss, i, m, hi, ha⟩) fun m => ⟨ts, j, m, hj, hb⟩
  have ok : okI (dk c 4) (ss ++ ts) := by
    refine ⟨dk_pos kc 4, (dk_bt sc 4).mono (by omega), by rw [List.length_append]; omega, fun s hs => ?_, fun s hs z hz => ?_⟩
    · obtain ⟨a, j, m, _, g⟩ := mem s hs
      obtain ⟨h1, h2, h3⟩ := g.st s m
      exact ⟨h1, by omega, h3⟩
    · obtain ⟨a, j, m, hj, g⟩ := mem s hs
      have q := g.g s m z hz
      exact ⟨q.can, q.sz.mono (by omega), Int.dvd_trans q.dv (dk_dvd c hj)⟩
  refine okC_gen ok (dk_bt sc 4) (fun s hs z hz => ?_) (fun s hs y hy => ?_) (by omega) (by omega) ?_ (by omega) (by decide) (by decide)
  · obtain ⟨a, j, m, hj, g⟩ := mem s hs
    exact (g.g s m z hz).sz.mono (by omega)
  · obtain ⟨a, j, m, hj, g⟩ := mem s hs
    exact (g.d s m y hy).mono (by omega)
  · have a1 := (ink_len ok.left).1
    have b1 := (ink_len ok.right).1
    have a2 := parts3 fun s hs => (ha.st s hs).2.1
    have b2 := parts3 fun s hs => (hb.st s hs).2.1
    exact Nat.mul_le_mul (show _ ≤ 9 by omega) (show _ ≤ 9 by omega)
end
end L3

/-! ## V83 -/
set_option Elab.async false
set_option linter.all false
set_option maxRecDepth 100000
set_option maxHeartbeats 1000000
/-! Boxes of arms, rows of them. -/
namespace L3
open PySem NM L2
/-! ### the law's rows -/
end L3

/-! ## V84 -/
set_option Elab.async false
set_option linter.all false
set_option maxRecDepth 100000
set_option maxHeartbeats 1000000
/-! Boxes of arms: chains of rows, rows that draw. -/
namespace L3
open PySem NM L2
/-! ### rows that can be -/
end L3

/-! ## V85 -/
set_option Elab.async false
set_option linter.all false
set_option maxRecDepth 100000
set_option maxHeartbeats 1000000
/-! Boxes of arms: which rows draw; boxes at random. -/
namespace L3
open PySem NM L2
/-! ### a box at random -/
section
variable {Γ : CL} {μ : MH} {g p : Addr}
end
end L3

/-! ## V86 -/
set_option Elab.async false
set_option linter.all false
set_option maxRecDepth 100000
set_option maxHeartbeats 1000000
/-! A dict by rows; what rows of arms draw: sizes. -/
namespace L3
open PySem NM L2
def kR (r : List Int) : NestedKey := .tup (r.map .num)
theorem nkDs_row : ∀ r : List Int, nkDs (r.map D.int) = some (r.map NestedKey.num)
  | [] => by simp [nkDs]
  | i :: r => by
    rw [List.map_cons, nkDs, nkDs_row r]
    simp [nkD]
theorem depth_row : ∀ r : List Int, NestedKey.depthAll (r.map NestedKey.num) ≤ 4
  | [] => by simp [NestedKey.depthAll]
  | i :: r => by
    have ih := depth_row r
    rw [List.map_cons]
    simp only [NestedKey.depthAll, NestedKey.depth]
    omega
theorem keyD_row (r : List Int) : keyD (tupI r) = some (kR r) := by
  unfold keyD tupI
  dsimp only
  rw [nkDs_row]
  have := depth_row r
  dsimp only
  rw [if_pos (by simp only [NestedKey.depth]; omega)]
  rfl
theorem nkD_row (r : List Int) : nkD (tupI r) = some (kR r) := (keyD_of (keyD_row r)).1
theorem kR_inj {r q : List Int} (h : kR r = kR q) : r = q := by
  unfold kR at h
  injection h with h
  exact (List.map_inj_right (fun a b e => by injection e)).mp h
theorem at_put {kvs : List (D × D)} {d v : D} {k k' : NestedKey} (hd : nkD d = some k) : atD (putC kvs d k v) k' = if k' = k then some v else atD kvs k' := by
  unfold putC
  by_cases c : (atD kvs k).isSome = true
  · rw [if_pos c]
    unfold atD at *
    rw [List.find?_map]
    have e : ((fun x : D × D => decide (nkD x.1 = some k')) ∘ fun x : D × D => if nkD x.1 = some k then (x.1, v) else x) = fun x : D × D => decide (nkD x.1 = some k') := by
      funext x
      show decide (nkD (if nkD x.1 = some k then (x.1, v) else x).1 = some k') = _
      by_cases q : nkD x.1 = some k
      · rw [if_pos q]
      · rw [if_neg q]
    rw [e, Option.map_map]
    by_cases q : k' = k
    · subst q
      rw [if_pos rfl]
      cases f : kvs.find? (fun x => decide (nkD x.1 = some k')) with
      | none => rw [f] at c; cases c
      | some x =>
        have hx := List.find?_some f
        have hx : nkD x.1 = some k' := of_decide_eq_true hx
        show some (if nkD x.1 = some k' then (x.1, v) else x).2 = _
        rw [if_pos hx]
    · rw [if_neg q]
      cases f : kvs.find? (fun x => decide (nkD x.1 = some k')) with
      | none => rfl
      | some x =>
        have hx := List.find?_some f
        have hx : nkD x.1 = some k' := of_decide_eq_true hx
        show some (if nkD x.1 = some k then (x.1, v) else x).2 = some x.2
        rw [if_neg (fun e => q (Option.some.inj (hx.symm.trans e)))]
  · rw [if_neg c]
    have n0 : atD kvs k = none := by
      cases h : atD kvs k with
      | none => rfl
      | some x => rw [h] at c; exact absurd rfl c
    unfold atD at *
    rw [List.find?_append]
    by_cases q : k' = k
    · subst q
      rw [if_pos rfl]
      cases f : kvs.find? (fun x => decide (nkD x.1 = some k')) with
      | some x => rw [f] at n0; cases n0
      | none =>
        rw [Option.none_or, List.find?_cons_of_pos (by exact decide_eq_true hd)]
        rfl
    · rw [if_neg q]
      cases f : kvs.find? (fun x => decide (nkD x.1 = some k')) with
      | some x => rfl
      | none =>
        rw [Option.none_or, List.find?_cons_of_neg (by rw [decide_eq_false (fun e => q (Option.some.inj (e.symm.trans hd)))]; decide)]
        rfl
/-- the dict tells f of each row -/
def DR (f : List Int → D) (kvs : List (D × D)) (L : List (List Int)) : Prop := ∀ r ∈ L, atD kvs (kR r) = some (f r)
theorem DR.put {f : List Int → D} {kvs : List (D × D)} {L : List (List Int)} (h : DR f kvs L) (r : List Int) : DR f (putC kvs (tupI r) (kR r) (f r)) (L ++ [r]) := fun q hq => by
  rw [at_put (nkD_row r)]
  by_cases e : kR q = kR r
  · rw [if_pos e, kR_inj e]
  · rw [if_neg e]
    rcases List.mem_append.mp hq with hq | hq
    · exact h q hq
    · exact absurd (by rw [List.mem_singleton.mp hq]) e
/-! ### what is drawn -/
structure Mv (p n : Nat) (ss : List Stk) : Prop where
  ok : ∃ N, okI N ss ∧ Bt p N
  sz : ∀ s ∈ ss, ∀ z ∈ s, Sz n z
  le : ss.length ≤ 12
theorem Mv.dr {p n : Nat} {ss : List Stk} (h : Mv p n ss) (hn : n ≤ 250) : okDr 250 ss := by
  obtain ⟨N, k, _⟩ := h.ok
  exact ⟨h.le, fun s hs => ⟨(k.st s hs).1, (k.st s hs).2.1, (k.st s hs).2.2, fun z hz => ⟨(k.can s hs z hz).1, (h.sz s hs z hz).mono hn⟩⟩⟩
theorem Mv.of {ss : List Stk} (h : ∀ s ∈ ss, okSm s) (hl : ss.length ≤ 3) : Mv 61 5 ss := by
  have st : ∀ s ∈ ss, okSt 5 s := fun s hs => ⟨(h s hs).1, by have := (h s hs).2.1; omega, (h s hs).2.2.1, fun z hz => (h s hs).2.2.2 z hz⟩
  have sm : (ss.map List.length).sum ≤ 12 := by
    have gen : ∀ ts : List Stk, (∀ s ∈ ts, s.length ≤ 4) → (ts.map List.length).sum ≤ 4 * ts.length := by
      intro ts
      induction ts with
      | nil => intro _; exact Nat.le_refl _
      | cons s ts ih =>
        intro q
        rw [List.map_cons, List.sum_cons, List.length_cons]
        have := q s (List.mem_cons_self ..)
        have := ih fun t ht => q t (List.mem_cons_of_mem _ ht)
        omega
    have := gen ss fun s hs => (h s hs).2.1
    omega
  refine ⟨⟨prodD ss, okI_prod (n := 5) (c := 12) st sm (by decide) (by decide) (by omega), ?_⟩, fun s hs z hz => ((h s hs).2.2.2 z hz).2, by omega⟩
  obtain ⟨_, p2, _, _⟩ := prod_all ss 1 1 (by decide) (by show (1 : Int).natAbs < 2 ^ 1; decide) 5 fun s hs z hz => ⟨((st s hs).can z hz).1, ((st s hs).can z hz).2.2.2⟩
  exact p2.mono (by omega)
theorem Mv.step {p n : Nat} {ss : List Stk} {a : Am} (h : Mv p n ss) (k : a.small) (hp : p + 36 ≤ 6000) (hn : n + 38 ≤ 1500) : Mv (p + 36) (n + 38) (movedBy a.eff ss) := by
  obtain ⟨N, ok, bn⟩ := h.ok
  have ke : a.eff.ok := about_ok k.1.1 k.2.1.1 k.2.2.1
  have se : a.eff.sz 18 := ⟨(about_sz (m := a.m) k.1.1 k.2.1.1 k.1.2 k.2.1.2).1.mono (by decide), (about_sz (m := a.m) k.1.1 k.2.1.1 k.1.2 k.2.1.2).2.mono (by decide)⟩
  refine ⟨⟨_, ok.at ke bn se h.sz (by omega) (by omega), (((bn.mul se.1.2.2).mul se.2.2.2).mono (by omega))⟩, fun s hs z hz => ?_, by unfold movedBy; rw [List.length_map]; exact h.le⟩
  obtain ⟨t, ht, rfl⟩ := List.mem_map.mp hs
  obtain ⟨w, hw, rfl⟩ := List.mem_map.mp hz
  exact (Cp.sz_at ke (ok.can t ht w hw).1 se (h.sz t ht w hw)).mono (by omega)
theorem okI.rev {N : Int} {ss : List Stk} (k : okI N ss) : okI N (revS ss) := by
  have mem : ∀ s ∈ revS ss, s.reverse ∈ ss := fun s hs => by
    unfold revS at hs
    obtain ⟨t, ht, rfl⟩ := List.mem_map.mp (List.mem_reverse.mp hs)
    rw [List.reverse_reverse]
    exact ht
  refine ⟨k.pos, k.bn, by rw [revS_len]; exact k.le, fun s hs => ?_, fun s hs z hz => k.can _ (mem s hs) z (List.mem_reverse.mpr hz)⟩
  obtain ⟨a, b, c⟩ := k.st _ (mem s hs)
  rw [List.length_reverse] at a b
  refine ⟨a, b, moves_iff.mpr fun y hy => ?_⟩
  obtain ⟨u, v⟩ := y
  have e : s = s.reverse.reverse := by rw [List.reverse_reverse]
  rw [e] at hy
  exact fun q => moves_iff.mp c _ (segs_rev.mp hy) q.symm
theorem Mv.rev {p n : Nat} {ss : List Stk} (h : Mv p n ss) : Mv p n (revS ss) := by
  obtain ⟨N, k, b⟩ := h.ok
  refine ⟨⟨N, k.rev, b⟩, fun s hs z hz => ?_, by rw [revS_len]; exact h.le⟩
  unfold revS at hs
  obtain ⟨t, ht, rfl⟩ := List.mem_map.mp (List.mem_reverse.mp hs)
  exact h.sz t ht z (List.mem_reverse.mp hz)
end L3

/-! ## V87 -/
set_option Elab.async false
set_option linter.all false
set_option maxRecDepth 100000
set_option maxHeartbeats 1000000
/-! Boxes of arms: the copies that rows make. -/
namespace L3
open PySem NM L2
/-! ### a dict by copies -/
end L3

/-! ## V88 -/
set_option Elab.async false
set_option linter.all false
set_option maxRecDepth 100000
set_option maxHeartbeats 1000000
/-! What the law says a row makes: by where three spots go. -/
namespace L3
open PySem NM L2
theorem at_zero {c : Cp} (h : c.ok) : c.at zero = c.s := by
  refine NM.ext (Cp.can_at h can_zero) h.2.2 ?_ ?_
  · rw [re_at h can_zero, show re zero = 0 by decide +kernel, show im zero = 0 by decide +kernel]; grind
  · rw [im_at h can_zero, show re zero = 0 by decide +kernel, show im zero = 0 by decide +kernel]; grind
end L3

/-! ## V89 -/
set_option Elab.async false
set_option linter.all false
set_option maxRecDepth 100000
set_option maxHeartbeats 1000000
/-! Rows of numbers: which there are, that arms can be renamed, how many copies they make. -/
namespace L3
open PySem NM L2
theorem effR_eq (as : List Am) (r : List Int) (bs : List Am) (q : List Int) (h : pickA as r = pickA bs q) : effR as r = effR bs q := by
  unfold effR
  rw [h]
theorem mem_moreR {ns r q : List Int} : q ∈ moreR ns r ↔ ∃ n, n ∈ ns ∧ n ∉ r ∧ q = r ++ [n] := by
  unfold moreR
  constructor
  · intro h
    obtain ⟨n, hn, rfl⟩ := List.mem_map.mp h
    obtain ⟨a, b⟩ := List.mem_filter.mp hn
    refine ⟨n, a, fun m => ?_, rfl⟩
    have : (r.any fun i => i == n) = true := List.any_eq_true.mpr ⟨n, m, by simp⟩
    rw [this] at b
    cases b
  · rintro ⟨n, hn, hm, rfl⟩
    refine List.mem_map.mpr ⟨n, List.mem_filter.mpr ⟨hn, ?_⟩, rfl⟩
    have : (r.any fun i => i == n) = false := Bool.eq_false_iff.mpr fun h => by
      obtain ⟨i, hi, e⟩ := List.any_eq_true.mp h
      exact hm (by rw [← (beq_iff_eq.mp e)]; exact hi)
    rw [this]
    rfl
theorem mem_stepR {ns : List Int} {L : List (List Int)} {q : List Int} : q ∈ stepR ns L ↔ ∃ p, p ∈ L ∧ ∃ n, n ∈ ns ∧ n ∉ p ∧ q = p ++ [n] := by
  unfold stepR
  rw [List.mem_flatMap]
  constructor
  · rintro ⟨p, hp, h⟩
    exact ⟨p, hp, mem_moreR.mp h⟩
  · rintro ⟨p, hp, h⟩
    exact ⟨p, hp, mem_moreR.mpr h⟩
theorem mem_allR {ns : List Int} : ∀ (m : Nat) (L : List (List Int)) (q : List Int), q ∈ allR ns m L ↔ ∃ p, p ∈ L ∧ ∃ t, t ≠ [] ∧ t.length ≤ m ∧ t.Nodup ∧ (∀ i ∈ t, i ∈ ns ∧ i ∉ p) ∧ q = p ++ t
  | 0, L, q => by
    constructor
    · intro h; exact nomatch h
    · rintro ⟨p, hp, t, h1, h2, _⟩
      exact absurd (List.length_eq_zero_iff.mp (Nat.le_zero.mp h2)) h1
  | m + 1, L, q => by
    rw [show allR ns (m + 1) L = stepR ns L ++ allR ns m (stepR ns L) from rfl, List.mem_append]
    constructor
    · rintro (h | h)
      · obtain ⟨p, hp, n, hn, hm, rfl⟩ := mem_stepR.mp h
        refine ⟨p, hp, [n], by simp, by simp, by simp, fun i hi => ?_, rfl⟩
        rw [List.mem_singleton.mp hi]
        exact ⟨hn, hm⟩
      · obtain ⟨p', hp', t, h1, h2, h3, h4, rfl⟩ := (mem_allR m _ q).mp h
        obtain ⟨p, hp, n, hn, hm, rfl⟩ := mem_stepR.mp hp'
        refine ⟨p, hp, n :: t, by simp, by simpa using h2, List.nodup_cons.mpr ⟨fun k => (h4 n k).2 (by simp), h3⟩, fun i hi => ?_, by simp⟩
        rcases List.mem_cons.mp hi with rfl | hi
        · exact ⟨hn, hm⟩
        · exact ⟨(h4 i hi).1, fun k => (h4 i hi).2 (List.mem_append_left _ k)⟩
    · rintro ⟨p, hp, t, h1, h2, h3, h4, rfl⟩
      cases t with
      | nil => exact absurd rfl h1
      | cons n t =>
        have hn := h4 n (List.mem_cons_self ..)
        have hs : p ++ [n] ∈ stepR ns L := mem_stepR.mpr ⟨p, hp, n, hn.1, hn.2, rfl⟩
        obtain ⟨n1, n2⟩ := List.nodup_cons.mp h3
        cases t with
        | nil => exact .inl hs
        | cons k t =>
          refine .inr ((mem_allR m _ _).mpr ⟨p ++ [n], hs, k :: t, by simp, by simpa using h2, n2, fun i hi => ?_, by simp⟩)
          obtain ⟨a, b⟩ := h4 i (List.mem_cons_of_mem _ hi)
          refine ⟨a, fun z => ?_⟩
          rcases List.mem_append.mp z with z | z
          · exact b z
          · rw [List.mem_singleton.mp z] at hi
            exact n1 hi
theorem mem_rowsR {ns : List Int} {m : Nat} {q : List Int} : q ∈ rowsR ns m ↔ q.length ≤ m ∧ q.Nodup ∧ ∀ i ∈ q, i ∈ ns := by
  unfold rowsR
  rw [List.mem_append, mem_allR]
  constructor
  · rintro (h | ⟨p, hp, t, h1, h2, h3, h4, rfl⟩)
    · rw [List.mem_singleton.mp h]
      exact ⟨Nat.zero_le _, List.nodup_nil, fun i hi => nomatch hi⟩
    · rw [List.mem_singleton.mp hp]
      exact ⟨h2, h3, fun i hi => (h4 i hi).1⟩
  · rintro ⟨h1, h2, h3⟩
    cases q with
    | nil => exact .inl (by simp)
    | cons n t => exact .inr ⟨[], by simp, n :: t, by simp, h1, h2, fun i hi => ⟨h3 i hi, by simp⟩, rfl⟩
theorem mem_rows {ns q : List Int} : q ∈ rowsR ns ns.length ↔ q.Nodup ∧ ∀ i ∈ q, i ∈ ns := by
  rw [mem_rowsR]
  exact ⟨fun h => h.2, fun h => ⟨List.Nodup.length_le_of_subset h.1 h.2, h⟩⟩
/-! ### different copies -/
theorem map_nodup {f : Int → Int} : ∀ {q : List Int}, q.Nodup → (∀ i ∈ q, ∀ j ∈ q, f i = f j → i = j) → (q.map f).Nodup
  | [], _, _ => List.nodup_nil
  | i :: q, h, k => by
    obtain ⟨a, b⟩ := List.nodup_cons.mp h
    refine List.nodup_cons.mpr ⟨fun z => ?_, map_nodup b fun x hx y hy => k x (List.mem_cons_of_mem _ hx) y (List.mem_cons_of_mem _ hy)⟩
    obtain ⟨j, hj, e⟩ := List.mem_map.mp z
    exact a (by rw [← k j (List.mem_cons_of_mem _ hj) i (List.mem_cons_self ..) e]; exact hj)
/-- the numbers of these arms lead to those of those arms -/
structure Ren (as : List Am) (ns : List Int) (bs : List Am) (ms : List Int) (f : Int → Int) : Prop where
  go : ∀ i ∈ ns, f i ∈ ms
  sm : ∀ i ∈ ns, bs[(f i).toNat]? = as[i.toNat]?
  inj : ∀ i ∈ ns, ∀ j ∈ ns, f i = f j → i = j
theorem Ren.pick {as : List Am} {ns : List Int} {bs : List Am} {ms : List Int} {f : Int → Int} (R : Ren as ns bs ms f) : ∀ q : List Int, (∀ i ∈ q, i ∈ ns) → pickA bs (q.map f) = pickA as q
  | [], _ => rfl
  | i :: q, h => by
    have ih := R.pick q fun j hj => h j (List.mem_cons_of_mem _ hj)
    unfold pickA at *
    rw [List.map_cons, List.filterMap_cons, List.filterMap_cons, R.sm i (h i (List.mem_cons_self ..)), ih]
theorem Ren.row {as : List Am} {ns : List Int} {bs : List Am} {ms : List Int} {f : Int → Int} (R : Ren as ns bs ms f) {q : List Int} (h : q ∈ rowsR ns ns.length) : q.map f ∈ rowsR ms ms.length := by
  obtain ⟨a, b⟩ := mem_rows.mp h
  refine mem_rows.mpr ⟨map_nodup a fun i hi j hj => R.inj i (b i hi) j (b j hj), fun j hj => ?_⟩
  obtain ⟨i, hi, rfl⟩ := List.mem_map.mp hj
  exact R.go i (b i hi)
theorem Ren.eff {as : List Am} {ns : List Int} {bs : List Am} {ms : List Int} {f : Int → Int} (R : Ren as ns bs ms f) {c : Cp} (h : c ∈ (rowsR ns ns.length).map (effR as)) : c ∈ (rowsR ms ms.length).map (effR bs) := by
  obtain ⟨q, hq, rfl⟩ := List.mem_map.mp h
  exact List.mem_map.mpr ⟨q.map f, R.row hq, effR_eq _ _ _ _ (R.pick q (mem_rows.mp hq).2)⟩
end L3

/-! ## V90 -/
set_option Elab.async false
set_option linter.all false
set_option maxRecDepth 100000
set_option maxHeartbeats 1000000
/-! Laws about boxes: rules. -/
namespace L3
open PySem NM L2
/-! ### sets of copies as they are told -/
/-! ### lists of ints, parts of tuples -/
theorem gAdd_int {i j : Int} {μ : MH} {R : D → MH → Prop} : gAdd (.int i) (.int j) μ R = R (.int (i + j)) μ := rfl
/-! ### rows as data -/
section
variable {Γ : CL} {as : List Am} {μ : MH} {R : D → MH → Prop} {c : Cp}
end
end L3

/-! ## V91 -/
set_option Elab.async false
set_option linter.all false
set_option maxRecDepth 100000
set_option maxHeartbeats 1000000
/-! Hidden chains: the answers of rows. -/
namespace L3
open PySem NM L2
/-! ### rows stand once -/
/-! ### answers -/
end L3

/-! ## V92 -/
set_option Elab.async false
set_option linter.all false
set_option maxRecDepth 100000
set_option maxHeartbeats 1000000
/-! Hidden chains: a guess is made, looked at, learns. -/
namespace L3
open PySem NM L2
theorem insD_ref {μ : MH} {p C : Addr} {fs : List (Str × D)} (h : μ p = some (.ins C fs)) : insD μ (.ref p) = some (C, fs) := by
  show (match μ p with | some (MO.ins C fs) => some (C, fs) | _ => none) = _
  rw [h]
section
variable {Γ : CL} {as : List Am} {rows : List (List Int)} {fs : List D} {p l : Addr} {μ ν : MH} {R : D → MH → Prop}
theorem GuessAt.fld (h : GuessAt Γ as rows fs p l μ) : ∃ q o, insD μ (.ref p) = some (Γ.Guess, ([("rows", .ref q), ("facts", .ref l)] : List (Str × D))) ∧ μ q = some (.dct o (rows.map (entG Γ as))) := by
  obtain ⟨q, o, h1, h2⟩ := h.hp
  exact ⟨q, o, insD_ref h1, h2⟩
theorem GuessAt.mono (h : GuessAt Γ as rows fs p l μ) (s : Sub μ ν) : GuessAt Γ as rows fs p l ν := by
  obtain ⟨q, o, h1, h2⟩ := h.hp
  exact ⟨⟨q, o, s _ _ h1, s _ _ h2⟩, s _ _ h.hl⟩
/-! ### how many copies are left -/
/-! ### an observation -/
end
end L3

/-! ## V93 -/
set_option Elab.async false
set_option linter.all false
set_option maxRecDepth 100000
set_option maxHeartbeats 1000000
/-! Hidden chains: all answers, the spot that tells most. -/
namespace L3
open PySem NM L2
section
variable {Γ : CL} {as : List Am} {rows : List (List Int)} {fs : List D} {p l q : Addr} {o : Obj} {μ ν : MH} {R : D → MH → Prop}
/-! ### the spot that tells most -/
end
end L3

/-! ## V94 -/
set_option Elab.async false
set_option linter.all false
set_option maxRecDepth 100000
set_option maxHeartbeats 1000000
/-! The law puts spots in order; rows of at most so many. -/
namespace L3
open PySem NM L2
/-! ### rows of at most so many -/
end L3

/-! ## V98 -/
set_option Elab.async false
set_option linter.all false
set_option maxRecDepth 100000
set_option maxHeartbeats 1000000
/-! What is covered goes with a copy. -/
namespace L3
open PySem NM L2
open Ink (Q2)
section
variable {c : Cp} {ss : List Stk} {I J : Inkd}
end
/-! ### lines in order -/
section
variable {c : Cp} {ss : List Stk} {I J : Inkd}
end
/-! ### the law carries it -/
section
variable {Γ : CL} {R : D → MH → Prop} {μ : MH} {c : Cp} {ss : List Stk} {I J : Inkd}
end
end L3

/-! ## V95 -/
set_option Elab.async false
set_option linter.all false
set_option maxRecDepth 100000
set_option maxHeartbeats 1000000
/-! Laws about hidden chains: rules. -/
namespace L3
open PySem NM L2
/-! ### sets of spots -/
/-! ### one answer each -/
/-! ### what the law remembers of a guess -/
structure GMem (Γ : CL) (as : List Am) (rows : List (List Int)) (fs : List D) (g p l : Addr) (μ : MH) : Prop where
  hg : ∃ xs, μ g = some (.lst xs) ∧ RL xs
  hG : GuessAt Γ as rows fs p l μ
  ht : μ Γ.tab = some (.tab ascQ)
  gl : g ≠ l
section
variable {Γ : CL} {as : List Am} {rows rows' : List (List Int)} {fs fs' : List D} {g p l b : Addr} {μ ν : MH} {R : D → MH → Prop}
theorem GMem.gp (m : GMem Γ as rows fs g p l μ) : g ≠ p := fun e => by
  obtain ⟨xs, h, _⟩ := m.hg
  obtain ⟨q, o, h2, _⟩ := m.hG.hp
  rw [e, h2] at h
  cases h
theorem GMem.gt (m : GMem Γ as rows fs g p l μ) : g ≠ Γ.tab := fun e => by
  obtain ⟨xs, h, _⟩ := m.hg
  rw [e, m.ht] at h
  cases h
theorem GMem.pt (m : GMem Γ as rows fs g p l μ) : Γ.tab ≠ p := fun e => by
  obtain ⟨q, o, h2, _⟩ := m.hG.hp
  have := m.ht
  rw [e, h2] at this
  cases this
theorem GMem.lt (m : GMem Γ as rows fs g p l μ) : Γ.tab ≠ l := fun e => by
  have := m.ht
  rw [e, m.hG.hl] at this
  cases this
theorem GMem.sub (m : GMem Γ as rows fs g p l μ) (s : Sub μ ν) : GMem Γ as rows fs g p l ν := by
  obtain ⟨xs, h, hx⟩ := m.hg
  exact ⟨⟨xs, s _ _ h, hx⟩, m.hG.mono s, s _ _ m.ht, m.gl⟩
theorem GMem.keep (m : GMem Γ as rows fs g p l μ) (h : GuessAt Γ as rows' fs' p l ν) (k : Keep p l μ ν) : GMem Γ as rows' fs' g p l ν := by
  obtain ⟨xs, h1, hx⟩ := m.hg
  exact ⟨⟨xs, k _ _ m.gp m.gl h1, hx⟩, h, k _ _ m.pt m.lt m.ht, m.gl⟩
theorem GMem.new (m : GMem Γ as rows fs g p l μ) (hb : μ b = none) {x : MO} : GMem Γ as rows fs g p l (updM μ b x) := m.sub (Sub.upd hb)
theorem GMem.put (m : GMem Γ as rows fs g p l μ) {ws vs : List D} (hb : μ b = some (.lst ws)) (bg : b ≠ g) (bl : b ≠ l) : GMem Γ as rows fs g p l (updM μ b (.lst vs)) := by
  obtain ⟨q, o, h1, h2⟩ := m.hG.hp
  obtain ⟨xs, h3, hx⟩ := m.hg
  have qb : q ≠ b := fun e => by rw [e, hb] at h2; cases h2
  have pb : p ≠ b := fun e => by rw [e, hb] at h1; cases h1
  have tb : Γ.tab ≠ b := fun e => by have := m.ht; rw [e, hb] at this; cases this
  exact ⟨⟨xs, by rw [updM_ne bg.symm]; exact h3, hx⟩, ⟨⟨q, o, by rw [updM_ne pb]; exact h1, by rw [updM_ne qb]; exact h2⟩, by rw [updM_ne bl.symm]; exact m.hG.hl⟩, by rw [updM_ne tb]; exact m.ht, m.gl⟩
theorem GMem.del (m : GMem Γ as rows fs g p l μ) {ws : List D} (hb : μ b = some (.lst ws)) (bg : b ≠ g) (bl : b ≠ l) : GMem Γ as rows fs g p l (delM μ b) := by
  obtain ⟨q, o, h1, h2⟩ := m.hG.hp
  obtain ⟨xs, h3, hx⟩ := m.hg
  have qb : q ≠ b := fun e => by rw [e, hb] at h2; cases h2
  have pb : p ≠ b := fun e => by rw [e, hb] at h1; cases h1
  have tb : Γ.tab ≠ b := fun e => by have := m.ht; rw [e, hb] at this; cases this
  exact ⟨⟨xs, by rw [delM_ne bg.symm]; exact h3, hx⟩, ⟨⟨q, o, by rw [delM_ne pb]; exact h1, by rw [delM_ne qb]; exact h2⟩, by rw [delM_ne bl.symm]; exact m.hG.hl⟩, by rw [delM_ne tb]; exact m.ht, m.gl⟩
theorem GMem.ins (m : GMem Γ as rows fs g p l μ) : ∃ q, insD μ (.ref p) = some (Γ.Guess, ([("rows", .ref q), ("facts", .ref l)] : List (Str × D))) := by
  obtain ⟨q, o, e, _⟩ := m.hG.fld
  exact ⟨q, e⟩
end
end L3

/-! ## V96 -/
set_option Elab.async false
set_option linter.all false
set_option maxRecDepth 100000
set_option maxHeartbeats 1000000
/-! Hidden chains: several observations; how many answers there are. -/
namespace L3
open PySem NM L2
section
variable {Γ : CL} {as : List Am} {rows rows' : List (List Int)} {fs fs' : List D} {p l p' l' : Addr} {μ ν ξ : MH} {R : D → MH → Prop}
theorem Keep.trans (h : Keep p l μ ν) (k : Keep p l ν ξ) : Keep p l μ ξ := fun x m a b e => k x m a b (h x m a b e)
theorem Keep.refl : Keep p l μ μ := fun x m _ _ e => e
/-- another guess stays -/
theorem GuessAt.other (g : GuessAt Γ as rows fs p l μ) (g' : GuessAt Γ as rows' fs' p' l' μ) (np : p' ≠ p) (nl : l' ≠ l) (k : Keep p l μ ν) : GuessAt Γ as rows' fs' p' l' ν := by
  obtain ⟨q, o, h1, h2⟩ := g.hp
  obtain ⟨q', o', h3, h4⟩ := g'.hp
  have h5 := g.hl
  have h6 := g'.hl
  have a1 : p' ≠ l := fun e => by rw [e, h5] at h3; cases h3
  have a2 : q' ≠ p := fun e => by rw [e, h1] at h4; cases h4
  have a3 : q' ≠ l := fun e => by rw [e, h5] at h4; cases h4
  have a4 : l' ≠ p := fun e => by rw [e, h1] at h6; cases h6
  exact ⟨⟨q', o', k _ _ np a1 h3, k _ _ a2 a3 h4⟩, k _ _ a4 nl h6⟩
end
/-! ### how many answers there are -/
/-! ### rules -/
end L3

/-! ## L9t -/
set_option Elab.async false
set_option linter.all false
set_option maxRecDepth 100000
set_option maxHeartbeats 4000000
/-! sorted of tuples, the first of them empty. -/
namespace L3
open PySem PySem.Spec PyProof.Rows L2 PySem.Calls PySem.W PySem.SeqAt
section
variable {prog : Program} {w : World} {A : Around} {E : Value → Shared → Prop} {s : Shared}
variable {M : Model}
section
variable {β : Type} {R : Value → β → Prop} {enc : β → PyData} {vs : List Value} {bs : List β}
end
end
section
variable {X : Cx}
end
end L3

/-! ## V97 -/
set_option Elab.async false
set_option linter.all false
set_option maxRecDepth 100000
set_option maxHeartbeats 400000
namespace L3
open PySem NM L2
/-! Boxes in another order. -/
/-! ### rows are put in order -/
/-- the empty row comes first, if at all -/
def Hd0 (L : List (List Int)) : Prop := (∀ r ∈ L, r ≠ []) ∨ ∃ M, L = [] :: M
theorem Hd0.map {L : List (List Int)} (h : Hd0 L) (f : Int → Int) : Hd0 (L.map (List.map f)) := by
  rcases h with h | ⟨M, rfl⟩
  · refine .inl fun r hr => ?_
    obtain ⟨q, hq, rfl⟩ := List.mem_map.mp hr
    intro e
    exact h q hq (List.map_eq_nil_iff.mp e)
  · exact .inr ⟨_, rfl⟩
/-! ### the arms in another order -/
instance : Inhabited Am := ⟨⟨zero, one, 0, 0, false⟩⟩
section
variable {as : List Am} {us : List Int}
end
/-! ### the first row of a list in order of length -/
end L3

/-! ## V99 -/
set_option Elab.async false
set_option linter.all false
set_option maxRecDepth 100000
set_option maxHeartbeats 400000
namespace L3
open PySem NM L2
open Ink (Q2)
/-! ### what is told of copies is put in order -/
/-! ### there are at most twice as many ways as corners -/
def cn : List Num → Rat
  | [] => 0
  | _ :: l => 1 + cn l
section
variable {c : Cp} {ss ts : List Stk}
end
end L3

/-! ## V100 -/
set_option Elab.async false
set_option linter.all false
set_option maxRecDepth 100000
set_option maxHeartbeats 1000000
/-! Strokes of at most so many spots; ways between greater drawings. -/
namespace L3
open PySem NM L2
open Ink (Q2)
section
variable {N M : Int} {p n c q m e : Nat} {ss ts : List Stk} {h k : Num}
end
end L3

/-! ## V101 -/
set_option Elab.async false
set_option linter.all false
set_option maxRecDepth 100000
set_option maxHeartbeats 1000000
/-! What check_stroke raises; areas. -/
namespace L3
open PySem NM L2
open Ink (Q2)
theorem isNum_can {z : Num} (h : Can z) : isNumD (numD z) = true := by
  show (decide (0 < z.d) && decide (low z.x z.y z.d = ⟨z.x, z.y, z.d⟩)) = true
  obtain ⟨h1, h2⟩ := can_iff.mpr h
  rw [decide_eq_true h1, decide_eq_true h2]
  rfl
theorem numOk_num {z : Num} (h : Sz big z) : numOk (numD z) := by
  refine ⟨rfl, fun ds e => ?_⟩
  injection e with e
  subst e
  refine ⟨rfl, fun x y w q => ?_⟩
  injection q with q1 q
  injection q with q2 q
  injection q with q3 q
  injection q1 with q1
  injection q2 with q2
  injection q3 with q3
  subst q1 q2 q3
  exact h
/-- the walk: good spots, then perhaps one that is none -/
theorem check_loopX {Γ : CL} {E : Ed} {xx : EV → RE} {s0 s1 s3 s4 s5 s6 : Option D} {μ : MH} : ∀ (r : Stk) (l : List D) (x : Option D), (∀ z ∈ r, Can z ∧ Sz big z) → (l = [] → ∀ x, E.nx [s0, s1, x, s3, s4, s5, s6] μ) →
    (∀ e t, l = e :: t → numOk e ∧ isNumD e = false ∧ ∀ x, xx [s0, s1, x, s3, s4, s5, s6] (Γ.gx "InvalidSpot") [] μ) →
    forD (rGN 2) (rDropS (spx_check_spot Γ) (rCons (rVar 2) rNil) xx) tru E (r.map numD ++ l) [s0, s1, x, s3, s4, s5, s6] μ
  | [], [], x, _, h, _ => ⟨trivial, h rfl x⟩
  | [], e :: t, x, _, _, hx => by
    obtain ⟨h1, h2, h3⟩ := hx e t rfl
    refine ⟨trivial, ?_⟩
    simp only [rGN, st, rDropS, rCons, rVar, rNil, gt]
    exact ⟨e, rfl, h1, (fun q => by rw [h2] at q; cases q), fun _ => h3 _⟩
  | z :: r, l, x, hz, h, hx => by
    refine ⟨trivial, ?_⟩
    simp only [rGN, st, rDropS, rCons, rVar, rNil, gt]
    obtain ⟨h1, h2⟩ := hz z (List.mem_cons_self ..)
    exact ⟨numD z, rfl, numOk_num h2, (fun _ => check_loopX r l _ (fun w hw => hz w (List.mem_cons_of_mem _ hw)) h hx), fun q => by rw [isNum_can h1] at q; cases q⟩
instance movesDec : ∀ s : Stk, Decidable (moves s)
  | [] => .isTrue trivial
  | [_] => .isTrue trivial
  | a :: b :: r => match movesDec (b :: r) with
    | .isTrue h => if q : a = b then .isFalse fun k => k.1 q else .isTrue ⟨q, h⟩
    | .isFalse h => .isFalse fun k => h k.2
/-- whether two spots in a row are alike -/
def alikes : Stk → List Bool
  | a :: b :: r => decide (a = b) :: alikes (b :: r)
  | _ => []
theorem alikes_any : ∀ s : Stk, (alikes s).any _root_.id = !decide (moves s)
  | [] => rfl
  | [_] => rfl
  | a :: b :: r => by
    show (decide (a = b) || (alikes (b :: r)).any _root_.id) = _
    rw [alikes_any (b :: r)]
    by_cases q : a = b
    · rw [decide_eq_true q, decide_eq_false (fun k : moves (a :: b :: r) => k.1 q)]
      rfl
    · by_cases h : moves (b :: r)
      · rw [decide_eq_false q, decide_eq_true h, decide_eq_true (show moves (a :: b :: r) from ⟨q, h⟩)]
        rfl
      · rw [decide_eq_false q, decide_eq_false h, decide_eq_false (fun k : moves (a :: b :: r) => h k.2)]
        rfl
theorem alikes_lc {s0 s1 s2 s3 s4 : Option D} {μ : MH} {R : List D → MH → Prop} : ∀ (s : Stk) (acc : List D), R (acc ++ (alikes s).map .bl) μ →
    lcD (rGTup 2 (rGCons (rGN 5) (rGCons (rGN 6) rGNil))) rTrue (rOp gEq (rVar 5) (rVar 6)) tru [s0, s1, s2, s3, s4, none, none] (zipD (s.map numD) ((s.map numD).drop 1)) acc μ R
  | [], acc, h => ⟨trivial, by simpa [alikes] using h⟩
  | [a], acc, h => ⟨trivial, by simpa [alikes] using h⟩
  | a :: b :: r, acc, h => by
    refine ⟨trivial, ?_⟩
    have e : (fun ρ1 μ1 => rTrue ρ1 μ1 fun c μ2 => if c = true then rOp gEq (rVar 5) (rVar 6) ρ1 μ2 fun y μ3 => lcD (rGTup 2 (rGCons (rGN 5) (rGCons (rGN 6) rGNil))) rTrue (rOp gEq (rVar 5) (rVar 6)) tru [s0, s1, s2, s3, s4, none, none] (zipD ((b :: r).map numD) (((b :: r).map numD).drop 1)) (acc ++ [y]) μ3 R
      else lcD (rGTup 2 (rGCons (rGN 5) (rGCons (rGN 6) rGNil))) rTrue (rOp gEq (rVar 5) (rVar 6)) tru [s0, s1, s2, s3, s4, none, none] (zipD ((b :: r).map numD) (((b :: r).map numD).drop 1)) acc μ2 R) [s0, s1, s2, s3, s4, some (numD a), some (numD b)] μ := by
      simp only [rTrue, if_true, rOp, rVar, gt, gEq_num]
      refine alikes_lc (b :: r) _ ?_
      rw [List.append_assoc]
      exact h
    exact ⟨rfl, rfl, e⟩
theorem bools_blA : ∀ bs : List Bool, bools (bs.map D.bl) = some bs
  | [] => rfl
  | b :: r => by
    show (bools (r.map D.bl)).map (b :: ·) = _
    rw [bools_blA r]
    rfl
theorem vcx_check_stroke (Γ : CL) : ∀ ds μ R re, spx_check_stroke Γ ds μ R re → rdx_check_stroke Γ (finX R re) (startD 7 ds) μ := by
  intro ds μ R re h
  have good : ∀ (s : Stk) (d : D), s.length ≤ 100000 → (∀ z ∈ s, Can z ∧ Sz big z) → (if (1 ≤ s.length ∧ s.length ≤ 12 ∧ moves s) then R .non μ else re (Γ.gx "InvalidStroke") [("index", d)] μ) →
      rdx_check_stroke Γ (finX R re) (startD 7 [strD s, d]) μ := fun s d hl hc h => by
    unfold rdx_check_stroke
    rw [show startD 7 [strD s, d] = [some (strD s), some d, none, none, none, none, none] from rfl]
    refine seq_g fun N hN => ?_
    simp only [rTryHF, rFor, rITup, rVar, gt, strD]
    rw [show s.map numD = s.map numD ++ [] from (List.append_nil _).symm]
    refine check_loopX s [] none hc (fun _ x => ?_) (fun e t q => nomatch q)
    rw [List.append_nil]
    refine hN _ _ ?_
    clear hN N
    refine seq_g fun N hN => ?_
    simp only [rAsg, rCl, rCons, rNil, rLc, rIZip, rSl, rVar, rC, rPart, rNoPart, gt, gSl, res, rowD, cut_from1]
    refine ⟨by rw [zipD_len, List.length_drop, List.length_map]; show _ ≤ 2 ^ 24; omega, ?_⟩
    simp only [rms, rm]
    refine alikes_lc s [] ?_
    simp only [List.nil_append, gAny, res, bools_blA, alikes_any, rGN, st]
    refine hN _ _ ?_
    clear hN N
    simp only [rIf, rOr, rNot, rB, rChain, rC, rCl, rCons, rVar, rNil, gt, gLen, res, seqD, gLe, gI0, List.length_map, c_MAX_SPOTS]
    by_cases k1 : (1 : Int) ≤ (s.length : Int)
    · rw [decide_eq_true k1, if_pos rfl]
      by_cases k2 : (s.length : Int) ≤ 12
      · rw [decide_eq_true k2]
        by_cases k3 : moves s
        · rw [decide_eq_true k3]
          simp only [Bool.not_true, Bool.false_eq_true, if_false, rNext]
          rw [if_pos ⟨by omega, by omega, k3⟩] at h
          exact h
        · rw [decide_eq_false k3]
          simp only [Bool.not_true, Bool.not_false, Bool.false_eq_true, if_false, if_true, rRaiseA, rCons, rVar, rNil, gt]
          rw [if_neg fun q => k3 q.2.2] at h
          exact ⟨rfl, h⟩
      · rw [decide_eq_false k2]
        simp only [Bool.not_false, if_true, rRaiseA, rCons, rVar, rNil, gt]
        rw [if_neg fun q => k2 (by omega)] at h
        exact ⟨rfl, h⟩
    · rw [decide_eq_false k1]
      simp only [Bool.false_eq_true, if_false, Bool.not_false, if_true, rRaiseA, rCons, rVar, rNil, gt]
      rw [if_neg fun q => k1 (by omega)] at h
      exact ⟨rfl, h⟩
  rcases h with ⟨s, d, rfl, k, h⟩ | ⟨s, d, rfl, hl, hc, hn, h⟩ | ⟨s, e, l, d, rfl, hc, ok, hb, h⟩
  · exact good s d (by have := k.le; omega) k.can (by rw [if_pos ⟨k.ne, k.le, k.mv⟩]; exact h)
  · exact good s d hl hc (by rw [if_neg hn]; exact h)
  · unfold rdx_check_stroke
    rw [show startD 7 [D.tup (s.map numD ++ e :: l), d] = [some (.tup (s.map numD ++ e :: l)), some d, none, none, none, none, none] from rfl]
    refine seq_g fun N hN => ?_
    simp only [rTryHF, rFor, rITup, rVar, gt]
    refine check_loopX s (e :: l) none hc (fun q => nomatch q) (fun e' t q => ?_)
    injection q with q1 q2
    subst q1 q2
    refine ⟨ok, hb, fun x => ⟨rfl, fun a => ?_⟩⟩
    simp only [rCons, rVar, rNil, gt, st]
    exact ⟨rfl, h⟩
end L3

/-! ## V102 -/
set_option Elab.async false
set_option linter.all false
set_option maxRecDepth 100000
set_option maxHeartbeats 1000000
/-! Strokes of at most six spots. -/
namespace L3
open PySem NM L2
open Ink (Q2)
theorem stroke_loopH {s1 : Option D} {Γ : CL} {E : Ed} {g : Addr} : ∀ (ds : List D) (s : Stk) (a : Num) (x3 x4 : Option D) (μ : MH) (xs : List D), moves (s ++ [a]) → (∀ z ∈ s ++ [a], Tiny z) → s.length + 1 + ds.length ≤ 6 → μ g = some (.lst xs) → RL xs →
    (∀ s' ys x3 x4, okTH s' → RL ys → E.nx [some (.ref g), s1, some (strD s'), x3, x4] (updM μ g (.lst ys))) →
    forD (rGN 3) (rSeq (rAsg (rIfE (rB (rOp gGt (rCl (sp_law_below Γ) (rCons (rVar 0) (rCons (rC (.int 6)) rNil))) (rC (.int 0)))) (rCl (sp_law_step Γ) (rCons (rVar 0) (rCons (rC (.int 3)) rNil))) (rCl (sp_law_spotT Γ) (rCons (rVar 0) rNil))) (rGN 4))
 (rIf (rB (rOp gNe (rVar 4) (rOp gIx (rVar 2) (rUn (gU fun i => .int (-i)) (rC (.int 1))))))
 (rAsg (rOp gAdd (rVar 2) (rTup (rCons (rVar 4) rNil))) (rGN 2))
 rNext)) tru E ds [some (.ref g), s1, some (strD (s ++ [a])), x3, x4] μ
  | [], s, a, x3, x4, μ, xs, hm, hs, hl, hg, hx, h => ⟨trivial, by
    have := h (s ++ [a]) xs x3 x4 ⟨by simp, by rw [List.length_append]; show s.length + 1 ≤ 6; exact hl, hm, hs⟩ hx
    rw [updM_idL hg] at this
    exact this⟩
  | d :: ds, s, a, x3, x4, μ, xs, hm, hs, hl, hg, hx, h => by
    refine ⟨trivial, ?_⟩
    rw [List.length_cons] at hl
    simp only [rGN, st]
    refine seq_g fun N hN => ?_
    have fin' : ∀ z ys, Tiny z → RL ys → N [some (.ref g), s1, some (strD (s ++ [a])), some d, some (numD z)] (updM μ g (.lst ys)) := by
      intro z ys kz hy
      refine hN _ _ ?_
      clear hN N
      simp only [rIf, rB, rOp, rVar, rUn, rC, gt, gU, strD, gIx_t, atI_lastD, gNe_num]
      by_cases q : z = a
      · rw [decide_eq_true q]
        simp only [Bool.not_true, Bool.false_eq_true, if_false, rNext]
        refine stroke_loopH ds s a _ _ _ ys hm hs (by omega) updM_same hy fun s' ys' x3 x4 k1 k2 => ?_
        rw [updM_updM]
        exact h s' ys' x3 x4 k1 k2
      · rw [decide_eq_false q]
        simp only [Bool.not_false, if_true, rAsg, rOp, rVar, rTup, rCons, rNil, gt]
        refine ⟨by show 1 ≤ 2 ^ 24; decide, ?_⟩
        refine gAdd_tt (by rw [List.length_map, List.length_append]; show s.length + 1 + 1 ≤ 2 ^ 24; omega) ?_
        simp only [rGN, st]
        have e : (s ++ [a]).map numD ++ [numD z] = ((s ++ [a]) ++ [z]).map numD := by simp
        rw [e]
        refine stroke_loopH ds (s ++ [a]) z _ _ _ ys (moves_snoc hm (fun e => q e.symm)) (fun w hw => ?_) (by rw [List.length_append]; show s.length + 1 + 1 + ds.length ≤ 6; omega) updM_same hy fun s' ys' x3 x4 k1 k2 => ?_
        · rcases List.mem_append.mp hw with hw | hw
          · exact hs w hw
          · rcases List.mem_cons.mp hw with rfl | hw
            · exact kz
            · exact nomatch hw
        · rw [updM_updM]
          exact h s' ys' x3 x4 k1 k2
    simp only [rAsg, rIfE, rB, rOp, rCl, rCons, rVar, rC, rNil, gt, rGN, st, gGt, gI0]
    refine ⟨g, 6, xs, rfl, by decide, by decide, hg, hx, fun r ys r0 r1 hy => ?_⟩
    by_cases q : 0 < r
    · refine ite_yes (decide_eq_true q) ?_
      refine ⟨g, 3, ys, rfl, by decide, by decide, updM_same, hy, fun x y ys2 a1 a2 b1 b2 hy2 => ?_⟩
      rw [updM_updM]
      exact fin' _ _ (tiny_i1 (by omega) (by omega) (by omega) (by omega)) hy2
    · refine ite_no (by rw [decide_eq_false q]; simp) ?_
      refine ⟨g, ys, rfl, updM_same, hy, fun z ys2 kz hy2 => ?_⟩
      rw [updM_updM]
      exact fin' _ _ kz hy2
theorem vc_law_strokeH (Γ : CL) : ∀ ds μ R, sp_law_strokeH Γ ds μ R → rd_law_strokeH Γ (fin R) (startD 5 ds) μ := by
  rintro ds μ R ⟨g, n, xs, rfl, n1, n6, hm, hx, h⟩
  unfold rd_law_strokeH
  rw [show startD 5 [.ref g, .int n] = [some (.ref g), some (.int n), none, none, none] from rfl]
  refine seq_g fun N hN => ?_
  simp only [rAsg, rTup, rCl, rCons, rVar, rC, rNil, gt]
  refine ⟨g, 3, xs, rfl, by decide, by decide, hm, hx, fun x y ys a1 a2 b1 b2 hy => ?_⟩
  refine ⟨by show 1 ≤ 2 ^ 24; decide, ?_⟩
  simp only [rGN, st]
  refine hN _ _ ?_
  clear hN N
  refine seq_g fun N hN => ?_
  simp only [rFor, rIRng1, rCl, rCons, rVar, rNil, gt]
  refine ⟨g, n, ys, rfl, by omega, by omega, updM_same, hy, fun r zs r0 r1 hz => ?_⟩
  refine ⟨by unfold inR; omega, ?_⟩
  rw [updM_updM]
  refine stroke_loopH (rangeD 0 r.toNat) [] ⟨x, y, 1⟩ none none _ zs trivial (fun w hw => ?_) (by rw [rangeD_len]; show 0 + 1 + r.toNat ≤ 6; omega) updM_same hz fun s' ws x3 x4 k hw => ?_
  · rcases List.mem_cons.mp hw with rfl | hw
    · exact tiny_i1 (by omega) (by omega) (by omega) (by omega)
    · exact nomatch hw
  · refine hN _ _ ?_
    simp only [rRet, rVar, gt]
    rw [updM_updM]
    exact h s' ws k hw
end L3

/-! ## V103 -/
set_option Elab.async false
set_option linter.all false
set_option maxRecDepth 100000
set_option maxHeartbeats 1000000
/-! Areas. -/
namespace L3
open PySem NM L2
open Ink (Q2 Pl)
/-- the sum that area makes -/
def sweepI : List Pl → Int
  | a :: b :: r => (a.1 * b.2 - b.1 * a.2) + sweepI (b :: r)
  | _ => 0
theorem sweep_loop {E : Ed} {s0 s1 s2 : Option D} {μ : MH} : ∀ (ps : List Pl) (t : Int) (x4 x5 : Option D), (∀ p ∈ ps, BtP 7500 p) → (∀ x4 x5, E.nx [s0, s1, s2, some (.int (t + sweepI ps)), x4, x5] μ) →
    forD (rGTup 2 (rGCons (rGN 4) (rGCons (rGN 5) rGNil)))
 (rAug 3 (gI0 fun i j => .int (i + j)) (rOp gSub (rOp gMul (rOp gIx (rVar 4) (rC (.int 0))) (rOp gIx (rVar 5) (rC (.int 1)))) (rOp gMul (rOp gIx (rVar 5) (rC (.int 0))) (rOp gIx (rVar 4) (rC (.int 1)))))) tru E (zipD (ps.map plD) ((ps.map plD).drop 1)) [s0, s1, s2, some (.int t), x4, x5] μ
  | [], t, x4, x5, _, h => ⟨trivial, by have := h x4 x5; rwa [show t + sweepI [] = t from Int.add_zero t] at this⟩
  | [a], t, x4, x5, _, h => ⟨trivial, by have := h x4 x5; rwa [show t + sweepI [a] = t from Int.add_zero t] at this⟩
  | a :: b :: r, t, x4, x5, hb, h => by
    obtain ⟨a1, a2⟩ := hb a (List.mem_cons_self ..)
    obtain ⟨b1, b2⟩ := hb b (List.mem_cons_of_mem _ (List.mem_cons_self ..))
    refine ⟨trivial, rfl, ?_⟩
    simp only [rGCons, rGNil, rGN, st, true_and]
    simp only [rAug, rOp, rVar, rC, gt, gIx, res, seqD, plD, atI_0, atI_1, gMul, gSub, gI0, st, List.getElem?_cons_zero, List.getElem?_cons_succ]
    refine ⟨⟨a1.mono (by decide), b2.mono (by decide)⟩, ?_⟩
    refine ⟨⟨b1.mono (by decide), a2.mono (by decide)⟩, ?_⟩
    refine sweep_loop (b :: r) _ _ _ (fun p hp => hb p (List.mem_cons_of_mem _ hp)) fun x4 x5 => ?_
    have := h x4 x5
    rwa [show t + sweepI (a :: b :: r) = t + (a.1 * b.2 - b.1 * a.2) + sweepI (b :: r) from by show t + (_ + _) = _; omega] at this
theorem sweep_q {S : Int} (hS : S ≠ 0) : ∀ ps : List Pl, (sweepI ps : Rat) = (S : Rat) * (S : Rat) * sweep (ps.map (Ink.qP S))
  | [] => by show ((0 : Int) : Rat) = _ * 0; rw [Rat.mul_zero]; rfl
  | [a] => by show ((0 : Int) : Rat) = _ * 0; rw [Rat.mul_zero]; rfl
  | a :: b :: r => by
    have ih := sweep_q hS (b :: r)
    have n := cast_ne hS
    show (((a.1 * b.2 - b.1 * a.2) + sweepI (b :: r) : Int) : Rat) = _ * (((Ink.qP S a).1 * (Ink.qP S b).2 - (Ink.qP S b).1 * (Ink.qP S a).2) + sweep ((b :: r).map (Ink.qP S)))
    rw [Rat.intCast_add, ih, Rat.intCast_sub, Rat.intCast_mul, Rat.intCast_mul]
    unfold Ink.qP
    simp only
    grind
theorem gz_gz0 (a d : Int) : gz (gz a 0) d = gz a d := by
  unfold gz
  rw [Int.gcd_zero_right]
  rfl
theorem rat_low {n d : Int} (h : 0 < d) : ratD n d = frD (low n 0 d) := by
  unfold ratD frD low
  simp only [gz_gz0, if_pos h, Int.one_mul]
theorem vc_area (Γ : CL) : ∀ ds μ R, sp_area Γ ds μ R → rd_area Γ (fin R) (startD 6 ds) μ := by
  rintro ds μ R ⟨s, N0, rfl, k, bN, hc, h⟩
  unfold rd_area
  rw [show startD 6 [strD s] = [some (strD s), none, none, none, none, none] from rfl]
  obtain ⟨l1, l2, mv⟩ := k.st s (List.mem_cons_self ..)
  have kc := k.can s (List.mem_cons_self ..)
  refine seq_g fun N hN => ?_
  simp only [rDrop, rCl, rCons, rVar, rC, rNil, gt]
  refine check_i ⟨l1, l2, mv, fun z hz => ⟨(kc z hz).1, (kc z hz).2.1.mono (by decide)⟩⟩ ?_
  refine hN _ _ ?_
  clear hN N
  obtain ⟨s', b, rfl⟩ : ∃ s' b, s = s' ++ [b] := ⟨s.dropLast, s.getLast (by intro e; rw [e] at l1; cases l1), (List.dropLast_concat_getLast _).symm⟩
  obtain ⟨a, r, hs⟩ : ∃ a r, s' ++ [b] = a :: r := by
    cases s' with
    | nil => exact ⟨b, [], rfl⟩
    | cons a r => exact ⟨a, r ++ [b], rfl⟩
  have eab : a = b := by
    rw [List.getLast?_concat, hs] at hc
    exact Option.some.inj hc
  refine seq_g fun N hN => ?_
  simp only [rIf, rB, rOp, rVar, rC, rUn, gt, gU, strD, gIx_t, atI_lastD]
  rw [show atI ((s' ++ [b]).map numD) 0 = some (numD a) from by rw [hs, atI_0]; rfl]
  simp only [gNe_num, eab, decide_true, Bool.not_true, Bool.false_eq_true, if_false, rNext]
  refine hN _ _ ?_
  clear hN N
  refine seq_g fun N hN => ?_
  simp only [rAsg, rCl, rLst, rCons, rVar, rNil, gt]
  refine ⟨by show 1 ≤ 2 ^ 24; decide, ?_⟩
  refine ⟨[s' ++ [b]], N0, .inr rfl, k, fun S bS dS kS => ?_⟩
  refine ⟨rfl, ?_⟩
  simp only [rGCons, rGNil, rGN, st, true_and]
  refine hN _ _ ?_
  clear hN N
  refine seq_g fun N hN => ?_
  simp only [rAsg, rC, rGN, st]
  refine hN _ _ ?_
  clear hN N
  refine seq_g fun N hN => ?_
  simp only [rFor, rIZip, rCons, rNil, rOp, rSl, rVar, rC, rPart, rNoPart, gt, gIx, gSl, res, seqD, rowD, plsI, plsD, List.map_cons, List.map_nil, atI_0, List.getElem?_cons_zero, cut_from1]
  refine sweep_loop ((s' ++ [b]).map (plI S)) 0 none none (fun p hp => ?_) fun x4 x5 => ?_
  · obtain ⟨z, hz, rfl⟩ := List.mem_map.mp hp
    obtain ⟨cz, sz, _⟩ := kc z hz
    obtain ⟨kk, hk⟩ := (kS.can _ (List.mem_cons_self ..) z hz).2
    have ek : S.fdiv z.d = kk := by rw [hk]; exact fdiv_mul' (ne_d cz)
    have bk : Bt 6000 (S.fdiv z.d) := by
      rw [ek]
      refine bS.le ?_
      rw [hk, Int.natAbs_mul]
      have := cz.1
      exact Nat.le_mul_of_pos_left _ (by omega)
    exact ⟨sz.1.mul bk, sz.2.1.mul bk⟩
  refine hN _ _ ?_
  clear hN N
  have Sp := kS.pos
  have bS3 : Bt 3000 S := by
    obtain ⟨q, hq⟩ := dS
    have pN := k.pos
    refine bN.le ?_
    rw [hq, Int.natAbs_mul]
    refine Nat.le_mul_of_pos_right _ ?_
    have : q ≠ 0 := fun e => by rw [hq, e, Int.mul_zero] at pN; omega
    omega
  have ne : (2 * S * S : Int) ≠ 0 := Int.ne_of_gt (Int.mul_pos (by omega) Sp)
  simp only [rRet, rCl, rCons, rNil, rOp, rVar, rC, gt, gMul]
  refine ⟨⟨Bt.mono (n := 2) (by unfold Bt; decide) (by decide), bS3.mono (by decide)⟩, ?_⟩
  have b2 : Bt 3002 (2 * S) := Bt.mul (n := 2) (by unfold Bt; decide) bS3
  refine ⟨⟨b2.mono (by decide), bS3.mono (by decide)⟩, ?_⟩
  refine ⟨ne, (b2.mul bS3).mono (by decide), ?_⟩
  rw [rat_low (Int.mul_pos (by omega) Sp)]
  refine h _ (low_can ne) ?_ ?_
  · have em : ((s' ++ [b]).map (plI S)).map (Ink.qP S) = (s' ++ [b]).map numQ := by rw [List.map_map]; exact List.map_congr_left fun z hz => kS.q (List.mem_cons_self ..) hz
    rw [re_low ne, Int.zero_add, sweep_q (Int.ne_of_gt Sp), em]
    have n := cast_ne (Int.ne_of_gt Sp)
    simp only [Rat.intCast_mul]
    rw [show ((2 : Int) : Rat) = 2 from rfl]
    grind
  · rw [im_low ne]
    show ((0 : Int) : Rat) / _ = 0
    grind
theorem vcx_area (Γ : CL) : ∀ ds μ R re, spx_area Γ ds μ R re → rdx_area Γ (finX R re) (startD 6 ds) μ := by
  rintro ds μ R re (⟨s, N0, rfl, k, hc, h⟩ | ⟨d, rfl, h⟩)
  · unfold rdx_area
    rw [show startD 6 [strD s] = [some (strD s), none, none, none, none, none] from rfl]
    obtain ⟨l1, l2, mv⟩ := k.st s (List.mem_cons_self ..)
    have kc := k.can s (List.mem_cons_self ..)
    refine seq_g fun N hN => ?_
    simp only [rDropX, rClX, rCons, rVar, rC, rNil, gt]
    refine .inl ⟨s, _, rfl, ⟨l1, l2, mv, fun z hz => ⟨(kc z hz).1, (kc z hz).2.1.mono (by decide)⟩⟩, ?_⟩
    refine hN _ _ ?_
    clear hN N
    obtain ⟨s', b, rfl⟩ : ∃ s' b, s = s' ++ [b] := ⟨s.dropLast, s.getLast (by intro e; rw [e] at l1; cases l1), (List.dropLast_concat_getLast _).symm⟩
    obtain ⟨a, r, hs⟩ : ∃ a r, s' ++ [b] = a :: r := by
      cases s' with
      | nil => exact ⟨b, [], rfl⟩
      | cons a r => exact ⟨a, r ++ [b], rfl⟩
    have eab : a ≠ b := by
      rw [List.getLast?_concat, hs] at hc
      exact fun e => hc (congrArg some e)
    refine seq_g fun N hN => ?_
    simp only [rIf, rB, rOp, rVar, rC, rUn, gt, gU, strD, gIx_t, atI_lastD]
    rw [show atI ((s' ++ [b]).map numD) 0 = some (numD a) from by rw [hs, atI_0]; rfl]
    simp only [gNe_num, decide_eq_false eab, Bool.not_false, if_true, rRaise, finX]
    exact h
  · unfold rdx_area
    rw [show startD 6 [d] = [some d, none, none, none, none, none] from rfl]
    refine seq_g fun N hN => ?_
    simp only [rDropX, rClX, rCons, rVar, rC, rNil, gt]
    rcases h with ⟨_, _, _, _, h⟩ | h | h
    · exact h.elim
    · exact .inr (.inl h)
    · exact .inr (.inr h)
end L3

/-! ## V104 -/
set_option Elab.async false
set_option linter.all false
set_option maxRecDepth 100000
set_option maxHeartbeats 1000000
/-! Areas: the plain law. -/
namespace L3
open PySem NM L2
open Ink (Q2 Pl)
theorem sweep_app (x : Q2) (r : List Q2) : ∀ l : List Q2, sweep (l ++ x :: r) = sweep (l ++ [x]) + sweep (x :: r)
  | [] => by
    show sweep (x :: r) = 0 + sweep (x :: r)
    grind
  | [a] => by
    show (a.1 * x.2 - x.1 * a.2) + sweep (x :: r) = ((a.1 * x.2 - x.1 * a.2) + 0) + sweep (x :: r)
    grind
  | a :: b :: l => by
    have ih := sweep_app x r (b :: l)
    show (a.1 * b.2 - b.1 * a.2) + sweep (b :: l ++ x :: r) = ((a.1 * b.2 - b.1 * a.2) + sweep (b :: l ++ [x])) + sweep (x :: r)
    rw [ih]
    grind
theorem sweep_rev : ∀ l : List Q2, sweep l.reverse = - sweep l
  | [] => by show (0 : Rat) = -0; grind
  | [a] => by show (0 : Rat) = -0; grind
  | a :: b :: r => by
    have ih := sweep_rev (b :: r)
    rw [List.reverse_cons, List.reverse_cons, List.append_assoc]
    rw [List.reverse_cons] at ih
    show sweep (r.reverse ++ b :: [a]) = _
    rw [sweep_app, ih]
    show - sweep (b :: r) + ((b.1 * a.2 - a.1 * b.2) + 0) = - ((a.1 * b.2 - b.1 * a.2) + sweep (b :: r))
    grind
/-- begun elsewhere -/
theorem sweep_rot {a x : Q2} {p q : List Q2} (h : (x :: q).getLast? = some a) : sweep (x :: q ++ (p ++ [x])) = sweep (a :: p ++ x :: q) := by
  obtain ⟨q', e⟩ : ∃ q', x :: q = q' ++ [a] := by
    refine ⟨(x :: q).dropLast, ?_⟩
    have h2 : (x :: q).getLast (by simp) = a := by
      rw [List.getLast?_eq_some_getLast (by simp)] at h
      exact Option.some.inj h
    rw [← h2]
    exact (List.dropLast_concat_getLast _).symm
  rw [sweep_app x q (a :: p)]
  rw [e, List.append_assoc]
  show sweep (q' ++ a :: (p ++ [x])) = _
  rw [sweep_app]
  show _ + sweep (a :: (p ++ [x])) = sweep (a :: (p ++ [x])) + _
  grind
def cr (a b : Q2) : Rat := a.1 * b.2 - b.1 * a.2
/-- moved: f turns and grows all (u), then shifts (s) -/
theorem sweep_map {f u : Q2 → Q2} {s : Q2} {n : Rat} (hf : ∀ z, f z = ((u z).1 + s.1, (u z).2 + s.2)) (hu : ∀ a b, cr (u a) (u b) = n * cr a b) : ∀ (r : List Q2) (a : Q2), sweep ((a :: r).map f) = n * sweep (a :: r) + cr s (u ((a :: r).getLast (by simp))) - cr s (u a)
  | [], a => by
    show (0 : Rat) = n * 0 + cr s (u a) - cr s (u a)
    grind
  | b :: r, a => by
    have ih := sweep_map hf hu r b
    have h := hu a b
    show ((f a).1 * (f b).2 - (f b).1 * (f a).2) + sweep ((b :: r).map f) = n * ((a.1 * b.2 - b.1 * a.2) + sweep (b :: r)) + cr s (u ((b :: r).getLast (by simp))) - cr s (u a)
    rw [ih, hf a, hf b]
    generalize cr s (u ((b :: r).getLast (by simp))) = w
    unfold cr at h ⊢
    simp only
    grind
end L3

/-! ## V42 -/
set_option Elab.async false
set_option linter.all false
set_option maxRecDepth 100000
set_option maxHeartbeats 1000000
/-! Random copies: finer bounds. -/
namespace L3
open PySem NM L2
local macro_rules | `(tactic| walk_at "d") => `(tactic| (try (simp only [rSeq, rAsg, rRet, rRetN, rDrop, rIf, rNext, rPar, rPar3, rCons, rNil, rStar, rCl, rOp, rUn, rVar, rC, rGN, rTup, rLst, rB, rAnd, rOr, rNot, rIfE, rAndV, rOrV, rNotV, rNever, rFld, rOwn, rMeth, rMakeK, rMakeD, rFldS, rFrz, rSetIx, rMut, rILst, rITup, rIRng1, rIRng2, rFor, rLc, rLcM, rTrue, gt, st, gI, gI0, gU, gIx, gEq, gNe, gAdd, gSub, gMul, gDiv, gMod, gPow, gLt, gLe, gGt, gGe, gIsi, gAbs, gLen, gAll, gIsN, gNotN, gOwn1, gOwn2, isNonD, seqD, res, atI_0, atI_1, atI_2, atI_3, atI_4, List.getElem?_cons_zero, List.getElem?_cons_succ, List.length_cons, List.length_nil, decide_eq_true_eq, List.map_cons, List.map_nil, startD, List.cons_append, List.nil_append, List.replicate, Nat.zero_add, numD, if_true, if_false, Bool.false_eq_true, and_self, true_and, ite_true, ite_false, Nat.reduceAdd, Nat.reduceSub, ln, Nat.reduceLeDiff, fin, String.reduceBEq, Bool.not_true, Bool.not_false, pureN, deq_int, deq_tt, deq_t0, deq_bl, List.all_cons, List.all_nil, Bool.and_true, Bool.true_and, Bool.and_eq_true, List.append_nil, lk_turn, lk_shift, lk_mirrored, lk_key, insD, updM_same, updM_updM, Option.map_some, Option.map_none])))
theorem tiny_sz {z : Num} (h : Tiny z) : Sz 3 z := ⟨by unfold Bt; have := h.2.1; have := h.2.2.1; omega, by unfold Bt; have := h.2.2.2.1; have := h.2.2.2.2.1; omega, by unfold Bt; have := h.2.2.2.2.2; have := h.1.1.1; omega⟩
theorem vc_law_toldT (Γ : CL) : ∀ ds μ R, sp_law_toldT Γ ds μ R → rd_law_toldT Γ (fin R) (startD 1 ds) μ := by
  rintro ds μ R ⟨g, xs, rfl, hm, hx, h⟩
  unfold rd_law_toldT
  walk_at "d"
  refine ⟨g, xs, rfl, hm, hx, fun t ys tz tn tg hy => ?_⟩
  refine ⟨g, ys, rfl, updM_same, hy, fun s ys1 sz hy1 => ?_⟩
  refine ⟨g, 2, ys1, rfl, by decide, by decide, updM_same, hy1, fun b ys2 b0 b1 hy2 => ?_⟩
  walk_at "d"
  exact h ⟨t, s, b == 0⟩ ys2 ⟨⟨tz, tn, sz.1⟩, tg.2, tiny_sz sz⟩ hy2
end L3

/-! ## V105 -/
set_option Elab.async false
set_option linter.all false
set_option maxRecDepth 100000
set_option maxHeartbeats 1000000
/-! Areas of strokes. -/
namespace L3
open PySem NM L2
open Ink (Q2 Pl)
structure Ka (s : Stk) : Prop where
  ne : 1 ≤ s.length
  le : s.length ≤ 7
  mv : moves s
  can : ∀ z ∈ s, Can z ∧ Sz 11 z
theorem Ka.st {s : Stk} (k : Ka s) : okSt 11 s := ⟨k.ne, by have := k.le; omega, k.mv, k.can⟩
theorem Ka.sum {s : Stk} (k : Ka s) : (([s] : List Stk).map List.length).sum ≤ 7 := by
  show s.length + 0 ≤ 7
  exact k.le
theorem Ka.okI {s : Stk} (k : Ka s) : okI (prodD [s]) [s] := by
  refine okI_prod (n := 11) (c := 7) (fun t ht => ?_) k.sum (by decide) (by decide) (by show 1 ≤ 500; decide)
  rw [List.mem_singleton.mp ht]
  exact k.st
theorem Ka.bt {s : Stk} (k : Ka s) : Bt 3000 (prodD [s]) := by
  obtain ⟨_, p2, _, _⟩ := prod_all [s] 1 1 (by decide) (by show (1 : Int).natAbs < 2 ^ 1; decide) 11 fun t ht z hz => by
    rw [List.mem_singleton.mp ht] at hz
    exact ⟨(k.can z hz).1, (k.can z hz).2.2.2⟩
  have := Nat.mul_le_mul_left 11 k.sum
  exact p2.mono (by omega)
theorem im_y {v : Num} (cv : Can v) (h : im v = 0) : v.y = 0 := by
  have n := rat_d cv
  unfold im at h
  have : ((v.y : Int) : Rat) = 0 := by grind
  exact_mod_cast this
theorem area_i {Γ : CL} {s : Stk} {μ : MH} {Q : D → MH → Prop} (k : Ka s) (hc : s.head? = s.getLast?) (q : Q (fr (sweep (s.map numQ) / 2)) μ) : sp_area Γ [strD s] μ Q :=
  ⟨s, _, rfl, k.okI, k.bt, hc, fun v cv er ei => by
    show Q (frD v) μ
    rw [frD_fr cv (im_y cv ei), er]
    exact q⟩
theorem open_i {Γ : CL} {s : Stk} {μ : MH} {R : D → MH → Prop} {re : RE} (k : Ka s) (hc : s.head? ≠ s.getLast?) (q : re (Γ.gx "OpenStroke") [] μ) : spx_area Γ [strD s] μ R re := .inl ⟨s, _, rfl, k.okI, hc, q⟩
theorem moves_app {x : Num} {r : Stk} : ∀ {l : Stk}, moves (l ++ x :: r) ↔ moves (l ++ [x]) ∧ moves (x :: r)
  | [] => ⟨fun h => ⟨trivial, h⟩, fun h => h.2⟩
  | [a] => ⟨fun h => ⟨⟨h.1, trivial⟩, h.2⟩, fun h => ⟨h.1.1, h.2⟩⟩
  | a :: b :: l => by
    have ih := @moves_app x r (b :: l)
    show (a ≠ b ∧ moves (b :: l ++ x :: r)) ↔ (a ≠ b ∧ moves (b :: l ++ [x])) ∧ moves (x :: r)
    rw [ih, and_assoc]
theorem moves_rev : ∀ {l : Stk}, moves l → moves l.reverse
  | [], _ => trivial
  | [a], _ => trivial
  | a :: b :: r, h => by
    have ih := moves_rev h.2
    rw [List.reverse_cons, List.reverse_cons, List.append_assoc]
    rw [List.reverse_cons] at ih
    exact moves_app.mpr ⟨ih, fun e => h.1 e.symm, trivial⟩
theorem Ka.rev {s : Stk} (k : Ka s) : Ka s.reverse := ⟨by rw [List.length_reverse]; exact k.ne, by rw [List.length_reverse]; exact k.le, moves_rev k.mv, fun z hz => k.can z (List.mem_reverse.mp hz)⟩
theorem rev_cl {s : Stk} (h : s.head? = s.getLast?) : s.reverse.head? = s.reverse.getLast? := by
  rw [List.head?_reverse, List.getLast?_reverse]
  exact h.symm
theorem sweep_revN (s : Stk) : sweep (s.reverse.map numQ) = - sweep (s.map numQ) := by
  rw [List.map_reverse, sweep_rev]
/-- begun elsewhere -/
theorem Ka.rot {a x : Num} {p q : Stk} (k : Ka (a :: p ++ x :: q)) (h : (x :: q).getLast? = some a) : Ka (x :: q ++ (p ++ [x])) := by
  obtain ⟨m1, m2⟩ := moves_app.mp k.mv
  obtain ⟨q', e⟩ : ∃ q', x :: q = q' ++ [a] := by
    refine ⟨(x :: q).dropLast, ?_⟩
    have h2 : (x :: q).getLast (by simp) = a := by
      rw [List.getLast?_eq_some_getLast (by simp)] at h
      exact Option.some.inj h
    rw [← h2]
    exact (List.dropLast_concat_getLast _).symm
  refine ⟨by simp, ?_, ?_, fun z hz => k.can z ?_⟩
  · have := k.le
    simp only [List.length_append, List.length_cons, List.length_nil] at this ⊢
    omega
  · rw [e, List.append_assoc]
    show moves (q' ++ a :: (p ++ [x]))
    refine moves_app.mpr ⟨?_, m1⟩
    rw [← e]
    exact m2
  · simp only [List.mem_append, List.mem_cons, List.not_mem_nil, or_false, List.cons_append] at hz ⊢
    rcases hz with hz | hz | hz | hz
    · exact .inr (.inr (.inl hz))
    · exact .inr (.inr (.inr hz))
    · exact .inr (.inl hz)
    · exact .inr (.inr (.inl hz))
theorem rot_cl {x : Num} {p q : Stk} : (x :: q ++ (p ++ [x])).head? = (x :: q ++ (p ++ [x])).getLast? := by
  rw [← List.append_assoc, List.getLast?_concat]
  rfl
theorem sweep_rotN {a x : Num} {p q : Stk} (h : (x :: q).getLast? = some a) : sweep ((x :: q ++ (p ++ [x])).map numQ) = sweep ((a :: p ++ x :: q).map numQ) := by
  have := sweep_rot (a := numQ a) (x := numQ x) (p := p.map numQ) (q := q.map numQ) (by
    rw [show numQ x :: q.map numQ = (x :: q).map numQ from rfl, List.getLast?_map, h]
    rfl)
  simp only [List.map_append, List.map_cons, List.map_nil] at this ⊢
  exact this
/-- copied -/
theorem Ka.at {c : Cp} {s : Stk} (kc : c.ok) (sc : c.sz 3) (ne : 1 ≤ s.length) (le : s.length ≤ 7) (mv : moves s) (t : ∀ z ∈ s, Tiny z) : Ka (s.map c.at) := by
  have k : okSt 3 s := ⟨ne, by omega, mv, fun z hz => ⟨(t z hz).1.1, tiny_sz (t z hz)⟩⟩
  have := k.at kc sc
  exact ⟨by rw [List.length_map]; exact ne, by rw [List.length_map]; exact le, this.mv, this.can⟩
theorem at_cl {c : Cp} {s : Stk} (h : s.head? = s.getLast?) : (s.map c.at).head? = (s.map c.at).getLast? := by
  rw [List.head?_map, List.getLast?_map, h]
theorem sweep_atN {c : Cp} {s : Stk} (kc : c.ok) (ks : ∀ z ∈ s, Can z) (h : s.head? = s.getLast?) : sweep ((s.map c.at).map numQ) = (sg c.m * nrm c.t) * sweep (s.map numQ) := by
  cases s with
  | nil => show (0 : Rat) = _ * 0; grind
  | cons a r =>
    have e : ((a :: r).map c.at).map numQ = ((a :: r).map numQ).map (atQ c) := by
      rw [List.map_map, List.map_map]
      exact List.map_congr_left fun z hz => at_Q kc (ks z hz)
    rw [e]
    have el : ((a :: r).map numQ).getLast (by simp) = numQ a := by
      have h2 : (a :: r).getLast (by simp) = a := by
        rw [List.getLast?_eq_some_getLast (by simp)] at h
        exact (Option.some.inj h).symm
      rw [List.getLast_map, h2]
    have := sweep_map (f := atQ c) (u := fun P => (re c.t * P.1 - im c.t * (sg c.m * P.2), re c.t * (sg c.m * P.2) + im c.t * P.1)) (s := (re c.s, im c.s)) (n := sg c.m * nrm c.t)
      (fun P => rfl) (fun P P' => by
        unfold cr nrm
        simp only
        grind) (r.map numQ) (numQ a)
    have el2 : (numQ a :: r.map numQ).getLast (by simp) = numQ a := el
    rw [el2] at this
    show sweep ((numQ a :: r.map numQ).map (atQ c)) = _ * sweep (numQ a :: r.map numQ)
    rw [this]
    grind
end L3

/-! ## V_k14 -/
set_option Elab.async false
set_option linter.all false
set_option maxRecDepth 100000
set_option maxHeartbeats 1000000
namespace L3.K14
open PySem PySem.Spec PySem.Calls PyProof.Rows L2 NM
open Ink (Q2 Pl)
theorem gNe_same {d : D} {μ : MH} {R : D → MH → Prop} (hp : pureN 20 d = true) (q : R (.bl false) μ) : gNe d d μ R := by
  have hr := res_pure (μ := μ) hp
  refine ⟨by rw [hr]; exact hp, by rw [hr]; exact hp, ?_⟩
  rw [hr, deq_self 20 d hp]
  exact q
theorem gEq_same {d : D} {μ : MH} {R : D → MH → Prop} (hp : pureN 20 d = true) (q : R (.bl true) μ) : gEq d d μ R := by
  have hr := res_pure (μ := μ) hp
  refine ⟨by rw [hr]; exact hp, by rw [hr]; exact hp, ?_⟩
  rw [hr, deq_self 20 d hp]
  exact q
theorem pure_fr (q : Rat) : pureN 20 (fr q) = true := rfl
theorem pure_e (x : Str) (h : PyData.strOk x = true) : pureN 20 (.tup [.str x, .int 0]) = true := by
  show [D.str x, D.int 0].all (pureN 19) = true
  show (PyData.strOk x && (true && true)) = true
  rw [h]
  rfl
theorem gIx_r0 {q : Rat} {μ : MH} {R : D → MH → Prop} : gIx (fr q) (.int 0) μ R = R (.int q.num) μ := rfl
theorem gIx_r1 {q : Rat} {μ : MH} {R : D → MH → Prop} : gIx (fr q) (.int 1) μ R = R (.int (q.den : Int)) μ := rfl
section
variable {Γ : CL} {μ : MH} {R : D → MH → Prop} {g : Addr} {xs : List D} {s : Stk} {q : Rat} {c : Cp} {s0 s1 s2 s3 s4 s5 s6 s7 s8 s9 s10 s11 s12 s13 : Option D}
theorem t1 (ht : μ Γ.tab = some (.tab lamQ)) (hg : g ≠ Γ.tab) (hm : μ g = some (.lst xs)) (hx : RL xs) (hR : ∀ μ', R (.bl true) μ') :
    rd_law_t1 Γ (fin R) [s0, some (.ref g), s2, s3, s4, s5, s6, s7, s8, s9, s10, s11, s12, s13] μ := by
  unfold rd_law_t1
  refine seq_g fun N hN => ?_
  simp only [rAsg, rOp, rLst, rTup, rCons, rCl, rVar, rC, rNil, gt]
  refine ⟨by show 0 ≤ 2 ^ 24; decide, by show 3 ≤ 2 ^ 24; decide, by show 3 ≤ 2 ^ 24; decide, by show 2 ≤ 2 ^ 24; decide, by show 3 ≤ 2 ^ 24; decide, by show 1 ≤ 2 ^ 24; decide, by show 3 ≤ 2 ^ 24; decide, ?_⟩
  refine ⟨g, 3, xs, rfl, by decide, by decide, hm, hx, fun r ys r0 r1 hy => ?_⟩
  have key : ∀ d : D, (∀ μ' (re : RE), re (Γ.gx "InvalidStroke") [("index", .int 0)] μ' → spx_check_stroke Γ [d, .int 0] μ' (fun _ _ => False) re) → rGN 13 d [s0, some (.ref g), s2, s3, s4, s5, s6, s7, s8, s9, s10, s11, s12, s13] (updM μ g (.lst ys)) N := by
    intro d hd
    simp only [rGN, st]
    refine hN _ _ ?_
    simp only [rRet, rOp, rErrOf, rClX, rCons, rVar, rC, rNil, gt, rTup]
    refine ⟨by rw [updM_ne hg.symm]; exact ht, .inr ⟨d, rfl, hd _ _ ?_⟩⟩
    refine ⟨.tup [.str "stroke", .int 0], ⟨4, by simp [errL], [.int 0], rfl, rfl, rfl, rfl⟩, ?_⟩
    refine ⟨by show 2 ≤ 2 ^ 24; decide, ?_⟩
    exact gEq_same (pure_e _ (by decide +kernel)) (hR _)
  have cz : Can zero ∧ Sz big zero := ⟨can_zero, by unfold Sz Bt; decide +kernel⟩
  have : r = 0 ∨ r = 1 ∨ r = 2 := by omega
  rcases this with rfl | rfl | rfl
  · exact key (.tup []) fun μ' re h => .inr (.inl ⟨[], _, rfl, by decide, (fun z hz => nomatch hz), (fun h => absurd h.1 (by decide)), h⟩)
  · exact key (strD [zero, zero]) fun μ' re h => .inr (.inl ⟨[zero, zero], _, rfl, by decide, (fun z hz => by
      rcases List.mem_cons.mp hz with rfl | hz
      · exact cz
      · rw [List.mem_singleton.mp hz]; exact cz), (fun h => h.2.2.1 rfl), h⟩)
  · exact key (.tup [.tup [.int 1, .int 0, .int 0]]) fun μ' re h => .inr (.inr ⟨[], _, [], _, rfl, (fun z hz => nomatch hz), ⟨rfl, fun ds e => by
      injection e with e
      subst e
      refine ⟨rfl, fun x y w e => ?_⟩
      injection e with e1 e
      injection e with e2 e
      injection e with e3 e
      injection e1 with e1
      injection e2 with e2
      injection e3 with e3
      subst e1 e2 e3
      unfold Bt
      decide +kernel⟩, by decide +kernel, h⟩)
structure Kl (s : Stk) : Prop where
  ne : 1 ≤ s.length
  le : s.length ≤ 7
  mv : moves s
  ty : ∀ z ∈ s, Tiny z
  cl : s.head? = s.getLast?
theorem Kl.ka (k : Kl s) : Ka s := ⟨k.ne, k.le, k.mv, fun z hz => ⟨(k.ty z hz).1.1, (tiny_sz (k.ty z hz)).mono (by decide)⟩⟩
theorem sg_int (c : Cp) (a n : Int) (b d : Nat) (hb : (b : Rat) ≠ 0) (hd : (d : Rat) ≠ 0) {i : Int} (hi : (i : Rat) = sg c.m) : (((i * a * n : Int)) : Rat) / (((b : Int) * (d : Int) : Int) : Rat) = (sg c.m * ((n : Rat) / ((d : Int) : Rat))) * ((a : Rat) / ((b : Int) : Rat)) := by
  have e1 : (((b : Int)) : Rat) = (b : Rat) := by norm_cast
  have e2 : (((d : Int)) : Rat) = (d : Rat) := by norm_cast
  simp only [Rat.intCast_mul]
  rw [hi, e1, e2]
  grind
theorem t2 (kc : c.tn) (k : Kl s) (bq : SzQ 1000 (sweep (s.map numQ) / 2)) {i : Int} (hi : (i : Rat) = sg c.m) (bi : Bt 2 i) (ht : μ Γ.tab = some (.tab lamQ)) (hg : g ≠ Γ.tab) (hm : μ g = some (.lst xs)) (hx : RL xs) (hR : ∀ μ', R (.bl true) μ') :
    rd_law_t2 Γ (fin R) [s0, some (.ref g), s2, s3, s4, s5, some (fr (sweep (s.map numQ) / 2)), s7, s8, some (strD (s.map c.at)), s10, some (fr (nrm c.t)), some (.int i), s13] μ := by
  unfold rd_law_t2
  have ko := kc.1
  have k3 := kc.2
  have kok : c.ok := kc.1.ok
  refine seq_g fun N hN => ?_
  simp only [rIf, rB, rOp, rCl, rCons, rVar, rC, rNil, gt]
  refine area_i (Ka.at kok k3 k.ne k.le k.mv k.ty) (at_cl k.cl) ?_
  rw [sweep_atN kok (fun z hz => (k.ty z hz).1.1) k.cl]
  simp only [gIx_r0, gIx_r1]
  have bn := SzQ_nrm kok.1 k3.1
  have b1 := bi.mul bq.1
  have b2 := b1.mul bn.1
  have b3 := bq.2.mul bn.2
  refine ⟨⟨bi.mono (by decide), bq.1.mono (by decide)⟩, ⟨b1.mono (by decide), bn.1.mono (by decide)⟩, ⟨bq.2.mono (by decide), bn.2.mono (by decide)⟩, ?_⟩
  have d1 := (sweep (s.map numQ) / 2).den_pos
  have d2 := (nrm c.t).den_pos
  have nz : (((sweep (s.map numQ) / 2).den : Int) * ((nrm c.t).den : Int)) ≠ 0 := Int.ne_of_gt (Int.mul_pos (by omega) (by omega))
  refine ⟨nz, b2.mono (by decide), b3.mono (by decide), ?_⟩
  rw [frD_low nz, sg_int c _ _ _ _ (by exact_mod_cast (by omega : (sweep (s.map numQ) / 2).den ≠ 0)) (by exact_mod_cast (by omega : (nrm c.t).den ≠ 0)) hi, rat_nd, rat_nd]
  rw [show sg c.m * nrm c.t * sweep (s.map numQ) / 2 = sg c.m * nrm c.t * (sweep (s.map numQ) / 2) from by grind]
  refine gNe_same (pure_fr _) ?_
  simp only [Bool.false_eq_true, if_false, rNext]
  exact hN _ _ (t1 ht hg hm hx hR)
theorem t3 (kc : c.tn) (k : Kl s) (bq : SzQ 1000 (sweep (s.map numQ) / 2)) (ht : μ Γ.tab = some (.tab lamQ)) (hg : g ≠ Γ.tab) (hm : μ g = some (.lst xs)) (hx : RL xs) (hR : ∀ μ', R (.bl true) μ') :
    rd_law_t3 Γ (fin R) [s0, some (.ref g), s2, s3, s4, s5, some (fr (sweep (s.map numQ) / 2)), s7, some (toldD c), some (strD (s.map c.at)), s10, s11, s12, s13] μ := by
  unfold rd_law_t3
  have kok : c.ok := kc.1.ok
  refine seq_g fun N hN => ?_
  simp only [rAsg, rCl, rCons, rVar, rC, rNil, rOp, gt]
  rw [show toldD c = .tup [numD c.t, numD c.s, .bl c.m] from rfl, gIx_t, atI_0]
  refine lsize_i kok.1 (kc.2.1.mono (by decide)) ?_
  rw [frD_szN kok.1]
  simp only [rGN, st]
  refine hN _ _ ?_
  clear hN N
  refine seq_g fun N hN => ?_
  simp only [rAsg, rIfE, rB, rVar, rC, rOp, gt]
  rw [gIx_t, atI_2]
  simp only [List.getElem?_cons_succ, List.getElem?_cons_zero]
  cases hc : c.m with
  | true =>
    simp only [if_true, gSub, gI0, rGN, st]
    refine hN _ _ ?_
    rw [← hc]
    exact t2 kc k bq (by rw [hc]; rfl) (by unfold Bt; decide) ht hg hm hx hR
  | false =>
    simp only [Bool.false_eq_true, if_false, rGN, st]
    refine hN _ _ ?_
    rw [← hc]
    exact t2 kc k bq (by rw [hc]; rfl) (by unfold Bt; decide) ht hg hm hx hR
theorem t4 (kc : c.tn) (k : Kl s) (bq : SzQ 1000 (sweep (s.map numQ) / 2)) (ht : μ Γ.tab = some (.tab lamQ)) (hg : g ≠ Γ.tab) (hm : μ g = some (.lst xs)) (hx : RL xs) (hR : ∀ μ', R (.bl true) μ') :
    rd_law_t4 Γ (fin R) [s0, some (.ref g), some (strD s), s3, s4, s5, some (fr (sweep (s.map numQ) / 2)), s7, some (toldD c), s9, s10, s11, s12, s13] μ := by
  unfold rd_law_t4
  refine seq_g fun N hN => ?_
  simp only [rAsg, rCl, rCons, rVar, rNil, rLc, rITup, gt, strD, rms, rm]
  refine ⟨by rw [List.length_map]; have := k.le; show _ ≤ 2 ^ 24; omega, ?_⟩
  refine lcar_lc (c := c) (fun d => rfl) (fun d => rfl) kc.1.ok ⟨kc.2.1.mono (by decide), kc.2.2.mono (by decide)⟩ (fun z hz => ⟨(k.ty z hz).1.1, (tiny_sz (k.ty z hz)).mono (by decide)⟩) ?_
  simp only [gTuple, res, seqD, rGN, st]
  exact hN _ _ (t3 kc k bq ht hg hm hx hR)
theorem t5 (k : Kl s) (bq : SzQ 1000 (sweep (s.map numQ) / 2)) (ht : μ Γ.tab = some (.tab lamQ)) (hg : g ≠ Γ.tab) (hm : μ g = some (.lst xs)) (hx : RL xs) (hR : ∀ μ', R (.bl true) μ') :
    rd_law_t5 Γ (fin R) [s0, some (.ref g), some (strD s), s3, s4, s5, some (fr (sweep (s.map numQ) / 2)), s7, s8, s9, s10, s11, s12, s13] μ := by
  unfold rd_law_t5
  refine seq_g fun N hN => ?_
  simp only [rAsg, rCl, rCons, rVar, rNil, gt]
  refine ⟨g, xs, rfl, hm, hx, fun c ys kc hy => ?_⟩
  simp only [rGN, st]
  exact hN _ _ (t4 kc k bq (by rw [updM_ne hg.symm]; exact ht) hg updM_same hy hR)
theorem gAdd_int {i j : Int} {μ : MH} {R : D → MH → Prop} : gAdd (.int i) (.int j) μ R = R (.int (i + j)) μ := rfl
theorem cut_mid {a x : Num} {p q : Stk} : cutD ((a :: p ++ x :: q).map numD) (some 1) (some (((a :: p).length : Int) + 1)) = (p ++ [x]).map numD := by
  unfold cutD
  rw [show (some (1 : Int)) = some ((1 : Nat) : Int) from rfl, HT.sIx_nat, show (some (((a :: p).length : Int) + 1)) = some (((p.length + 2 : Nat)) : Int) from by simp; omega, HT.sIx_nat]
  simp only [List.length_map, List.length_append, List.length_cons]
  rw [Nat.min_eq_left (by omega), Nat.min_eq_left (by omega)]
  rw [show ((a :: p ++ x :: q).map numD).drop 1 = (p ++ [x]).map numD ++ q.map numD from by simp, show p.length + 2 - 1 = ((p ++ [x]).map numD).length from by simp, List.take_left']
  rfl
theorem t6 {n : Int} (n0 : 0 ≤ n) (nl : n < (s.length : Int)) (k : Kl s) (bq : SzQ 1000 (sweep (s.map numQ) / 2)) (ht : μ Γ.tab = some (.tab lamQ)) (hg : g ≠ Γ.tab) (hm : μ g = some (.lst xs)) (hx : RL xs) (hR : ∀ μ', R (.bl true) μ') :
    rd_law_t6 Γ (fin R) [s0, some (.ref g), some (strD s), s3, s4, s5, some (fr (sweep (s.map numQ) / 2)), some (.int n), s8, s9, s10, s11, s12, s13] μ := by
  unfold rd_law_t6
  refine seq_g fun N hN => ?_
  have fin' := hN _ _ (t5 (s0 := s0) (s3 := s3) (s4 := s4) (s5 := s5) (s7 := some (.int n)) (s8 := s8) (s9 := s9) (s10 := s10) (s11 := s11) (s12 := s12) (s13 := s13) k bq ht hg hm hx hR)
  simp only [rIf, rAnd, rB, rOp, rVar, rC, gt, gGt, gI0]
  by_cases hn : 0 < n
  · rw [decide_eq_true hn, if_pos rfl]
    obtain ⟨j, rfl⟩ := Int.eq_ofNat_of_zero_le n0
    obtain ⟨x, q, ex⟩ : ∃ x q, s.drop j = x :: q := by
      cases e : s.drop j with
      | nil => have := List.drop_eq_nil_iff.mp e; omega
      | cons x q => exact ⟨x, q, rfl⟩
    obtain ⟨a, p, ea⟩ : ∃ a p, s.take j = a :: p := by
      cases e : s.take j with
      | nil =>
        have := congrArg List.length e
        rw [List.length_take, List.length_nil] at this
        omega
      | cons a p => exact ⟨a, p, rfl⟩
    have es : s = a :: p ++ x :: q := by rw [← ea, ← ex, List.take_append_drop]
    have ej : j = (a :: p).length := by
      have := congrArg List.length ea
      rw [List.length_take] at this
      omega
    subst es
    have hl : (x :: q).getLast? = some a := by
      have h := k.cl
      rw [List.getLast?_append] at h
      cases e : (x :: q).getLast? with
      | none => simp at e
      | some b =>
        rw [e] at h
        exact h.symm
    simp only [rCl, rCons, rNil, rOp, rSl, rPart, rNoPart, rVar, rC, gt, strD, gSl, res, gAdd_int]
    rw [ej, cut_mid, List.map_append, show ((a :: p).length : Int) = (((a :: p).map numD).length : Int) from by rw [List.length_map], cut_drop]
    refine gAdd_tt (by
      rw [List.length_map, List.length_map]
      have := k.le
      simp only [List.length_append, List.length_cons, List.length_nil] at this ⊢
      show _ ≤ 2 ^ 24
      omega) ?_
    rw [← List.map_append]
    refine area_i (k.ka.rot hl) rot_cl ?_
    rw [sweep_rotN hl]
    refine gNe_same (pure_fr _) ?_
    simp only [Bool.false_eq_true, if_false, rNext]
    rw [← List.map_append, List.length_map, ← ej]
    exact fin'
  · rw [decide_eq_false hn]
    simp only [Bool.false_eq_true, if_false, rNext]
    exact fin'
theorem t7 (k : Kl s) (bq : SzQ 1000 (sweep (s.map numQ) / 2)) (ht : μ Γ.tab = some (.tab lamQ)) (hg : g ≠ Γ.tab) (hm : μ g = some (.lst xs)) (hx : RL xs) (hR : ∀ μ', R (.bl true) μ') :
    rd_law_t7 Γ (fin R) [s0, some (.ref g), some (strD s), s3, s4, s5, some (fr (sweep (s.map numQ) / 2)), s7, s8, s9, s10, s11, s12, s13] μ := by
  unfold rd_law_t7
  refine seq_g fun N hN => ?_
  simp only [rAsg, rCl, rCons, rVar, rNil, gt, gLen, strD, res, seqD, List.length_map]
  have := k.ne
  have := k.le
  refine ⟨g, s.length, xs, rfl, by omega, by omega, hm, hx, fun r ys r0 r1 hy => ?_⟩
  simp only [rGN, st]
  exact hN _ _ (t6 r0 r1 k bq (by rw [updM_ne hg.symm]; exact ht) hg updM_same hy hR)
theorem same_fr (q : Rat) : same (fr q) (fr q) = true := same_self (n := 4) _ rfl
theorem fr_neg (q : Rat) : fr (-q) = .tup [.int (0 - q.num), .int (q.den : Int)] := by
  unfold fr
  rw [Rat.neg_num, Rat.neg_den, Int.zero_sub]
theorem t8 (k : Kl s) (bq : SzQ 1000 (sweep (s.map numQ) / 2)) (ht : μ Γ.tab = some (.tab lamQ)) (hg : g ≠ Γ.tab) (hm : μ g = some (.lst xs)) (hx : RL xs) (hR : ∀ μ', R (.bl true) μ') :
    rd_law_t8 Γ (fin R) [s0, some (.ref g), some (strD s), some (numD (qN (sweep (s.map numQ) / 2))), s4, s5, some (fr (sweep (s.map numQ) / 2)), s7, s8, s9, s10, s11, s12, s13] μ := by
  unfold rd_law_t8
  refine seq_g fun N hN => ?_
  simp only [rIf, rOr, rNot, rB, rOp, rCl, rTup, rRev, rUn, rCons, rVar, rC, rNil, gt, gU, gSub, gI0]
  rw [show numD (qN (sweep (s.map numQ) / 2)) = .tup [.int (sweep (s.map numQ) / 2).num, .int 0, .int ((sweep (s.map numQ) / 2).den : Int)] from rfl]
  simp only [gIx_t, atI_0, atI_2, List.getElem?_cons_zero, List.getElem?_cons_succ]
  refine ⟨by show 2 ≤ 2 ^ 24; decide, ?_⟩
  refine ⟨rfl, rfl, ?_⟩
  rw [show D.tup [.int (sweep (s.map numQ) / 2).num, .int ((sweep (s.map numQ) / 2).den : Int)] = fr (sweep (s.map numQ) / 2) from rfl, same_fr]
  simp only [Bool.not_true, Bool.false_eq_true, if_false, strD]
  refine ⟨trivial, ?_⟩
  rw [← List.map_reverse]
  refine area_i k.ka.rev (rev_cl k.cl) ?_
  rw [sweep_revN, show -sweep (s.map numQ) / 2 = -(sweep (s.map numQ) / 2) from by grind]
  refine ⟨by show 2 ≤ 2 ^ 24; decide, ?_⟩
  rw [← fr_neg]
  refine ⟨rfl, rfl, ?_⟩
  rw [same_fr]
  simp only [Bool.not_true, Bool.false_eq_true, if_false, rNext]
  exact hN _ _ (t7 k bq ht hg hm hx hR)
theorem t9 (k : Kl s) (bq : SzQ 1000 (sweep (s.map numQ) / 2)) (ht : μ Γ.tab = some (.tab lamQ)) (hg : g ≠ Γ.tab) (hm : μ g = some (.lst xs)) (hx : RL xs) (hR : ∀ μ', R (.bl true) μ') :
    rd_law_t9 Γ (fin R) [s0, some (.ref g), some (strD s), some (numD (qN (sweep (s.map numQ) / 2))), s4, s5, s6, s7, s8, s9, s10, s11, s12, s13] μ := by
  unfold rd_law_t9
  refine seq_g fun N hN => ?_
  simp only [rAsg, rCl, rCons, rVar, rNil, gt]
  refine area_i k.ka k.cl ?_
  simp only [rGN, st]
  exact hN _ _ (t8 k bq ht hg hm hx hR)
theorem atI_mid {a : Num} {p r : Stk} : atI ((p ++ a :: r).map numD) (p.length : Int) = some (numD a) := by
  rw [atI_lit, List.map_append, List.getElem?_append_right (by simp)]
  simp
theorem tot_loop {E : Ed} {s6 : Option D} : ∀ (r p : Stk) (a : Num) (T : Num) (s4 s5 : Option D), s = p ++ a :: r → (∀ z ∈ s, Tiny z) → s.length ≤ 7 → Can T → im T = 0 → re T = sweep ((p ++ [a]).map numQ) / 2 → Sz (1 + 10 * p.length) T →
    (∀ T' x4 x5, Can T' → im T' = 0 → re T' = sweep (s.map numQ) / 2 → Sz 1000 T' → E.nx [s0, some (.ref g), some (strD s), some (numD T'), x4, x5, s6, s7, s8, s9, s10, s11, s12, s13] μ) →
    forD (rGN 4) (rd_law_f1 Γ) tru E (rangeD (p.length : Int) r.length) [s0, some (.ref g), some (strD s), some (numD T), s4, s5, s6, s7, s8, s9, s10, s11, s12, s13] μ
  | [], p, a, T, s4, s5, es, ty, l7, cT, iT, rT, bT, h => ⟨trivial, h T s4 s5 cT iT (by rw [es]; exact rT) (bT.mono (by
      have := congrArg List.length es
      rw [List.length_append, List.length_cons] at this
      omega))⟩
  | b :: r, p, a, T, s4, s5, es, ty, l7, cT, iT, rT, bT, h => by
    have ta := ty a (by rw [es]; simp)
    have tb := ty b (by rw [es]; simp)
    have ca := ta.1.1
    have cb := tb.1.1
    have sa := tiny_sz ta
    have sb := tiny_sz tb
    have lp : p.length ≤ 5 := by
      have := congrArg List.length es
      rw [List.length_append, List.length_cons, List.length_cons] at this
      omega
    show forD _ _ _ _ (.int (p.length : Int) :: rangeD ((p.length : Int) + 1) r.length) _ _
    refine ⟨trivial, ?_⟩
    simp only [rGN, st]
    unfold rd_law_f1
    refine seq_g fun N hN => ?_
    simp only [rAsg, rCl, rCons, rOp, rVar, rC, rNil, gt, gAdd_int, strD, gIx_t]
    have e1 : atI (s.map numD) (p.length : Int) = some (numD a) := by rw [es]; exact atI_mid
    have e2 : atI (s.map numD) ((p.length : Int) + 1) = some (numD b) := by
      rw [es, show p ++ a :: b :: r = (p ++ [a]) ++ b :: r from by simp, show ((p.length : Int) + 1) = ((p ++ [a]).length : Int) from by simp]
      exact atI_mid
    rw [e1, e2]
    refine over_i ?_
    have cm := can_mul (can_ovr ca) cb
    have sm := Sz.mul (can_ovr ca) cb sa.ovr sb
    refine times_i (can_ovr ca) cb (sa.ovr.mono (by decide)) (sb.mono (by decide)) ?_
    simp only [rGN, st]
    refine hN _ _ ?_
    clear hN N
    generalize hw : mul (ovr a) b = w at cm sm
    simp only [rAsg, rCl, rCons, rOp, rVar, rC, rNil, gt]
    rw [show numD w = .tup [.int w.x, .int w.y, .int w.d] from rfl]
    simp only [gIx_t, atI_1, atI_2, List.getElem?_cons_zero, List.getElem?_cons_succ]
    have dw := ne_d cm
    have d2 : 2 * w.d ≠ 0 := by omega
    have b2 : Bt 9 (2 * w.d) := Bt.mul (n := 2) (by unfold Bt; decide) sm.2.2
    have b0 : Bt 9 0 := by unfold Bt; decide
    refine ⟨⟨Bt.mono (n := 2) (by unfold Bt; decide) (by decide), sm.2.2.mono (by decide)⟩, ?_⟩
    refine ⟨d2, sm.2.1.mono (by decide), b0.mono (by decide), b2.mono (by decide), ?_⟩
    have cl := low_can (x := w.y) (y := 0) d2
    have sl : Sz 9 (low w.y 0 (2 * w.d)) := low_sz d2 (sm.2.1.mono (by decide)) b0 b2
    refine plus_i cT cl (bT.mono (by show 1 + 10 * p.length ≤ 2000; omega)) (sl.mono (by decide)) ?_
    simp only [rGN, st]
    have rl : re (low w.y 0 (2 * w.d)) = im w / 2 := by
      rw [re_low d2]
      unfold im
      have := rat_d cm
      simp only [Rat.intCast_mul]
      rw [show ((2 : Int) : Rat) = 2 from rfl]
      grind
    have il : im (low w.y 0 (2 * w.d)) = 0 := by
      rw [im_low d2]
      show ((0 : Int) : Rat) / _ = 0
      rw [show ((0 : Int) : Rat) = 0 from rfl]
      grind
    have iw : im w = re a * im b - im a * re b := by
      rw [← hw, im_mul (can_ovr ca) cb, re_ovr, im_ovr]
      grind
    have sw : sweep ((p ++ [a] ++ [b]).map numQ) = sweep ((p ++ [a]).map numQ) + (re a * im b - re b * im a) := by
      rw [List.append_assoc]
      simp only [List.map_append, List.map_cons, List.map_nil, List.cons_append, List.nil_append]
      rw [sweep_app]
      show _ + ((re a * im b - re b * im a) + 0) = _
      grind
    have ih := tot_loop (E := E) (s6 := s6) r (p ++ [a]) b (add T (low w.y 0 (2 * w.d))) (some (.int (p.length : Int))) (some (.tup [.int w.x, .int w.y, .int w.d])) (by rw [es]; simp) ty l7 (can_add cT cl) (by rw [im_add cT cl, iT, il]; grind)
      (by rw [re_add cT cl, rT, rl, sw, iw]; grind) ((Sz.add cT cl bT sl).mono (by rw [List.length_append]; simp only [List.length_cons, List.length_nil]; omega)) h
    rw [show (((p ++ [a]).length : Nat) : Int) = (p.length : Int) + 1 from by simp] at ih
    exact ih
theorem t10 (k : Kl s) (ht : μ Γ.tab = some (.tab lamQ)) (hg : g ≠ Γ.tab) (hm : μ g = some (.lst xs)) (hx : RL xs) (hR : ∀ μ', R (.bl true) μ') :
    rd_law_t10 Γ (fin R) [s0, some (.ref g), some (strD s), some (numD zero), s4, s5, s6, s7, s8, s9, s10, s11, s12, s13] μ := by
  unfold rd_law_t10
  refine seq_g fun N hN => ?_
  simp only [rFor, rIRng1, rCons, rOp, rCl, rVar, rC, rNil, gt, gLen, strD, res, seqD, List.length_map, gSub, gI0]
  have k1 := k.ne
  have k7 := k.le
  refine ⟨by unfold inR; omega, ?_⟩
  obtain ⟨a, r, es⟩ : ∃ a r, s = a :: r := by
    cases s with
    | nil => exact absurd k1 (by decide)
    | cons a r => exact ⟨a, r, rfl⟩
  have el : ((s.length : Int) - 1).toNat = r.length := by
    rw [es, List.length_cons]
    omega
  rw [el]
  refine tot_loop (s := s) r [] a zero s4 s5 es k.ty k7 can_zero im_zero (by
    rw [re_zero]
    show (0 : Rat) = (0 : Rat) / 2
    grind) (by unfold Sz Bt; decide +kernel) fun T' x4 x5 cT iT rT bT => ?_
  refine hN _ _ ?_
  have y0 := im_y cT iT
  have eT := eq_qN cT y0
  have bq := SzQ_of cT y0 bT
  rw [rT] at eT bq
  rw [eT]
  exact t9 k bq ht hg hm hx hR
theorem t11 (k : Kl s) (ht : μ Γ.tab = some (.tab lamQ)) (hg : g ≠ Γ.tab) (hm : μ g = some (.lst xs)) (hx : RL xs) (hR : ∀ μ', R (.bl true) μ') :
    rd_law_t11 Γ (fin R) [s0, some (.ref g), some (strD s), s3, s4, s5, s6, s7, s8, s9, s10, s11, s12, s13] μ := by
  unfold rd_law_t11
  refine seq_g fun N hN => ?_
  simp only [rAsg, rTup, rCons, rC, rNil]
  refine ⟨by show 3 ≤ 2 ^ 24; decide, ?_⟩
  simp only [rGN, st]
  exact hN _ _ (t10 k ht hg hm hx hR)
theorem t12 (k : okTH s) (ht : μ Γ.tab = some (.tab lamQ)) (hg : g ≠ Γ.tab) (hm : μ g = some (.lst xs)) (hx : RL xs) (hR : ∀ μ', R (.bl true) μ') :
    rd_law_t12 Γ (fin R) [s0, some (.ref g), some (strD s), s3, s4, s5, s6, s7, s8, s9, s10, s11, s12, s13] μ := by
  unfold rd_law_t12
  obtain ⟨l1, l6, mv, ty⟩ := k
  have ka : Ka s := ⟨l1, by omega, mv, fun z hz => ⟨(ty z hz).1.1, (tiny_sz (ty z hz)).mono (by decide)⟩⟩
  refine seq_g fun N hN => ?_
  obtain ⟨s', b, es⟩ : ∃ s' b, s = s' ++ [b] := ⟨s.dropLast, s.getLast (by intro e; rw [e] at l1; cases l1), (List.dropLast_concat_getLast _).symm⟩
  obtain ⟨a, r, ea⟩ : ∃ a r, s = a :: r := by
    cases s with
    | nil => exact absurd l1 (by decide)
    | cons a r => exact ⟨a, r, rfl⟩
  have i0 : atI (s.map numD) 0 = some (numD a) := by rw [ea, atI_0]; rfl
  have i1 : atI (s.map numD) (-(1 : Int)) = some (numD b) := by rw [es]; exact atI_lastD s' b
  simp only [rIf, rB, rOp, rVar, rC, rUn, gt, gU, strD, gIx_t, i0, i1, gNe_num]
  by_cases q : b = a
  · rw [decide_eq_true q]
    simp only [Bool.not_true, Bool.false_eq_true, if_false, rNext]
    refine hN _ _ (t11 ⟨l1, by omega, mv, ty, ?_⟩ ht hg hm hx hR)
    have h2 : s.getLast? = some b := by rw [es]; exact List.getLast?_concat
    rw [h2, ea, q]
    rfl
  · rw [decide_eq_false q]
    simp only [Bool.not_false, if_true]
    refine seq_g fun M hM => ?_
    simp only [rIf, rB, rOp, rErrOf, rClX, rCons, rVar, rC, rNil, rTup, gt]
    refine ⟨ht, open_i ka (fun e => q ?_) ?_⟩
    · have h2 : s.getLast? = some b := by rw [es]; exact List.getLast?_concat
      rw [h2, ea] at e
      exact (Option.some.inj e).symm
    refine ⟨.tup [.str "open", .int 0], ⟨5, by simp [errL], [], rfl, rfl, rfl, rfl⟩, ?_⟩
    refine ⟨by show 2 ≤ 2 ^ 24; decide, ?_⟩
    refine gNe_same (pure_e _ (by decide +kernel)) ?_
    simp only [Bool.false_eq_true, if_false, rNext]
    refine hM _ _ ?_
    clear hM M
    simp only [rAsg, rOp, rVar, rC, rTup, rCons, rNil, gt, gIx_t, i0]
    refine ⟨by show 1 ≤ 2 ^ 24; decide, ?_⟩
    refine gAdd_tt (by rw [List.length_map]; show s.length + 1 ≤ 2 ^ 24; omega) ?_
    simp only [rGN, st]
    refine hN _ _ ?_
    have e2 : D.tup (s.map numD ++ [numD a]) = strD (s ++ [a]) := by simp [strD]
    rw [e2]
    refine t11 ⟨by simp, by rw [List.length_append]; show s.length + 1 ≤ 7; omega, ?_, fun z hz => ?_, ?_⟩ ht hg hm hx hR
    · rw [es]
      exact moves_snoc (by rw [← es]; exact mv) q
    · rcases List.mem_append.mp hz with hz | hz
      · exact ty z hz
      · rw [List.mem_singleton.mp hz]
        exact ty a (by rw [ea]; exact List.mem_cons_self ..)
    · rw [List.getLast?_concat, ea]
      rfl
end
theorem vc_law (Γ : CL) : ∀ ds μ R, lawT Γ.tab lamQ ds μ R → rd_law Γ (fin R) (startD 14 ds) μ := by
  rintro ds μ R ⟨ns, rfl, hn, ht, hR⟩
  unfold rd_law
  rw [show startD 14 [.scr (ns.map D.int)] = [some (.scr (ns.map D.int)), none, none, none, none, none, none, none, none, none, none, none, none, none] from rfl]
  refine seq_g fun N hN => ?_
  simp only [rAsg, rCl, rCons, rVar, rC, gt, rNil]
  refine ⟨ns, 14, rfl, by decide, by decide, hn, fun g xs hg hx => ?_⟩
  have gt' : g ≠ Γ.tab := fun e => by rw [e, ht] at hg; cases hg
  simp only [rGN, st]
  refine hN _ _ ?_
  clear hN N
  refine seq_g fun N hN => ?_
  simp only [rAsg, rCl, rCons, rVar, rC, gt, rNil]
  refine ⟨g, 6, xs, rfl, by decide, by decide, updM_same, hx, fun s ys ks hy => ?_⟩
  simp only [rGN, st]
  refine hN _ _ (t12 ks ?_ gt' updM_same hy hR)
  rw [updM_ne gt'.symm, updM_ne gt'.symm]
  exact ht
end L3.K14

/-! ## A_k14 -/
set_option Elab.async false
set_option linter.all false
set_option maxRecDepth 100000
set_option maxHeartbeats 0
namespace L3.K14
open PySem PySem.Spec PyProof.Rows L2 NM
def Γ0 (K : PySem.W.Frag) : CL := ⟨He.ga K "Copy", He.ga K "Drawing", He.ga K "Arm", He.ga K "Chain", He.ga K "Reader", lawP K, fun s => He.ga K s⟩
section
variable {P : Program} {w : World} {K : PySem.W.Frag} {mg : Str → Option Value} {base : Heap}
theorem ln_law_random (Γ : CL) : ∀ ds μ R, sp_law_random Γ ds μ R → ds.length = 2 := by
  intro ds μ R h
  first | (unfold sp_law_random at h; split at h <;> first | rfl | exact h.elim) | (obtain ⟨rfl, _⟩ := h <;> rfl) | (obtain ⟨_, rfl, _⟩ := h <;> rfl) | (obtain ⟨_, _, rfl, _⟩ := h <;> rfl) | (obtain ⟨_, _, _, rfl, _⟩ := h <;> rfl) | (obtain ⟨_, _, _, _, rfl, _⟩ := h <;> rfl) | (obtain ⟨_, _, _, _, _, rfl, _⟩ := h <;> rfl) | (obtain ⟨_, _, _, _, _, _, rfl, _⟩ := h <;> rfl) | (obtain ⟨_, _, _, _, _, _, _, rfl, _⟩ := h <;> rfl) | (obtain ⟨_, _, _, _, _, _, _, _, rfl, _⟩ := h <;> rfl) | (obtain ⟨rfl | rfl, _⟩ := h <;> rfl) | (obtain ⟨_, rfl | rfl, _⟩ := h <;> rfl) | (obtain ⟨_, _, rfl | rfl, _⟩ := h <;> rfl) | (obtain ⟨_, _, _, rfl | rfl, _⟩ := h <;> rfl) | (obtain ⟨_, ⟨_, rfl, _⟩ | ⟨_, rfl, _⟩⟩ := h <;> rfl)
theorem ok_law_random {fd : FuncData} (T : Fc K mg (Γ0 K)) (F : FunD K "_law_random" "_law_random" (defArgs (top 37)) (defBody (top 37)) (defScope (top 37)) [] [] (He.ga K "_law_random") fd)  : FnOk P w K mg base CX0 1 (He.ga K "_law_random") fd ["_law_script", "_law_salt"] (spD K (sp_law_random (Γ0 K))) :=
  fnD F sc_law_random (ln_law_random (Γ0 K)) (fun cdv A outer s0 H E hr => dv_law_random (Γ0 K) T  cdv A outer s0 H E hr) (vc_law_random (Γ0 K))
theorem ln_law_below (Γ : CL) : ∀ ds μ R, sp_law_below Γ ds μ R → ds.length = 2 := by
  intro ds μ R h
  first | (unfold sp_law_below at h; split at h <;> first | rfl | exact h.elim) | (obtain ⟨rfl, _⟩ := h <;> rfl) | (obtain ⟨_, rfl, _⟩ := h <;> rfl) | (obtain ⟨_, _, rfl, _⟩ := h <;> rfl) | (obtain ⟨_, _, _, rfl, _⟩ := h <;> rfl) | (obtain ⟨_, _, _, _, rfl, _⟩ := h <;> rfl) | (obtain ⟨_, _, _, _, _, rfl, _⟩ := h <;> rfl) | (obtain ⟨_, _, _, _, _, _, rfl, _⟩ := h <;> rfl) | (obtain ⟨_, _, _, _, _, _, _, rfl, _⟩ := h <;> rfl) | (obtain ⟨_, _, _, _, _, _, _, _, rfl, _⟩ := h <;> rfl) | (obtain ⟨rfl | rfl, _⟩ := h <;> rfl) | (obtain ⟨_, rfl | rfl, _⟩ := h <;> rfl) | (obtain ⟨_, _, rfl | rfl, _⟩ := h <;> rfl) | (obtain ⟨_, _, _, rfl | rfl, _⟩ := h <;> rfl) | (obtain ⟨_, ⟨_, rfl, _⟩ | ⟨_, rfl, _⟩⟩ := h <;> rfl)
theorem ok_law_below {fd : FuncData} (T : Fc K mg (Γ0 K)) (F : FunD K "_law_below" "_law_below" (defArgs (top 38)) (defBody (top 38)) (defScope (top 38)) [] [] (He.ga K "_law_below") fd)  : FnOk P w K mg base CX0 1 (He.ga K "_law_below") fd ["_law_d", "_law_limit"] (spD K (sp_law_below (Γ0 K))) :=
  fnD F sc_law_below (ln_law_below (Γ0 K)) (fun cdv A outer s0 H E hr => dv_law_below (Γ0 K) T  cdv A outer s0 H E hr) (vc_law_below (Γ0 K))
theorem ln_law_step (Γ : CL) : ∀ ds μ R, sp_law_step Γ ds μ R → ds.length = 2 := by
  intro ds μ R h
  first | (unfold sp_law_step at h; split at h <;> first | rfl | exact h.elim) | (obtain ⟨rfl, _⟩ := h <;> rfl) | (obtain ⟨_, rfl, _⟩ := h <;> rfl) | (obtain ⟨_, _, rfl, _⟩ := h <;> rfl) | (obtain ⟨_, _, _, rfl, _⟩ := h <;> rfl) | (obtain ⟨_, _, _, _, rfl, _⟩ := h <;> rfl) | (obtain ⟨_, _, _, _, _, rfl, _⟩ := h <;> rfl) | (obtain ⟨_, _, _, _, _, _, rfl, _⟩ := h <;> rfl) | (obtain ⟨_, _, _, _, _, _, _, rfl, _⟩ := h <;> rfl) | (obtain ⟨_, _, _, _, _, _, _, _, rfl, _⟩ := h <;> rfl) | (obtain ⟨rfl | rfl, _⟩ := h <;> rfl) | (obtain ⟨_, rfl | rfl, _⟩ := h <;> rfl) | (obtain ⟨_, _, rfl | rfl, _⟩ := h <;> rfl) | (obtain ⟨_, _, _, rfl | rfl, _⟩ := h <;> rfl) | (obtain ⟨_, ⟨_, rfl, _⟩ | ⟨_, rfl, _⟩⟩ := h <;> rfl)
theorem ok_law_step {fd : FuncData} (T : Fc K mg (Γ0 K)) (F : FunD K "_law_step" "_law_step" (defArgs (top 39)) (defBody (top 39)) (defScope (top 39)) [] [] (He.ga K "_law_step") fd) (G_law_below : FnG P w K mg base 1 "_law_below" (sp_law_below (Γ0 K))) : FnOk P w K mg base CX0 2 (He.ga K "_law_step") fd ["_law_d", "_law_size_now"] (spD K (sp_law_step (Γ0 K))) :=
  fnD F sc_law_step (ln_law_step (Γ0 K)) (fun cdv A outer s0 H E hr => dv_law_step (Γ0 K) T G_law_below cdv A outer s0 H E hr) (vc_law_step (Γ0 K))
theorem ln_law_common (Γ : CL) : ∀ ds μ R, sp_law_common Γ ds μ R → ds.length = 2 := by
  intro ds μ R h
  first | (unfold sp_law_common sp_common_divisor at h; split at h <;> first | rfl | exact h.elim) | (replace h : sp_common_divisor Γ ds μ R := h; obtain ⟨_, _, rfl, _⟩ := h; rfl) | (obtain ⟨rfl, _⟩ := h <;> rfl) | (obtain ⟨_, rfl, _⟩ := h <;> rfl) | (obtain ⟨_, _, rfl, _⟩ := h <;> rfl) | (obtain ⟨_, _, _, rfl, _⟩ := h <;> rfl) | (obtain ⟨_, _, _, _, rfl, _⟩ := h <;> rfl) | (obtain ⟨_, _, _, _, _, rfl, _⟩ := h <;> rfl) | (obtain ⟨_, _, _, _, _, _, rfl, _⟩ := h <;> rfl) | (obtain ⟨_, _, _, _, _, _, _, rfl, _⟩ := h <;> rfl) | (obtain ⟨_, _, _, _, _, _, _, _, rfl, _⟩ := h <;> rfl) | (obtain ⟨rfl | rfl, _⟩ := h <;> rfl) | (obtain ⟨_, rfl | rfl, _⟩ := h <;> rfl) | (obtain ⟨_, _, rfl | rfl, _⟩ := h <;> rfl) | (obtain ⟨_, _, _, rfl | rfl, _⟩ := h <;> rfl) | (obtain ⟨_, ⟨_, rfl, _⟩ | ⟨_, rfl, _⟩⟩ := h <;> rfl)
theorem ok_law_common {fd : FuncData} (T : Fc K mg (Γ0 K)) (F : FunD K "_law_common" "_law_common" (defArgs (top 40)) (defBody (top 40)) (defScope (top 40)) [] [] (He.ga K "_law_common") fd)  : FnOk P w K mg base CX0 1 (He.ga K "_law_common") fd ["_law_one", "_law_other"] (spD K (sp_law_common (Γ0 K))) :=
  fnD F sc_law_common (ln_law_common (Γ0 K)) (fun cdv A outer s0 H E hr => dv_law_common (Γ0 K) T  cdv A outer s0 H E hr) (vc_law_common (Γ0 K))
theorem ln_law_lowest (Γ : CL) : ∀ ds μ R, sp_law_lowest Γ ds μ R → ds.length = 3 := by
  intro ds μ R h
  first | (unfold sp_law_lowest sp_lowest at h; split at h <;> first | rfl | exact h.elim) | (replace h : sp_lowest Γ ds μ R := h; obtain ⟨_, _, rfl, _⟩ := h; rfl) | (obtain ⟨rfl, _⟩ := h <;> rfl) | (obtain ⟨_, rfl, _⟩ := h <;> rfl) | (obtain ⟨_, _, rfl, _⟩ := h <;> rfl) | (obtain ⟨_, _, _, rfl, _⟩ := h <;> rfl) | (obtain ⟨_, _, _, _, rfl, _⟩ := h <;> rfl) | (obtain ⟨_, _, _, _, _, rfl, _⟩ := h <;> rfl) | (obtain ⟨_, _, _, _, _, _, rfl, _⟩ := h <;> rfl) | (obtain ⟨_, _, _, _, _, _, _, rfl, _⟩ := h <;> rfl) | (obtain ⟨_, _, _, _, _, _, _, _, rfl, _⟩ := h <;> rfl) | (obtain ⟨rfl | rfl, _⟩ := h <;> rfl) | (obtain ⟨_, rfl | rfl, _⟩ := h <;> rfl) | (obtain ⟨_, _, rfl | rfl, _⟩ := h <;> rfl) | (obtain ⟨_, _, _, rfl | rfl, _⟩ := h <;> rfl) | (obtain ⟨_, ⟨_, rfl, _⟩ | ⟨_, rfl, _⟩⟩ := h <;> rfl)
theorem ok_law_lowest {fd : FuncData} (T : Fc K mg (Γ0 K)) (F : FunD K "_law_lowest" "_law_lowest" (defArgs (top 41)) (defBody (top 41)) (defScope (top 41)) [] [] (He.ga K "_law_lowest") fd) (G_law_common : FnG P w K mg base 1 "_law_common" (sp_law_common (Γ0 K))) : FnOk P w K mg base CX0 2 (He.ga K "_law_lowest") fd ["_law_x", "_law_y", "_law_q"] (spD K (sp_law_lowest (Γ0 K))) :=
  fnD F sc_law_lowest (ln_law_lowest (Γ0 K)) (fun cdv A outer s0 H E hr => dv_law_lowest (Γ0 K) T G_law_common cdv A outer s0 H E hr) (vc_law_lowest (Γ0 K))
theorem ln_law_spotT (Γ : CL) : ∀ ds μ R, sp_law_spotT Γ ds μ R → ds.length = 1 := by
  intro ds μ R h
  first | (unfold sp_law_spotT at h; split at h <;> first | rfl | exact h.elim) | (obtain ⟨rfl, _⟩ := h <;> rfl) | (obtain ⟨_, rfl, _⟩ := h <;> rfl) | (obtain ⟨_, _, rfl, _⟩ := h <;> rfl) | (obtain ⟨_, _, _, rfl, _⟩ := h <;> rfl) | (obtain ⟨_, _, _, _, rfl, _⟩ := h <;> rfl) | (obtain ⟨_, _, _, _, _, rfl, _⟩ := h <;> rfl) | (obtain ⟨_, _, _, _, _, _, rfl, _⟩ := h <;> rfl) | (obtain ⟨_, _, _, _, _, _, _, rfl, _⟩ := h <;> rfl) | (obtain ⟨_, _, _, _, _, _, _, _, rfl, _⟩ := h <;> rfl) | (obtain ⟨rfl | rfl, _⟩ := h <;> rfl) | (obtain ⟨_, rfl | rfl, _⟩ := h <;> rfl) | (obtain ⟨_, _, rfl | rfl, _⟩ := h <;> rfl) | (obtain ⟨_, _, _, rfl | rfl, _⟩ := h <;> rfl) | (obtain ⟨_, ⟨_, rfl, _⟩ | ⟨_, rfl, _⟩⟩ := h <;> rfl)
theorem ok_law_spotT {fd : FuncData} (T : Fc K mg (Γ0 K)) (F : FunD K "_law_spot" "_law_spot" (defArgs (top 42)) (defBody (top 42)) (defScope (top 42)) [] [] (He.ga K "_law_spot") fd) (G_law_below : FnG P w K mg base 1 "_law_below" (sp_law_below (Γ0 K))) (G_law_lowest : FnG P w K mg base 2 "_law_lowest" (sp_law_lowest (Γ0 K))) : FnOk P w K mg base CX0 3 (He.ga K "_law_spot") fd ["_law_d"] (spD K (sp_law_spotT (Γ0 K))) :=
  fnD F sc_law_spotT (ln_law_spotT (Γ0 K)) (fun cdv A outer s0 H E hr => dv_law_spotT (Γ0 K) T G_law_below G_law_lowest cdv A outer s0 H E hr) (vc_law_spotT (Γ0 K))
theorem ln_law_strokeH (Γ : CL) : ∀ ds μ R, sp_law_strokeH Γ ds μ R → ds.length = 2 := by
  intro ds μ R h
  first | (unfold sp_law_strokeH at h; split at h <;> first | rfl | exact h.elim) | (obtain ⟨rfl, _⟩ := h <;> rfl) | (obtain ⟨_, rfl, _⟩ := h <;> rfl) | (obtain ⟨_, _, rfl, _⟩ := h <;> rfl) | (obtain ⟨_, _, _, rfl, _⟩ := h <;> rfl) | (obtain ⟨_, _, _, _, rfl, _⟩ := h <;> rfl) | (obtain ⟨_, _, _, _, _, rfl, _⟩ := h <;> rfl) | (obtain ⟨_, _, _, _, _, _, rfl, _⟩ := h <;> rfl) | (obtain ⟨_, _, _, _, _, _, _, rfl, _⟩ := h <;> rfl) | (obtain ⟨_, _, _, _, _, _, _, _, rfl, _⟩ := h <;> rfl) | (obtain ⟨rfl | rfl, _⟩ := h <;> rfl) | (obtain ⟨_, rfl | rfl, _⟩ := h <;> rfl) | (obtain ⟨_, _, rfl | rfl, _⟩ := h <;> rfl) | (obtain ⟨_, _, _, rfl | rfl, _⟩ := h <;> rfl) | (obtain ⟨_, ⟨_, rfl, _⟩ | ⟨_, rfl, _⟩⟩ := h <;> rfl)
theorem ok_law_strokeH {fd : FuncData} (T : Fc K mg (Γ0 K)) (F : FunD K "_law_stroke" "_law_stroke" (defArgs (top 43)) (defBody (top 43)) (defScope (top 43)) [] [] (He.ga K "_law_stroke") fd) (G_law_step : FnG P w K mg base 2 "_law_step" (sp_law_step (Γ0 K))) (G_law_below : FnG P w K mg base 1 "_law_below" (sp_law_below (Γ0 K))) (G_law_spotT : FnG P w K mg base 3 "_law_spot" (sp_law_spotT (Γ0 K))) : FnOk P w K mg base CX0 4 (He.ga K "_law_stroke") fd ["_law_d", "_law_most"] (spD K (sp_law_strokeH (Γ0 K))) :=
  fnD F sc_law_strokeH (ln_law_strokeH (Γ0 K)) (fun cdv A outer s0 H E hr => dv_law_strokeH (Γ0 K) T G_law_step G_law_below G_law_spotT cdv A outer s0 H E hr) (vc_law_strokeH (Γ0 K))
theorem ln_is_int (Γ : CL) : ∀ ds μ R, sp_is_int Γ ds μ R → ds.length = 1 := by
  intro ds μ R h
  first | (unfold sp_is_int at h; split at h <;> first | rfl | exact h.elim) | (obtain ⟨rfl, _⟩ := h <;> rfl) | (obtain ⟨_, rfl, _⟩ := h <;> rfl) | (obtain ⟨_, _, rfl, _⟩ := h <;> rfl) | (obtain ⟨_, _, _, rfl, _⟩ := h <;> rfl) | (obtain ⟨_, _, _, _, rfl, _⟩ := h <;> rfl) | (obtain ⟨_, _, _, _, _, rfl, _⟩ := h <;> rfl) | (obtain ⟨_, _, _, _, _, _, rfl, _⟩ := h <;> rfl) | (obtain ⟨_, _, _, _, _, _, _, rfl, _⟩ := h <;> rfl) | (obtain ⟨_, _, _, _, _, _, _, _, rfl, _⟩ := h <;> rfl) | (obtain ⟨rfl | rfl, _⟩ := h <;> rfl) | (obtain ⟨_, rfl | rfl, _⟩ := h <;> rfl) | (obtain ⟨_, _, rfl | rfl, _⟩ := h <;> rfl) | (obtain ⟨_, _, _, rfl | rfl, _⟩ := h <;> rfl) | (obtain ⟨_, ⟨_, rfl, _⟩ | ⟨_, rfl, _⟩⟩ := h <;> rfl)
theorem ok_is_int {fd : FuncData} (T : Fc K mg (Γ0 K)) (F : FunD K "is_int" "is_int" (defArgs (top 23)) (defBody (top 23)) (defScope (top 23)) [] [] (He.ga K "is_int") fd)  : FnOk P w K mg base CX0 1 (He.ga K "is_int") fd ["value"] (spD K (sp_is_int (Γ0 K))) :=
  fnD F sc_is_int (ln_is_int (Γ0 K)) (fun cdv A outer s0 H E hr => dv_is_int (Γ0 K) T  cdv A outer s0 H E hr) (vc_is_int (Γ0 K))
theorem ln_common_divisor (Γ : CL) : ∀ ds μ R, sp_common_divisor Γ ds μ R → ds.length = 2 := by
  intro ds μ R h
  first | (unfold sp_common_divisor at h; split at h <;> first | rfl | exact h.elim) | (obtain ⟨rfl, _⟩ := h <;> rfl) | (obtain ⟨_, rfl, _⟩ := h <;> rfl) | (obtain ⟨_, _, rfl, _⟩ := h <;> rfl) | (obtain ⟨_, _, _, rfl, _⟩ := h <;> rfl) | (obtain ⟨_, _, _, _, rfl, _⟩ := h <;> rfl) | (obtain ⟨_, _, _, _, _, rfl, _⟩ := h <;> rfl) | (obtain ⟨_, _, _, _, _, _, rfl, _⟩ := h <;> rfl) | (obtain ⟨_, _, _, _, _, _, _, rfl, _⟩ := h <;> rfl) | (obtain ⟨_, _, _, _, _, _, _, _, rfl, _⟩ := h <;> rfl) | (obtain ⟨rfl | rfl, _⟩ := h <;> rfl) | (obtain ⟨_, rfl | rfl, _⟩ := h <;> rfl) | (obtain ⟨_, _, rfl | rfl, _⟩ := h <;> rfl) | (obtain ⟨_, _, _, rfl | rfl, _⟩ := h <;> rfl) | (obtain ⟨_, ⟨_, rfl, _⟩ | ⟨_, rfl, _⟩⟩ := h <;> rfl)
theorem ok_common_divisor {fd : FuncData} (T : Fc K mg (Γ0 K)) (F : FunD K "common_divisor" "common_divisor" (defArgs (top 24)) (defBody (top 24)) (defScope (top 24)) [] [] (He.ga K "common_divisor") fd)  : FnOk P w K mg base CX0 1 (He.ga K "common_divisor") fd ["one", "other"] (spD K (sp_common_divisor (Γ0 K))) :=
  fnD F sc_common_divisor (ln_common_divisor (Γ0 K)) (fun cdv A outer s0 H E hr => dv_common_divisor (Γ0 K) T  cdv A outer s0 H E hr) (vc_common_divisor (Γ0 K))
theorem ln_lowest (Γ : CL) : ∀ ds μ R, sp_lowest Γ ds μ R → ds.length = 3 := by
  intro ds μ R h
  first | (unfold sp_lowest at h; split at h <;> first | rfl | exact h.elim) | (obtain ⟨rfl, _⟩ := h <;> rfl) | (obtain ⟨_, rfl, _⟩ := h <;> rfl) | (obtain ⟨_, _, rfl, _⟩ := h <;> rfl) | (obtain ⟨_, _, _, rfl, _⟩ := h <;> rfl) | (obtain ⟨_, _, _, _, rfl, _⟩ := h <;> rfl) | (obtain ⟨_, _, _, _, _, rfl, _⟩ := h <;> rfl) | (obtain ⟨_, _, _, _, _, _, rfl, _⟩ := h <;> rfl) | (obtain ⟨_, _, _, _, _, _, _, rfl, _⟩ := h <;> rfl) | (obtain ⟨_, _, _, _, _, _, _, _, rfl, _⟩ := h <;> rfl) | (obtain ⟨rfl | rfl, _⟩ := h <;> rfl) | (obtain ⟨_, rfl | rfl, _⟩ := h <;> rfl) | (obtain ⟨_, _, rfl | rfl, _⟩ := h <;> rfl) | (obtain ⟨_, _, _, rfl | rfl, _⟩ := h <;> rfl) | (obtain ⟨_, ⟨_, rfl, _⟩ | ⟨_, rfl, _⟩⟩ := h <;> rfl)
theorem ok_lowest {fd : FuncData} (T : Fc K mg (Γ0 K)) (F : FunD K "lowest" "lowest" (defArgs (top 27)) (defBody (top 27)) (defScope (top 27)) [] [] (He.ga K "lowest") fd) (G_common_divisor : FnG P w K mg base 1 "common_divisor" (sp_common_divisor (Γ0 K))) : FnOk P w K mg base CX0 2 (He.ga K "lowest") fd ["x", "y", "d"] (spD K (sp_lowest (Γ0 K))) :=
  fnD F sc_lowest (ln_lowest (Γ0 K)) (fun cdv A outer s0 H E hr => dv_lowest (Γ0 K) T G_common_divisor cdv A outer s0 H E hr) (vc_lowest (Γ0 K))
theorem ln_is_number (Γ : CL) : ∀ ds μ R, sp_is_number Γ ds μ R → ds.length = 1 := by
  intro ds μ R h
  first | (unfold sp_is_number at h; split at h <;> first | rfl | exact h.elim) | (obtain ⟨rfl, _⟩ := h <;> rfl) | (obtain ⟨_, rfl, _⟩ := h <;> rfl) | (obtain ⟨_, _, rfl, _⟩ := h <;> rfl) | (obtain ⟨_, _, _, rfl, _⟩ := h <;> rfl) | (obtain ⟨_, _, _, _, rfl, _⟩ := h <;> rfl) | (obtain ⟨_, _, _, _, _, rfl, _⟩ := h <;> rfl) | (obtain ⟨_, _, _, _, _, _, rfl, _⟩ := h <;> rfl) | (obtain ⟨_, _, _, _, _, _, _, rfl, _⟩ := h <;> rfl) | (obtain ⟨_, _, _, _, _, _, _, _, rfl, _⟩ := h <;> rfl) | (obtain ⟨rfl | rfl, _⟩ := h <;> rfl) | (obtain ⟨_, rfl | rfl, _⟩ := h <;> rfl) | (obtain ⟨_, _, rfl | rfl, _⟩ := h <;> rfl) | (obtain ⟨_, _, _, rfl | rfl, _⟩ := h <;> rfl) | (obtain ⟨_, ⟨_, rfl, _⟩ | ⟨_, rfl, _⟩⟩ := h <;> rfl)
theorem ok_is_number {fd : FuncData} (T : Fc K mg (Γ0 K)) (F : FunD K "is_number" "is_number" (defArgs (top 28)) (defBody (top 28)) (defScope (top 28)) [] [] (He.ga K "is_number") fd) (G_is_int : FnG P w K mg base 1 "is_int" (sp_is_int (Γ0 K))) (G_lowest : FnG P w K mg base 2 "lowest" (sp_lowest (Γ0 K))) : FnOk P w K mg base CX0 3 (He.ga K "is_number") fd ["value"] (spD K (sp_is_number (Γ0 K))) :=
  fnD F sc_is_number (ln_is_number (Γ0 K)) (fun cdv A outer s0 H E hr => dv_is_number (Γ0 K) T G_is_int G_lowest cdv A outer s0 H E hr) (vc_is_number (Γ0 K))
theorem ln_common_multiple (Γ : CL) : ∀ ds μ R, sp_common_multiple Γ ds μ R → ds.length = 1 := by
  intro ds μ R h
  first | (unfold sp_common_multiple at h; split at h <;> first | rfl | exact h.elim) | (obtain ⟨rfl, _⟩ := h <;> rfl) | (obtain ⟨_, rfl, _⟩ := h <;> rfl) | (obtain ⟨_, _, rfl, _⟩ := h <;> rfl) | (obtain ⟨_, _, _, rfl, _⟩ := h <;> rfl) | (obtain ⟨_, _, _, _, rfl, _⟩ := h <;> rfl) | (obtain ⟨_, _, _, _, _, rfl, _⟩ := h <;> rfl) | (obtain ⟨_, _, _, _, _, _, rfl, _⟩ := h <;> rfl) | (obtain ⟨_, _, _, _, _, _, _, rfl, _⟩ := h <;> rfl) | (obtain ⟨_, _, _, _, _, _, _, _, rfl, _⟩ := h <;> rfl) | (obtain ⟨rfl | rfl, _⟩ := h <;> rfl) | (obtain ⟨_, rfl | rfl, _⟩ := h <;> rfl) | (obtain ⟨_, _, rfl | rfl, _⟩ := h <;> rfl) | (obtain ⟨_, _, _, rfl | rfl, _⟩ := h <;> rfl) | (obtain ⟨_, ⟨_, rfl, _⟩ | ⟨_, rfl, _⟩⟩ := h <;> rfl)
theorem ok_common_multiple {fd : FuncData} (T : Fc K mg (Γ0 K)) (F : FunD K "common_multiple" "common_multiple" (defArgs (top 25)) (defBody (top 25)) (defScope (top 25)) [] [] (He.ga K "common_multiple") fd) (G_common_divisor : FnG P w K mg base 1 "common_divisor" (sp_common_divisor (Γ0 K))) : FnOk P w K mg base CX0 2 (He.ga K "common_multiple") fd ["values"] (spD K (sp_common_multiple (Γ0 K))) :=
  fnD F sc_common_multiple (ln_common_multiple (Γ0 K)) (fun cdv A outer s0 H E hr => dv_common_multiple (Γ0 K) T G_common_divisor cdv A outer s0 H E hr) (vc_common_multiple (Γ0 K))
theorem ln_scaled (Γ : CL) : ∀ ds μ R, sp_scaled Γ ds μ R → ds.length = 1 := by
  intro ds μ R h
  first | (unfold sp_scaled at h; split at h <;> first | rfl | exact h.elim) | (obtain ⟨rfl, _⟩ := h <;> rfl) | (obtain ⟨_, rfl, _⟩ := h <;> rfl) | (obtain ⟨_, _, rfl, _⟩ := h <;> rfl) | (obtain ⟨_, _, _, rfl, _⟩ := h <;> rfl) | (obtain ⟨_, _, _, _, rfl, _⟩ := h <;> rfl) | (obtain ⟨_, _, _, _, _, rfl, _⟩ := h <;> rfl) | (obtain ⟨_, _, _, _, _, _, rfl, _⟩ := h <;> rfl) | (obtain ⟨_, _, _, _, _, _, _, rfl, _⟩ := h <;> rfl) | (obtain ⟨_, _, _, _, _, _, _, _, rfl, _⟩ := h <;> rfl) | (obtain ⟨rfl | rfl, _⟩ := h <;> rfl) | (obtain ⟨_, rfl | rfl, _⟩ := h <;> rfl) | (obtain ⟨_, _, rfl | rfl, _⟩ := h <;> rfl) | (obtain ⟨_, _, _, rfl | rfl, _⟩ := h <;> rfl) | (obtain ⟨_, ⟨_, rfl, _⟩ | ⟨_, rfl, _⟩⟩ := h <;> rfl)
theorem ok_scaled {fd : FuncData} (T : Fc K mg (Γ0 K)) (F : FunD K "scaled" "scaled" (defArgs (top 34)) (defBody (top 34)) (defScope (top 34)) [] [] (He.ga K "scaled") fd) (G_common_multiple : FnG P w K mg base 2 "common_multiple" (sp_common_multiple (Γ0 K))) : FnOk P w K mg base CX0 3 (He.ga K "scaled") fd ["strokes"] (spD K (sp_scaled (Γ0 K))) :=
  fnD F sc_scaled (ln_scaled (Γ0 K)) (fun cdv A outer s0 H E hr => dv_scaled (Γ0 K) T G_common_multiple cdv A outer s0 H E hr) (vc_scaled (Γ0 K))
theorem ln_ratio (Γ : CL) : ∀ ds μ R, sp_ratio Γ ds μ R → ds.length = 2 := by
  intro ds μ R h
  first | (unfold sp_ratio at h; split at h <;> first | rfl | exact h.elim) | (obtain ⟨rfl, _⟩ := h <;> rfl) | (obtain ⟨_, rfl, _⟩ := h <;> rfl) | (obtain ⟨_, _, rfl, _⟩ := h <;> rfl) | (obtain ⟨_, _, _, rfl, _⟩ := h <;> rfl) | (obtain ⟨_, _, _, _, rfl, _⟩ := h <;> rfl) | (obtain ⟨_, _, _, _, _, rfl, _⟩ := h <;> rfl) | (obtain ⟨_, _, _, _, _, _, rfl, _⟩ := h <;> rfl) | (obtain ⟨_, _, _, _, _, _, _, rfl, _⟩ := h <;> rfl) | (obtain ⟨_, _, _, _, _, _, _, _, rfl, _⟩ := h <;> rfl) | (obtain ⟨rfl | rfl, _⟩ := h <;> rfl) | (obtain ⟨_, rfl | rfl, _⟩ := h <;> rfl) | (obtain ⟨_, _, rfl | rfl, _⟩ := h <;> rfl) | (obtain ⟨_, _, _, rfl | rfl, _⟩ := h <;> rfl) | (obtain ⟨_, ⟨_, rfl, _⟩ | ⟨_, rfl, _⟩⟩ := h <;> rfl)
theorem ok_ratio {fd : FuncData} (T : Fc K mg (Γ0 K)) (F : FunD K "ratio" "ratio" (defArgs (top 26)) (defBody (top 26)) (defScope (top 26)) [] [] (He.ga K "ratio") fd) (G_common_divisor : FnG P w K mg base 1 "common_divisor" (sp_common_divisor (Γ0 K))) : FnOk P w K mg base CX0 2 (He.ga K "ratio") fd ["numerator", "denominator"] (spD K (sp_ratio (Γ0 K))) :=
  fnD F sc_ratio (ln_ratio (Γ0 K)) (fun cdv A outer s0 H E hr => dv_ratio (Γ0 K) T G_common_divisor cdv A outer s0 H E hr) (vc_ratio (Γ0 K))
theorem ln_law_times (Γ : CL) : ∀ ds μ R, sp_law_times Γ ds μ R → ds.length = 2 := by
  intro ds μ R h
  first | (unfold sp_law_times sp_multiplied at h; split at h <;> first | rfl | exact h.elim) | (replace h : sp_multiplied Γ ds μ R := h; obtain ⟨_, _, rfl, _⟩ := h; rfl) | (obtain ⟨rfl, _⟩ := h <;> rfl) | (obtain ⟨_, rfl, _⟩ := h <;> rfl) | (obtain ⟨_, _, rfl, _⟩ := h <;> rfl) | (obtain ⟨_, _, _, rfl, _⟩ := h <;> rfl) | (obtain ⟨_, _, _, _, rfl, _⟩ := h <;> rfl) | (obtain ⟨_, _, _, _, _, rfl, _⟩ := h <;> rfl) | (obtain ⟨_, _, _, _, _, _, rfl, _⟩ := h <;> rfl) | (obtain ⟨_, _, _, _, _, _, _, rfl, _⟩ := h <;> rfl) | (obtain ⟨_, _, _, _, _, _, _, _, rfl, _⟩ := h <;> rfl) | (obtain ⟨rfl | rfl, _⟩ := h <;> rfl) | (obtain ⟨_, rfl | rfl, _⟩ := h <;> rfl) | (obtain ⟨_, _, rfl | rfl, _⟩ := h <;> rfl) | (obtain ⟨_, _, _, rfl | rfl, _⟩ := h <;> rfl) | (obtain ⟨_, ⟨_, rfl, _⟩ | ⟨_, rfl, _⟩⟩ := h <;> rfl)
theorem ok_law_times {fd : FuncData} (T : Fc K mg (Γ0 K)) (F : FunD K "_law_times" "_law_times" (defArgs (top 45)) (defBody (top 45)) (defScope (top 45)) [] [] (He.ga K "_law_times") fd) (G_law_lowest : FnG P w K mg base 2 "_law_lowest" (sp_law_lowest (Γ0 K))) : FnOk P w K mg base CX0 3 (He.ga K "_law_times") fd ["_law_one", "_law_other"] (spD K (sp_law_times (Γ0 K))) :=
  fnD F sc_law_times (ln_law_times (Γ0 K)) (fun cdv A outer s0 H E hr => dv_law_times (Γ0 K) T G_law_lowest cdv A outer s0 H E hr) (vc_law_times (Γ0 K))
theorem ln_law_over (Γ : CL) : ∀ ds μ R, sp_law_over Γ ds μ R → ds.length = 1 := by
  intro ds μ R h
  first | (unfold sp_law_over sp_turned_over at h; split at h <;> first | rfl | exact h.elim) | (replace h : sp_turned_over Γ ds μ R := h; obtain ⟨_, _, rfl, _⟩ := h; rfl) | (obtain ⟨rfl, _⟩ := h <;> rfl) | (obtain ⟨_, rfl, _⟩ := h <;> rfl) | (obtain ⟨_, _, rfl, _⟩ := h <;> rfl) | (obtain ⟨_, _, _, rfl, _⟩ := h <;> rfl) | (obtain ⟨_, _, _, _, rfl, _⟩ := h <;> rfl) | (obtain ⟨_, _, _, _, _, rfl, _⟩ := h <;> rfl) | (obtain ⟨_, _, _, _, _, _, rfl, _⟩ := h <;> rfl) | (obtain ⟨_, _, _, _, _, _, _, rfl, _⟩ := h <;> rfl) | (obtain ⟨_, _, _, _, _, _, _, _, rfl, _⟩ := h <;> rfl) | (obtain ⟨rfl | rfl, _⟩ := h <;> rfl) | (obtain ⟨_, rfl | rfl, _⟩ := h <;> rfl) | (obtain ⟨_, _, rfl | rfl, _⟩ := h <;> rfl) | (obtain ⟨_, _, _, rfl | rfl, _⟩ := h <;> rfl) | (obtain ⟨_, ⟨_, rfl, _⟩ | ⟨_, rfl, _⟩⟩ := h <;> rfl)
theorem ok_law_over {fd : FuncData} (T : Fc K mg (Γ0 K)) (F : FunD K "_law_over" "_law_over" (defArgs (top 46)) (defBody (top 46)) (defScope (top 46)) [] [] (He.ga K "_law_over") fd)  : FnOk P w K mg base CX0 1 (He.ga K "_law_over") fd ["_law_one"] (spD K (sp_law_over (Γ0 K))) :=
  fnD F sc_law_over (ln_law_over (Γ0 K)) (fun cdv A outer s0 H E hr => dv_law_over (Γ0 K) T  cdv A outer s0 H E hr) (vc_law_over (Γ0 K))
theorem ln_law_plus (Γ : CL) : ∀ ds μ R, sp_law_plus Γ ds μ R → ds.length = 2 := by
  intro ds μ R h
  first | (unfold sp_law_plus sp_added at h; split at h <;> first | rfl | exact h.elim) | (replace h : sp_added Γ ds μ R := h; obtain ⟨_, _, rfl, _⟩ := h; rfl) | (obtain ⟨rfl, _⟩ := h <;> rfl) | (obtain ⟨_, rfl, _⟩ := h <;> rfl) | (obtain ⟨_, _, rfl, _⟩ := h <;> rfl) | (obtain ⟨_, _, _, rfl, _⟩ := h <;> rfl) | (obtain ⟨_, _, _, _, rfl, _⟩ := h <;> rfl) | (obtain ⟨_, _, _, _, _, rfl, _⟩ := h <;> rfl) | (obtain ⟨_, _, _, _, _, _, rfl, _⟩ := h <;> rfl) | (obtain ⟨_, _, _, _, _, _, _, rfl, _⟩ := h <;> rfl) | (obtain ⟨_, _, _, _, _, _, _, _, rfl, _⟩ := h <;> rfl) | (obtain ⟨rfl | rfl, _⟩ := h <;> rfl) | (obtain ⟨_, rfl | rfl, _⟩ := h <;> rfl) | (obtain ⟨_, _, rfl | rfl, _⟩ := h <;> rfl) | (obtain ⟨_, _, _, rfl | rfl, _⟩ := h <;> rfl) | (obtain ⟨_, ⟨_, rfl, _⟩ | ⟨_, rfl, _⟩⟩ := h <;> rfl)
theorem ok_law_plus {fd : FuncData} (T : Fc K mg (Γ0 K)) (F : FunD K "_law_plus" "_law_plus" (defArgs (top 47)) (defBody (top 47)) (defScope (top 47)) [] [] (He.ga K "_law_plus") fd) (G_law_lowest : FnG P w K mg base 2 "_law_lowest" (sp_law_lowest (Γ0 K))) : FnOk P w K mg base CX0 3 (He.ga K "_law_plus") fd ["_law_one", "_law_other"] (spD K (sp_law_plus (Γ0 K))) :=
  fnD F sc_law_plus (ln_law_plus (Γ0 K)) (fun cdv A outer s0 H E hr => dv_law_plus (Γ0 K) T G_law_lowest cdv A outer s0 H E hr) (vc_law_plus (Γ0 K))
theorem ln_check_spot (Γ : CL) : ∀ ds μ R, sp_check_spot Γ ds μ R → ds.length = 1 := by
  intro ds μ R h
  first | (unfold sp_check_spot at h; split at h <;> first | rfl | exact h.elim) | (obtain ⟨rfl, _⟩ := h <;> rfl) | (obtain ⟨_, rfl, _⟩ := h <;> rfl) | (obtain ⟨_, _, rfl, _⟩ := h <;> rfl) | (obtain ⟨_, _, _, rfl, _⟩ := h <;> rfl) | (obtain ⟨_, _, _, _, rfl, _⟩ := h <;> rfl) | (obtain ⟨_, _, _, _, _, rfl, _⟩ := h <;> rfl) | (obtain ⟨_, _, _, _, _, _, rfl, _⟩ := h <;> rfl) | (obtain ⟨_, _, _, _, _, _, _, rfl, _⟩ := h <;> rfl) | (obtain ⟨_, _, _, _, _, _, _, _, rfl, _⟩ := h <;> rfl) | (obtain ⟨rfl | rfl, _⟩ := h <;> rfl) | (obtain ⟨_, rfl | rfl, _⟩ := h <;> rfl) | (obtain ⟨_, _, rfl | rfl, _⟩ := h <;> rfl) | (obtain ⟨_, _, _, rfl | rfl, _⟩ := h <;> rfl) | (obtain ⟨_, ⟨_, rfl, _⟩ | ⟨_, rfl, _⟩⟩ := h <;> rfl)
theorem ok_check_spot {fd : FuncData} (T : Fc K mg (Γ0 K)) (F : FunD K "check_spot" "check_spot" (defArgs (top 30)) (defBody (top 30)) (defScope (top 30)) [] [] (He.ga K "check_spot") fd) (G_is_number : FnG P w K mg base 3 "is_number" (sp_is_number (Γ0 K))) : FnOk P w K mg base CX0 4 (He.ga K "check_spot") fd ["value"] (spD K (sp_check_spot (Γ0 K))) :=
  fnD F sc_check_spot (ln_check_spot (Γ0 K)) (fun cdv A outer s0 H E hr => dv_check_spot (Γ0 K) T G_is_number cdv A outer s0 H E hr) (vc_check_spot (Γ0 K))
theorem ln_check_stroke (Γ : CL) : ∀ ds μ R, sp_check_stroke Γ ds μ R → ds.length = 2 := by
  intro ds μ R h
  first | (unfold sp_check_stroke at h; split at h <;> first | rfl | exact h.elim) | (obtain ⟨rfl, _⟩ := h <;> rfl) | (obtain ⟨_, rfl, _⟩ := h <;> rfl) | (obtain ⟨_, _, rfl, _⟩ := h <;> rfl) | (obtain ⟨_, _, _, rfl, _⟩ := h <;> rfl) | (obtain ⟨_, _, _, _, rfl, _⟩ := h <;> rfl) | (obtain ⟨_, _, _, _, _, rfl, _⟩ := h <;> rfl) | (obtain ⟨_, _, _, _, _, _, rfl, _⟩ := h <;> rfl) | (obtain ⟨_, _, _, _, _, _, _, rfl, _⟩ := h <;> rfl) | (obtain ⟨_, _, _, _, _, _, _, _, rfl, _⟩ := h <;> rfl) | (obtain ⟨rfl | rfl, _⟩ := h <;> rfl) | (obtain ⟨_, rfl | rfl, _⟩ := h <;> rfl) | (obtain ⟨_, _, rfl | rfl, _⟩ := h <;> rfl) | (obtain ⟨_, _, _, rfl | rfl, _⟩ := h <;> rfl) | (obtain ⟨_, ⟨_, rfl, _⟩ | ⟨_, rfl, _⟩⟩ := h <;> rfl)
theorem ok_check_stroke {fd : FuncData} (T : Fc K mg (Γ0 K)) (F : FunD K "check_stroke" "check_stroke" (defArgs (top 33)) (defBody (top 33)) (defScope (top 33)) [] [] (He.ga K "check_stroke") fd) (G_check_spot : FnG P w K mg base 4 "check_spot" (sp_check_spot (Γ0 K))) : FnOk P w K mg base CX0 5 (He.ga K "check_stroke") fd ["stroke", "index"] (spD K (sp_check_stroke (Γ0 K))) :=
  fnD F sc_check_stroke (ln_check_stroke (Γ0 K)) (fun cdv A outer s0 H E hr => dv_check_stroke (Γ0 K) T G_check_spot cdv A outer s0 H E hr) (vc_check_stroke (Γ0 K))
theorem ln_area (Γ : CL) : ∀ ds μ R, sp_area Γ ds μ R → ds.length = 1 := by
  intro ds μ R h
  first | (unfold sp_area at h; split at h <;> first | rfl | exact h.elim) | (obtain ⟨rfl, _⟩ := h <;> rfl) | (obtain ⟨_, rfl, _⟩ := h <;> rfl) | (obtain ⟨_, _, rfl, _⟩ := h <;> rfl) | (obtain ⟨_, _, _, rfl, _⟩ := h <;> rfl) | (obtain ⟨_, _, _, _, rfl, _⟩ := h <;> rfl) | (obtain ⟨_, _, _, _, _, rfl, _⟩ := h <;> rfl) | (obtain ⟨_, _, _, _, _, _, rfl, _⟩ := h <;> rfl) | (obtain ⟨_, _, _, _, _, _, _, rfl, _⟩ := h <;> rfl) | (obtain ⟨_, _, _, _, _, _, _, _, rfl, _⟩ := h <;> rfl) | (obtain ⟨rfl | rfl, _⟩ := h <;> rfl) | (obtain ⟨_, rfl | rfl, _⟩ := h <;> rfl) | (obtain ⟨_, _, rfl | rfl, _⟩ := h <;> rfl) | (obtain ⟨_, _, _, rfl | rfl, _⟩ := h <;> rfl) | (obtain ⟨_, ⟨_, rfl, _⟩ | ⟨_, rfl, _⟩⟩ := h <;> rfl)
theorem ok_area {fd : FuncData} (T : Fc K mg (Γ0 K)) (F : FunD K "area" "area" (defArgs (top 35)) (defBody (top 35)) (defScope (top 35)) [] [] (He.ga K "area") fd) (G_check_stroke : FnG P w K mg base 5 "check_stroke" (sp_check_stroke (Γ0 K))) (G_scaled : FnG P w K mg base 3 "scaled" (sp_scaled (Γ0 K))) (G_ratio : FnG P w K mg base 2 "ratio" (sp_ratio (Γ0 K))) : FnOk P w K mg base CX0 6 (He.ga K "area") fd ["stroke"] (spD K (sp_area (Γ0 K))) :=
  fnD F sc_area (ln_area (Γ0 K)) (fun cdv A outer s0 H E hr => dv_area (Γ0 K) T G_check_stroke G_scaled G_ratio cdv A outer s0 H E hr) (vc_area (Γ0 K))
theorem ln_law_equal (Γ : CL) (m : Nat) : ∀ ds μ R, sp_law_equal Γ (m + 1) ds μ R → ds.length = 2 := by
  intro ds μ R h
  replace h : eqSp m ds μ R := h
  unfold eqSp at h
  split at h <;> first | rfl | exact h.elim
theorem ok_law_equal {fd : FuncData} (T : Fc K mg (Γ0 K)) (F : FunD K "_law_equal" "_law_equal" (defArgs (top 48)) (defBody (top 48)) (defScope (top 48)) [] [] (He.ga K "_law_equal") fd) {k m : Nat} (G_law_equal : FnG P w K mg base k "_law_equal" (sp_law_equal (Γ0 K) m)) : FnOk P w K mg base CX0 (k + 1) (He.ga K "_law_equal") fd ["_law_actual", "_law_expected"] (spD K (sp_law_equal (Γ0 K) (m + 1))) :=
  fnD F sc_law_equal (ln_law_equal (Γ0 K) m) (fun cdv A outer s0 H E hr => dv_law_equal (Γ0 K) T G_law_equal cdv A outer s0 H E hr) (vc_law_equal (Γ0 K) m)
theorem ln_law_turnT (Γ : CL) : ∀ ds μ R, sp_law_turnT Γ ds μ R → ds.length = 1 := by
  intro ds μ R h
  first | (unfold sp_law_turnT at h; split at h <;> first | rfl | exact h.elim) | (obtain ⟨rfl, _⟩ := h <;> rfl) | (obtain ⟨_, rfl, _⟩ := h <;> rfl) | (obtain ⟨_, _, rfl, _⟩ := h <;> rfl) | (obtain ⟨_, _, _, rfl, _⟩ := h <;> rfl) | (obtain ⟨_, _, _, _, rfl, _⟩ := h <;> rfl) | (obtain ⟨_, _, _, _, _, rfl, _⟩ := h <;> rfl) | (obtain ⟨_, _, _, _, _, _, rfl, _⟩ := h <;> rfl) | (obtain ⟨_, _, _, _, _, _, _, rfl, _⟩ := h <;> rfl) | (obtain ⟨_, _, _, _, _, _, _, _, rfl, _⟩ := h <;> rfl) | (obtain ⟨rfl | rfl, _⟩ := h <;> rfl) | (obtain ⟨_, rfl | rfl, _⟩ := h <;> rfl) | (obtain ⟨_, _, rfl | rfl, _⟩ := h <;> rfl) | (obtain ⟨_, _, _, rfl | rfl, _⟩ := h <;> rfl) | (obtain ⟨_, ⟨_, rfl, _⟩ | ⟨_, rfl, _⟩⟩ := h <;> rfl)
theorem ok_law_turnT {fd : FuncData} (T : Fc K mg (Γ0 K)) (F : FunD K "_law_turn" "_law_turn" (defArgs (top 49)) (defBody (top 49)) (defScope (top 49)) [] [] (He.ga K "_law_turn") fd) (G_law_below : FnG P w K mg base 1 "_law_below" (sp_law_below (Γ0 K))) : FnOk P w K mg base CX0 2 (He.ga K "_law_turn") fd ["_law_d"] (spD K (sp_law_turnT (Γ0 K))) :=
  fnD F sc_law_turnT (ln_law_turnT (Γ0 K)) (fun cdv A outer s0 H E hr => dv_law_turnT (Γ0 K) T G_law_below cdv A outer s0 H E hr) (vc_law_turnT (Γ0 K))
theorem ln_law_toldT (Γ : CL) : ∀ ds μ R, sp_law_toldT Γ ds μ R → ds.length = 1 := by
  intro ds μ R h
  first | (unfold sp_law_toldT at h; split at h <;> first | rfl | exact h.elim) | (obtain ⟨rfl, _⟩ := h <;> rfl) | (obtain ⟨_, rfl, _⟩ := h <;> rfl) | (obtain ⟨_, _, rfl, _⟩ := h <;> rfl) | (obtain ⟨_, _, _, rfl, _⟩ := h <;> rfl) | (obtain ⟨_, _, _, _, rfl, _⟩ := h <;> rfl) | (obtain ⟨_, _, _, _, _, rfl, _⟩ := h <;> rfl) | (obtain ⟨_, _, _, _, _, _, rfl, _⟩ := h <;> rfl) | (obtain ⟨_, _, _, _, _, _, _, rfl, _⟩ := h <;> rfl) | (obtain ⟨_, _, _, _, _, _, _, _, rfl, _⟩ := h <;> rfl) | (obtain ⟨rfl | rfl, _⟩ := h <;> rfl) | (obtain ⟨_, rfl | rfl, _⟩ := h <;> rfl) | (obtain ⟨_, _, rfl | rfl, _⟩ := h <;> rfl) | (obtain ⟨_, _, _, rfl | rfl, _⟩ := h <;> rfl) | (obtain ⟨_, ⟨_, rfl, _⟩ | ⟨_, rfl, _⟩⟩ := h <;> rfl)
theorem ok_law_toldT {fd : FuncData} (T : Fc K mg (Γ0 K)) (F : FunD K "_law_told" "_law_told" (defArgs (top 50)) (defBody (top 50)) (defScope (top 50)) [] [] (He.ga K "_law_told") fd) (G_law_below : FnG P w K mg base 1 "_law_below" (sp_law_below (Γ0 K))) (G_law_spotT : FnG P w K mg base 3 "_law_spot" (sp_law_spotT (Γ0 K))) (G_law_turnT : FnG P w K mg base 2 "_law_turn" (sp_law_turnT (Γ0 K))) : FnOk P w K mg base CX0 4 (He.ga K "_law_told") fd ["_law_d"] (spD K (sp_law_toldT (Γ0 K))) :=
  fnD F sc_law_toldT (ln_law_toldT (Γ0 K)) (fun cdv A outer s0 H E hr => dv_law_toldT (Γ0 K) T G_law_below G_law_spotT G_law_turnT cdv A outer s0 H E hr) (vc_law_toldT (Γ0 K))
theorem ln_law_carried (Γ : CL) : ∀ ds μ R, sp_law_carried Γ ds μ R → ds.length = 2 := by
  intro ds μ R h
  first | (unfold sp_law_carried at h; split at h <;> first | rfl | exact h.elim) | (obtain ⟨rfl, _⟩ := h <;> rfl) | (obtain ⟨_, rfl, _⟩ := h <;> rfl) | (obtain ⟨_, _, rfl, _⟩ := h <;> rfl) | (obtain ⟨_, _, _, rfl, _⟩ := h <;> rfl) | (obtain ⟨_, _, _, _, rfl, _⟩ := h <;> rfl) | (obtain ⟨_, _, _, _, _, rfl, _⟩ := h <;> rfl) | (obtain ⟨_, _, _, _, _, _, rfl, _⟩ := h <;> rfl) | (obtain ⟨_, _, _, _, _, _, _, rfl, _⟩ := h <;> rfl) | (obtain ⟨_, _, _, _, _, _, _, _, rfl, _⟩ := h <;> rfl) | (obtain ⟨rfl | rfl, _⟩ := h <;> rfl) | (obtain ⟨_, rfl | rfl, _⟩ := h <;> rfl) | (obtain ⟨_, _, rfl | rfl, _⟩ := h <;> rfl) | (obtain ⟨_, _, _, rfl | rfl, _⟩ := h <;> rfl) | (obtain ⟨_, ⟨_, rfl, _⟩ | ⟨_, rfl, _⟩⟩ := h <;> rfl)
theorem ok_law_carried {fd : FuncData} (T : Fc K mg (Γ0 K)) (F : FunD K "_law_carried" "_law_carried" (defArgs (top 51)) (defBody (top 51)) (defScope (top 51)) [] [] (He.ga K "_law_carried") fd) (G_law_plus : FnG P w K mg base 3 "_law_plus" (sp_law_plus (Γ0 K))) (G_law_times : FnG P w K mg base 3 "_law_times" (sp_law_times (Γ0 K))) (G_law_over : FnG P w K mg base 1 "_law_over" (sp_law_over (Γ0 K))) : FnOk P w K mg base CX0 4 (He.ga K "_law_carried") fd ["_law_told_here", "_law_spot_here"] (spD K (sp_law_carried (Γ0 K))) :=
  fnD F sc_law_carried (ln_law_carried (Γ0 K)) (fun cdv A outer s0 H E hr => dv_law_carried (Γ0 K) T G_law_plus G_law_times G_law_over cdv A outer s0 H E hr) (vc_law_carried (Γ0 K))
theorem ln_law_ratio (Γ : CL) : ∀ ds μ R, sp_law_ratio Γ ds μ R → ds.length = 2 := by
  intro ds μ R h
  first | (unfold sp_law_ratio at h; split at h <;> first | rfl | exact h.elim) | (obtain ⟨rfl, _⟩ := h <;> rfl) | (obtain ⟨_, rfl, _⟩ := h <;> rfl) | (obtain ⟨_, _, rfl, _⟩ := h <;> rfl) | (obtain ⟨_, _, _, rfl, _⟩ := h <;> rfl) | (obtain ⟨_, _, _, _, rfl, _⟩ := h <;> rfl) | (obtain ⟨_, _, _, _, _, rfl, _⟩ := h <;> rfl) | (obtain ⟨_, _, _, _, _, _, rfl, _⟩ := h <;> rfl) | (obtain ⟨_, _, _, _, _, _, _, rfl, _⟩ := h <;> rfl) | (obtain ⟨_, _, _, _, _, _, _, _, rfl, _⟩ := h <;> rfl) | (obtain ⟨rfl | rfl, _⟩ := h <;> rfl) | (obtain ⟨_, rfl | rfl, _⟩ := h <;> rfl) | (obtain ⟨_, _, rfl | rfl, _⟩ := h <;> rfl) | (obtain ⟨_, _, _, rfl | rfl, _⟩ := h <;> rfl) | (obtain ⟨_, ⟨_, rfl, _⟩ | ⟨_, rfl, _⟩⟩ := h <;> rfl)
theorem ok_law_ratio {fd : FuncData} (T : Fc K mg (Γ0 K)) (F : FunD K "_law_ratio" "_law_ratio" (defArgs (top 52)) (defBody (top 52)) (defScope (top 52)) [] [] (He.ga K "_law_ratio") fd) (G_law_lowest : FnG P w K mg base 2 "_law_lowest" (sp_law_lowest (Γ0 K))) : FnOk P w K mg base CX0 3 (He.ga K "_law_ratio") fd ["_law_p", "_law_q"] (spD K (sp_law_ratio (Γ0 K))) :=
  fnD F sc_law_ratio (ln_law_ratio (Γ0 K)) (fun cdv A outer s0 H E hr => dv_law_ratio (Γ0 K) T G_law_lowest cdv A outer s0 H E hr) (vc_law_ratio (Γ0 K))
theorem ln_law_size (Γ : CL) : ∀ ds μ R, sp_law_size Γ ds μ R → ds.length = 1 := by
  intro ds μ R h
  first | (unfold sp_law_size at h; split at h <;> first | rfl | exact h.elim) | (obtain ⟨rfl, _⟩ := h <;> rfl) | (obtain ⟨_, rfl, _⟩ := h <;> rfl) | (obtain ⟨_, _, rfl, _⟩ := h <;> rfl) | (obtain ⟨_, _, _, rfl, _⟩ := h <;> rfl) | (obtain ⟨_, _, _, _, rfl, _⟩ := h <;> rfl) | (obtain ⟨_, _, _, _, _, rfl, _⟩ := h <;> rfl) | (obtain ⟨_, _, _, _, _, _, rfl, _⟩ := h <;> rfl) | (obtain ⟨_, _, _, _, _, _, _, rfl, _⟩ := h <;> rfl) | (obtain ⟨_, _, _, _, _, _, _, _, rfl, _⟩ := h <;> rfl) | (obtain ⟨rfl | rfl, _⟩ := h <;> rfl) | (obtain ⟨_, rfl | rfl, _⟩ := h <;> rfl) | (obtain ⟨_, _, rfl | rfl, _⟩ := h <;> rfl) | (obtain ⟨_, _, _, rfl | rfl, _⟩ := h <;> rfl) | (obtain ⟨_, ⟨_, rfl, _⟩ | ⟨_, rfl, _⟩⟩ := h <;> rfl)
theorem ok_law_size {fd : FuncData} (T : Fc K mg (Γ0 K)) (F : FunD K "_law_size" "_law_size" (defArgs (top 53)) (defBody (top 53)) (defScope (top 53)) [] [] (He.ga K "_law_size") fd) (G_law_ratio : FnG P w K mg base 3 "_law_ratio" (sp_law_ratio (Γ0 K))) : FnOk P w K mg base CX0 4 (He.ga K "_law_size") fd ["_law_one"] (spD K (sp_law_size (Γ0 K))) :=
  fnD F sc_law_size (ln_law_size (Γ0 K)) (fun cdv A outer s0 H E hr => dv_law_size (Γ0 K) T G_law_ratio cdv A outer s0 H E hr) (vc_law_size (Γ0 K))
theorem ok_law {fd : FuncData} (T : Fc K mg (Γ0 K)) (F : FunD K "law" "law" (defArgs (top 54)) (defBody (top 54)) (defScope (top 54)) [] [] (He.ga K "law") fd) (TB : LamX.TabB base mg (lawC K) (lawP K)) (G_law_random : FnG P w K mg base 1 "_law_random" (sp_law_random (Γ0 K))) (G_law_strokeH : FnG P w K mg base 4 "_law_stroke" (sp_law_strokeH (Γ0 K))) (G_law_times : FnG P w K mg base 3 "_law_times" (sp_law_times (Γ0 K))) (G_law_over : FnG P w K mg base 1 "_law_over" (sp_law_over (Γ0 K))) (G_law_plus : FnG P w K mg base 3 "_law_plus" (sp_law_plus (Γ0 K))) (G_law_lowest : FnG P w K mg base 2 "_law_lowest" (sp_law_lowest (Γ0 K))) (G_area : FnG P w K mg base 6 "area" (sp_area (Γ0 K))) (G_law_equal : FnG P w K mg base 5 "_law_equal" (sp_law_equal (Γ0 K) 5)) (G_law_below : FnG P w K mg base 1 "_law_below" (sp_law_below (Γ0 K))) (G_law_toldT : FnG P w K mg base 4 "_law_told" (sp_law_toldT (Γ0 K))) (G_law_carried : FnG P w K mg base 4 "_law_carried" (sp_law_carried (Γ0 K))) (G_law_size : FnG P w K mg base 4 "_law_size" (sp_law_size (Γ0 K))) (G_law_ratio : FnG P w K mg base 3 "_law_ratio" (sp_law_ratio (Γ0 K))) (G_err : ErrD P w K mg base "_law_error_of" (resE (Γ0 K) errL)) (GX_area : FnGX P w K mg base 6 "area" (spx_area (Γ0 K))) : FnOk P w K mg base CX0 9 (He.ga K "law") fd ["_law_script"] (spD K (lawT (lawP K) lamQ)) :=
  fnDL F rfl sc_law (fun ds μ R h => by obtain ⟨ns, rfl, _⟩ := h; rfl) (fun A outer s0 H E hr => dv_law (Γ0 K) T G_law_random G_law_strokeH G_law_times G_law_over G_law_plus G_law_lowest G_area G_law_equal G_law_below G_law_toldT G_law_carried G_law_size G_law_ratio G_err GX_area TB A outer s0 H E hr) (vc_law (Γ0 K))
theorem lnx_check_spot (Γ : CL) : ∀ ds μ R re, spx_check_spot Γ ds μ R re → ds.length = 1 := by
  intro ds μ R re h
  first | (unfold spx_check_spot at h; split at h <;> first | rfl | exact h.elim) | (obtain ⟨rfl, _⟩ := h <;> rfl) | (obtain ⟨_, rfl, _⟩ := h <;> rfl) | (obtain ⟨_, _, rfl, _⟩ := h <;> rfl) | (obtain ⟨_, _, _, rfl, _⟩ := h <;> rfl) | (obtain ⟨_, _, _, _, rfl, _⟩ := h <;> rfl) | (obtain ⟨_, _, _, _, _, rfl, _⟩ := h <;> rfl) | (obtain ⟨_, _, _, _, _, _, rfl, _⟩ := h <;> rfl) | (obtain ⟨_, _, _, _, _, _, _, rfl, _⟩ := h <;> rfl) | (obtain ⟨_, _, _, _, _, _, _, _, rfl, _⟩ := h <;> rfl) | (rcases h with ⟨_, _, rfl, _⟩ | ⟨_, _, rfl, _⟩ | ⟨_, _, _, _, rfl, _⟩ <;> rfl) | (rcases h with ⟨_, _, rfl, _⟩ | ⟨_, rfl, _⟩ <;> rfl)
theorem okx_check_spot {fd : FuncData} (T : Fc K mg (Γ0 K)) (F : FunD K "check_spot" "check_spot" (defArgs (top 30)) (defBody (top 30)) (defScope (top 30)) [] [] (He.ga K "check_spot") fd) (G_is_number : FnG P w K mg base 3 "is_number" (sp_is_number (Γ0 K))) : FnOk P w K mg base (L2.CX P w) 4 (He.ga K "check_spot") fd ["value"] (spX K (spx_check_spot (Γ0 K))) :=
  fnDX F sc_check_spot (lnx_check_spot (Γ0 K)) (fun cdv A outer s0 H E hr tk => dvx_check_spot (Γ0 K) T G_is_number cdv A outer s0 H E hr tk) (vcx_check_spot (Γ0 K))
theorem okxn_check_spot {fd : FuncData} (T : Fc K mg (Γ0 K)) (F : FunD K "check_spot" "check_spot" (defArgs (top 30)) (defBody (top 30)) (defScope (top 30)) [] [] (He.ga K "check_spot") fd) (G_is_number : FnG P w K mg base 3 "is_number" (sp_is_number (Γ0 K))) : FnOk P w K mg base (L2N.CX P w) 4 (He.ga K "check_spot") fd ["value"] (spX K (spx_check_spot (Γ0 K))) :=
  fnDXN F sc_check_spot (lnx_check_spot (Γ0 K)) (fun cdv A outer s0 H E hr tk => dvxn_check_spot (Γ0 K) T G_is_number cdv A outer s0 H E hr tk) (vcx_check_spot (Γ0 K))
theorem lnx_check_stroke (Γ : CL) : ∀ ds μ R re, spx_check_stroke Γ ds μ R re → ds.length = 2 := by
  intro ds μ R re h
  first | (unfold spx_check_stroke at h; split at h <;> first | rfl | exact h.elim) | (obtain ⟨rfl, _⟩ := h <;> rfl) | (obtain ⟨_, rfl, _⟩ := h <;> rfl) | (obtain ⟨_, _, rfl, _⟩ := h <;> rfl) | (obtain ⟨_, _, _, rfl, _⟩ := h <;> rfl) | (obtain ⟨_, _, _, _, rfl, _⟩ := h <;> rfl) | (obtain ⟨_, _, _, _, _, rfl, _⟩ := h <;> rfl) | (obtain ⟨_, _, _, _, _, _, rfl, _⟩ := h <;> rfl) | (obtain ⟨_, _, _, _, _, _, _, rfl, _⟩ := h <;> rfl) | (obtain ⟨_, _, _, _, _, _, _, _, rfl, _⟩ := h <;> rfl) | (rcases h with ⟨_, _, rfl, _⟩ | ⟨_, _, rfl, _⟩ | ⟨_, _, _, _, rfl, _⟩ <;> rfl) | (rcases h with ⟨_, _, rfl, _⟩ | ⟨_, rfl, _⟩ <;> rfl)
theorem okx_check_stroke {fd : FuncData} (T : Fc K mg (Γ0 K)) (F : FunD K "check_stroke" "check_stroke" (defArgs (top 33)) (defBody (top 33)) (defScope (top 33)) [] [] (He.ga K "check_stroke") fd) (GXA_InvalidStroke : ExcA P w K mg base 1 "InvalidStroke" ((Γ0 K).gx "InvalidStroke") ["index"]) (GXH_InvalidStroke : ExcAH P w K mg base 1 "InvalidStroke" ((Γ0 K).gx "InvalidStroke") ["index"]) (GN_check_spot : FnGXN P w K mg base 4 "check_spot" (spx_check_spot (Γ0 K))) : FnOk P w K mg base (L2.CX P w) 5 (He.ga K "check_stroke") fd ["stroke", "index"] (spX K (spx_check_stroke (Γ0 K))) :=
  fnDX F sc_check_stroke (lnx_check_stroke (Γ0 K)) (fun cdv A outer s0 H E hr tk => dvx_check_stroke (Γ0 K) T GXA_InvalidStroke GXH_InvalidStroke GN_check_spot cdv A outer s0 H E hr tk) (vcx_check_stroke (Γ0 K))
theorem lnx_area (Γ : CL) : ∀ ds μ R re, spx_area Γ ds μ R re → ds.length = 1 := by
  intro ds μ R re h
  first | (unfold spx_area at h; split at h <;> first | rfl | exact h.elim) | (obtain ⟨rfl, _⟩ := h <;> rfl) | (obtain ⟨_, rfl, _⟩ := h <;> rfl) | (obtain ⟨_, _, rfl, _⟩ := h <;> rfl) | (obtain ⟨_, _, _, rfl, _⟩ := h <;> rfl) | (obtain ⟨_, _, _, _, rfl, _⟩ := h <;> rfl) | (obtain ⟨_, _, _, _, _, rfl, _⟩ := h <;> rfl) | (obtain ⟨_, _, _, _, _, _, rfl, _⟩ := h <;> rfl) | (obtain ⟨_, _, _, _, _, _, _, rfl, _⟩ := h <;> rfl) | (obtain ⟨_, _, _, _, _, _, _, _, rfl, _⟩ := h <;> rfl) | (rcases h with ⟨_, _, rfl, _⟩ | ⟨_, _, rfl, _⟩ | ⟨_, _, _, _, rfl, _⟩ <;> rfl) | (rcases h with ⟨_, _, rfl, _⟩ | ⟨_, rfl, _⟩ <;> rfl)
theorem okx_area {fd : FuncData} (T : Fc K mg (Γ0 K)) (F : FunD K "area" "area" (defArgs (top 35)) (defBody (top 35)) (defScope (top 35)) [] [] (He.ga K "area") fd) (G_scaled : FnG P w K mg base 3 "scaled" (sp_scaled (Γ0 K))) (G_ratio : FnG P w K mg base 2 "ratio" (sp_ratio (Γ0 K))) (GX_check_stroke : FnGX P w K mg base 5 "check_stroke" (spx_check_stroke (Γ0 K))) : FnOk P w K mg base (L2.CX P w) 6 (He.ga K "area") fd ["stroke"] (spX K (spx_area (Γ0 K))) :=
  fnDX F sc_area (lnx_area (Γ0 K)) (fun cdv A outer s0 H E hr tk => dvx_area (Γ0 K) T G_scaled G_ratio GX_check_stroke cdv A outer s0 H E hr tk) (vcx_area (Γ0 K))
end
theorem okA_InvalidStroke {P : Program} {w : World} {K : PySem.W.Frag} {mg : Str → Option Value} {base : Heap} (g : GotY P K mg y_InvalidStroke) (hg : mg "InvalidStroke" = some (.ref (y_InvalidStroke.C K))) : ExcA P w K mg base 1 "InvalidStroke" (y_InvalidStroke.C K) ["index"] := by
  obtain ⟨oc, od, osl, kV, doc, pm, an, cd, ct, lk, hcd, T⟩ := g.lk
  have sc : ScK ["self", "index"] ["self", "index"] (defScope (inClass (top 6) 0)) := ⟨by decide, rfl, by decide +kernel, rfl, rfl, rfl, by decide +kernel, by decide +kernel⟩
  exact ⟨_, _, ["self", "index"], T.oex, g.init, g.typ, fn_init lk hcd sc T rfl rfl rfl rfl rfl (fun _ _ => rfl) (fun _ => rfl) (fun _ => rfl) g.no (by decide) (by decide) (fun A outer s H E => pss_cons (ps_ost (pe_var (i := 0) rfl (Or.inl rfl)) (pe_var (i := 1) rfl (Or.inl rfl))) (pss_nil)), GotY.binds (P := P) (mg := mg) (d := y_InvalidStroke) (fun us hl => match us, hl with | [_, _], _ => rfl), hg⟩
theorem okAH_InvalidStroke {P : Program} {w : World} {K : PySem.W.Frag} {mg : Str → Option Value} {base : Heap} (g : GotY P K mg y_InvalidStroke) (hg : mg "InvalidStroke" = some (.ref (y_InvalidStroke.C K))) : ExcAH P w K mg base 1 "InvalidStroke" (y_InvalidStroke.C K) ["index"] := by
  obtain ⟨oc, od, osl, kV, doc, pm, an, cd, ct, lk, hcd, T⟩ := g.lk
  have sc : ScK ["self", "index"] ["self", "index"] (defScope (inClass (top 6) 0)) := ⟨by decide, rfl, by decide +kernel, rfl, rfl, rfl, by decide +kernel, by decide +kernel⟩
  exact ⟨_, _, ["self", "index"], T.oex, g.init, g.typ, fn_initH lk hcd sc T rfl rfl rfl rfl rfl (fun _ _ => rfl) (fun _ => rfl) (fun _ => rfl) g.no (by decide) (by decide) (fun A outer s H E p => pss_cons (ps_ost (pe_var (i := 0) rfl (Or.inl rfl)) (pe_var (i := 1) rfl (Or.inl rfl))) (pss_nil)), GotY.binds (P := P) (mg := mg) (d := y_InvalidStroke) (fun us hl => match us, hl with | [_, _], _ => rfl), hg⟩
theorem fc {K : PySem.W.Frag} {h : Heap} {mg : Str → Option Value} (X : K.In h) (G : h.Ns mainGlobals mg) (c : obsX xb fa fn fx K = valX fn fx) : Fc K mg (Γ0 K) :=
  let d := says_d c
  { f_abs := He.free_ok X G (d.fact 0 (f := .free "abs") rfl),
    f_len := He.free_ok X G (d.fact 1 (f := .free "len") rfl),
    f_range := He.free_ok X G (d.fact 2 (f := .free "range") rfl),
    f_bool := He.free_ok X G (d.fact 3 (f := .free "bool") rfl),
    f_int := He.free_ok X G (d.fact 4 (f := .free "int") rfl),
    f_isinstance := He.free_ok X G (d.fact 5 (f := .free "isinstance") rfl),
    f_all := He.free_ok X G (d.fact 6 (f := .free "all") rfl),
    f_tuple := He.free_ok X G (d.fact 7 (f := .free "tuple") rfl),
    c_MAX_SPOTS := (let ⟨t, e⟩ := He.int_ok X G (d.fact 8 (f := .int "MAX_SPOTS" 12) rfl); ⟨.int _ t, .int _, e, ⟨t, rfl⟩, fun S => .int _⟩),
    f_any := He.free_ok X G (d.fact 9 (f := .free "any") rfl),
    f_zip := He.free_ok X G (d.fact 10 (f := .free "zip") rfl),
    f_list := He.free_ok X G (d.fact 11 (f := .free "list") rfl),
    f_str := He.free_ok X G (d.fact 12 (f := .free "str") rfl),
    ek_InvalidStroke := errAB_ok (says_b c 0 (b := fun K => errAB K (He.ga K "InvalidStroke") (He.ga K "CopyError") (fun s => He.ga K s) 4) rfl),
    ek_OpenStroke := errAB_ok (says_b c 1 (b := fun K => errAB K (He.ga K "OpenStroke") (He.ga K "CopyError") (fun s => He.ga K s) 5) rfl),
    x_InvalidSpot := ⟨⟨_, _, _, _, PySem.F.excBase_ValueError, (He.exc_ok (d.fact 14 (f := .exc "InvalidSpot") rfl)).1⟩, He.glo_ok X G (d.fact 13 (f := .glo "InvalidSpot") rfl), (He.exc_ok (d.fact 14 (f := .exc "InvalidSpot") rfl)).2.1, (He.exc_ok (d.fact 14 (f := .exc "InvalidSpot") rfl)).2.2.1, (He.exc_ok (d.fact 14 (f := .exc "InvalidSpot") rfl)).2.2.2⟩,
    gx_CopyError := He.glo_ok X G (d.fact 15 (f := .glo "CopyError") rfl),
    xm_InvalidSpot := of_decide_eq_true (says_b c 2 (b := fun K => decide (PySem.W.exmOne K (.ref (He.ga K "InvalidSpot")) (.ref (He.ga K "CopyError")) = some true)) rfl),
    x_OpenStroke := ⟨⟨_, _, _, _, PySem.F.excBase_ValueError, (He.exc_ok (d.fact 17 (f := .exc "OpenStroke") rfl)).1⟩, He.glo_ok X G (d.fact 16 (f := .glo "OpenStroke") rfl), (He.exc_ok (d.fact 17 (f := .exc "OpenStroke") rfl)).2.1, (He.exc_ok (d.fact 17 (f := .exc "OpenStroke") rfl)).2.2.1, (He.exc_ok (d.fact 17 (f := .exc "OpenStroke") rfl)).2.2.2⟩,
    f_ValueError := He.free_ok X G (d.fact 18 (f := .free "ValueError") rfl),
    gx_BadRow := He.glo_ok X G (d.fact 19 (f := .glo "BadRow") rfl),
    gx_BadText := He.glo_ok X G (d.fact 20 (f := .glo "BadText") rfl),
    gx_Contradiction := He.glo_ok X G (d.fact 21 (f := .glo "Contradiction") rfl),
    gx_InvalidBox := He.glo_ok X G (d.fact 22 (f := .glo "InvalidBox") rfl),
    gx_InvalidCode := He.glo_ok X G (d.fact 23 (f := .glo "InvalidCode") rfl),
    gx_InvalidName := He.glo_ok X G (d.fact 24 (f := .glo "InvalidName") rfl),
    gx_InvalidOperation := He.glo_ok X G (d.fact 25 (f := .glo "InvalidOperation") rfl),
    gx_InvalidReach := He.glo_ok X G (d.fact 26 (f := .glo "InvalidReach") rfl),
    gx_InvalidSize := He.glo_ok X G (d.fact 27 (f := .glo "InvalidSize") rfl),
    gx_InvalidSpot := He.glo_ok X G (d.fact 13 (f := .glo "InvalidSpot") rfl),
    gx_InvalidStroke := He.glo_ok X G (d.fact 28 (f := .glo "InvalidStroke") rfl),
    gx_InvalidTimes := He.glo_ok X G (d.fact 29 (f := .glo "InvalidTimes") rfl),
    gx_InvalidTurn := He.glo_ok X G (d.fact 30 (f := .glo "InvalidTurn") rfl),
    gx_NotFree := He.glo_ok X G (d.fact 31 (f := .glo "NotFree") rfl),
    gx_OpenStroke := He.glo_ok X G (d.fact 16 (f := .glo "OpenStroke") rfl),
    gx_OutOfReach := He.glo_ok X G (d.fact 32 (f := .glo "OutOfReach") rfl),
    gx_TooFew := He.glo_ok X G (d.fact 33 (f := .glo "TooFew") rfl),
    gx_TooMany := He.glo_ok X G (d.fact 34 (f := .glo "TooMany") rfl),
    gx_UnknownArm := He.glo_ok X G (d.fact 35 (f := .glo "UnknownArm") rfl),
    gx_UnknownName := He.glo_ok X G (d.fact 36 (f := .glo "UnknownName") rfl) }
theorem all {P : Program} {w : World} {K : PySem.W.Frag} {h : Heap} {mg : Str → Option Value} (X : K.In h) (G : h.Ns mainGlobals mg) (c0 : SaysU xb fa fn fx fy K) (hP : P.main.file = "/claim/cut.py") (hT : (P.main.scope.names.lookup ("super" : Str)).isSome = false) :
    ∃ fd : FuncData, mg "law" = some (.ref (He.ga K "law")) ∧ (∀ (s : Shared) (v : Value), BindsTo s fd ⟨[v], []⟩ [("_law_script", v)]) ∧ ∀ base : Heap, LamX.TabB base mg (lawC K) (lawP K) → FnOk P w K mg base CX0 9 (He.ga K "law") fd ["_law_script"] (spLawT K (lawP K)) := by
  have c := c0.1
  have T := fc X G c
  have d := says_d c
  obtain ⟨fd_law_random, F_law_random⟩ : ∃ fd, FunD K "_law_random" "_law_random" (defArgs (top 37)) (defBody (top 37)) (defScope (top 37)) [] [] (He.ga K "_law_random") fd := d.def_ 0 (d := d_law_random) rfl
  have g_law_random : mg "_law_random" = some (.ref (He.ga K "_law_random")) := He.glo_ok X G (d.fact 37 (f := .glo "_law_random") rfl)
  obtain ⟨fd_law_below, F_law_below⟩ : ∃ fd, FunD K "_law_below" "_law_below" (defArgs (top 38)) (defBody (top 38)) (defScope (top 38)) [] [] (He.ga K "_law_below") fd := d.def_ 1 (d := d_law_below) rfl
  have g_law_below : mg "_law_below" = some (.ref (He.ga K "_law_below")) := He.glo_ok X G (d.fact 38 (f := .glo "_law_below") rfl)
  obtain ⟨fd_law_step, F_law_step⟩ : ∃ fd, FunD K "_law_step" "_law_step" (defArgs (top 39)) (defBody (top 39)) (defScope (top 39)) [] [] (He.ga K "_law_step") fd := d.def_ 2 (d := d_law_step) rfl
  have g_law_step : mg "_law_step" = some (.ref (He.ga K "_law_step")) := He.glo_ok X G (d.fact 39 (f := .glo "_law_step") rfl)
  obtain ⟨fd_law_common, F_law_common⟩ : ∃ fd, FunD K "_law_common" "_law_common" (defArgs (top 40)) (defBody (top 40)) (defScope (top 40)) [] [] (He.ga K "_law_common") fd := d.def_ 3 (d := d_law_common) rfl
  have g_law_common : mg "_law_common" = some (.ref (He.ga K "_law_common")) := He.glo_ok X G (d.fact 40 (f := .glo "_law_common") rfl)
  obtain ⟨fd_law_lowest, F_law_lowest⟩ : ∃ fd, FunD K "_law_lowest" "_law_lowest" (defArgs (top 41)) (defBody (top 41)) (defScope (top 41)) [] [] (He.ga K "_law_lowest") fd := d.def_ 4 (d := d_law_lowest) rfl
  have g_law_lowest : mg "_law_lowest" = some (.ref (He.ga K "_law_lowest")) := He.glo_ok X G (d.fact 41 (f := .glo "_law_lowest") rfl)
  obtain ⟨fd_law_spotT, F_law_spotT⟩ : ∃ fd, FunD K "_law_spot" "_law_spot" (defArgs (top 42)) (defBody (top 42)) (defScope (top 42)) [] [] (He.ga K "_law_spot") fd := d.def_ 5 (d := d_law_spotT) rfl
  have g_law_spotT : mg "_law_spot" = some (.ref (He.ga K "_law_spot")) := He.glo_ok X G (d.fact 42 (f := .glo "_law_spot") rfl)
  obtain ⟨fd_law_strokeH, F_law_strokeH⟩ : ∃ fd, FunD K "_law_stroke" "_law_stroke" (defArgs (top 43)) (defBody (top 43)) (defScope (top 43)) [] [] (He.ga K "_law_stroke") fd := d.def_ 6 (d := d_law_strokeH) rfl
  have g_law_strokeH : mg "_law_stroke" = some (.ref (He.ga K "_law_stroke")) := He.glo_ok X G (d.fact 43 (f := .glo "_law_stroke") rfl)
  obtain ⟨fd_is_int, F_is_int⟩ : ∃ fd, FunD K "is_int" "is_int" (defArgs (top 23)) (defBody (top 23)) (defScope (top 23)) [] [] (He.ga K "is_int") fd := d.def_ 7 (d := d_is_int) rfl
  have g_is_int : mg "is_int" = some (.ref (He.ga K "is_int")) := He.glo_ok X G (d.fact 44 (f := .glo "is_int") rfl)
  obtain ⟨fd_common_divisor, F_common_divisor⟩ : ∃ fd, FunD K "common_divisor" "common_divisor" (defArgs (top 24)) (defBody (top 24)) (defScope (top 24)) [] [] (He.ga K "common_divisor") fd := d.def_ 8 (d := d_common_divisor) rfl
  have g_common_divisor : mg "common_divisor" = some (.ref (He.ga K "common_divisor")) := He.glo_ok X G (d.fact 45 (f := .glo "common_divisor") rfl)
  obtain ⟨fd_lowest, F_lowest⟩ : ∃ fd, FunD K "lowest" "lowest" (defArgs (top 27)) (defBody (top 27)) (defScope (top 27)) [] [] (He.ga K "lowest") fd := d.def_ 9 (d := d_lowest) rfl
  have g_lowest : mg "lowest" = some (.ref (He.ga K "lowest")) := He.glo_ok X G (d.fact 46 (f := .glo "lowest") rfl)
  obtain ⟨fd_is_number, F_is_number⟩ : ∃ fd, FunD K "is_number" "is_number" (defArgs (top 28)) (defBody (top 28)) (defScope (top 28)) [] [] (He.ga K "is_number") fd := d.def_ 10 (d := d_is_number) rfl
  have g_is_number : mg "is_number" = some (.ref (He.ga K "is_number")) := He.glo_ok X G (d.fact 47 (f := .glo "is_number") rfl)
  obtain ⟨fd_common_multiple, F_common_multiple⟩ : ∃ fd, FunD K "common_multiple" "common_multiple" (defArgs (top 25)) (defBody (top 25)) (defScope (top 25)) [] [] (He.ga K "common_multiple") fd := d.def_ 11 (d := d_common_multiple) rfl
  have g_common_multiple : mg "common_multiple" = some (.ref (He.ga K "common_multiple")) := He.glo_ok X G (d.fact 48 (f := .glo "common_multiple") rfl)
  obtain ⟨fd_scaled, F_scaled⟩ : ∃ fd, FunD K "scaled" "scaled" (defArgs (top 34)) (defBody (top 34)) (defScope (top 34)) [] [] (He.ga K "scaled") fd := d.def_ 12 (d := d_scaled) rfl
  have g_scaled : mg "scaled" = some (.ref (He.ga K "scaled")) := He.glo_ok X G (d.fact 49 (f := .glo "scaled") rfl)
  obtain ⟨fd_ratio, F_ratio⟩ : ∃ fd, FunD K "ratio" "ratio" (defArgs (top 26)) (defBody (top 26)) (defScope (top 26)) [] [] (He.ga K "ratio") fd := d.def_ 13 (d := d_ratio) rfl
  have g_ratio : mg "ratio" = some (.ref (He.ga K "ratio")) := He.glo_ok X G (d.fact 50 (f := .glo "ratio") rfl)
  obtain ⟨fd_law_times, F_law_times⟩ : ∃ fd, FunD K "_law_times" "_law_times" (defArgs (top 45)) (defBody (top 45)) (defScope (top 45)) [] [] (He.ga K "_law_times") fd := d.def_ 14 (d := d_law_times) rfl
  have g_law_times : mg "_law_times" = some (.ref (He.ga K "_law_times")) := He.glo_ok X G (d.fact 51 (f := .glo "_law_times") rfl)
  obtain ⟨fd_law_over, F_law_over⟩ : ∃ fd, FunD K "_law_over" "_law_over" (defArgs (top 46)) (defBody (top 46)) (defScope (top 46)) [] [] (He.ga K "_law_over") fd := d.def_ 15 (d := d_law_over) rfl
  have g_law_over : mg "_law_over" = some (.ref (He.ga K "_law_over")) := He.glo_ok X G (d.fact 52 (f := .glo "_law_over") rfl)
  obtain ⟨fd_law_plus, F_law_plus⟩ : ∃ fd, FunD K "_law_plus" "_law_plus" (defArgs (top 47)) (defBody (top 47)) (defScope (top 47)) [] [] (He.ga K "_law_plus") fd := d.def_ 16 (d := d_law_plus) rfl
  have g_law_plus : mg "_law_plus" = some (.ref (He.ga K "_law_plus")) := He.glo_ok X G (d.fact 53 (f := .glo "_law_plus") rfl)
  obtain ⟨fd_check_spot, F_check_spot⟩ : ∃ fd, FunD K "check_spot" "check_spot" (defArgs (top 30)) (defBody (top 30)) (defScope (top 30)) [] [] (He.ga K "check_spot") fd := d.def_ 17 (d := d_check_spot) rfl
  have g_check_spot : mg "check_spot" = some (.ref (He.ga K "check_spot")) := He.glo_ok X G (d.fact 54 (f := .glo "check_spot") rfl)
  obtain ⟨fd_check_stroke, F_check_stroke⟩ : ∃ fd, FunD K "check_stroke" "check_stroke" (defArgs (top 33)) (defBody (top 33)) (defScope (top 33)) [] [] (He.ga K "check_stroke") fd := d.def_ 18 (d := d_check_stroke) rfl
  have g_check_stroke : mg "check_stroke" = some (.ref (He.ga K "check_stroke")) := He.glo_ok X G (d.fact 55 (f := .glo "check_stroke") rfl)
  obtain ⟨fd_area, F_area⟩ : ∃ fd, FunD K "area" "area" (defArgs (top 35)) (defBody (top 35)) (defScope (top 35)) [] [] (He.ga K "area") fd := d.def_ 19 (d := d_area) rfl
  have g_area : mg "area" = some (.ref (He.ga K "area")) := He.glo_ok X G (d.fact 56 (f := .glo "area") rfl)
  obtain ⟨fd_law_equal, F_law_equal⟩ : ∃ fd, FunD K "_law_equal" "_law_equal" (defArgs (top 48)) (defBody (top 48)) (defScope (top 48)) [] [] (He.ga K "_law_equal") fd := d.def_ 20 (d := d_law_equal) rfl
  have g_law_equal : mg "_law_equal" = some (.ref (He.ga K "_law_equal")) := He.glo_ok X G (d.fact 57 (f := .glo "_law_equal") rfl)
  obtain ⟨fd_law_turnT, F_law_turnT⟩ : ∃ fd, FunD K "_law_turn" "_law_turn" (defArgs (top 49)) (defBody (top 49)) (defScope (top 49)) [] [] (He.ga K "_law_turn") fd := d.def_ 21 (d := d_law_turnT) rfl
  have g_law_turnT : mg "_law_turn" = some (.ref (He.ga K "_law_turn")) := He.glo_ok X G (d.fact 58 (f := .glo "_law_turn") rfl)
  obtain ⟨fd_law_toldT, F_law_toldT⟩ : ∃ fd, FunD K "_law_told" "_law_told" (defArgs (top 50)) (defBody (top 50)) (defScope (top 50)) [] [] (He.ga K "_law_told") fd := d.def_ 22 (d := d_law_toldT) rfl
  have g_law_toldT : mg "_law_told" = some (.ref (He.ga K "_law_told")) := He.glo_ok X G (d.fact 59 (f := .glo "_law_told") rfl)
  obtain ⟨fd_law_carried, F_law_carried⟩ : ∃ fd, FunD K "_law_carried" "_law_carried" (defArgs (top 51)) (defBody (top 51)) (defScope (top 51)) [] [] (He.ga K "_law_carried") fd := d.def_ 23 (d := d_law_carried) rfl
  have g_law_carried : mg "_law_carried" = some (.ref (He.ga K "_law_carried")) := He.glo_ok X G (d.fact 60 (f := .glo "_law_carried") rfl)
  obtain ⟨fd_law_ratio, F_law_ratio⟩ : ∃ fd, FunD K "_law_ratio" "_law_ratio" (defArgs (top 52)) (defBody (top 52)) (defScope (top 52)) [] [] (He.ga K "_law_ratio") fd := d.def_ 24 (d := d_law_ratio) rfl
  have g_law_ratio : mg "_law_ratio" = some (.ref (He.ga K "_law_ratio")) := He.glo_ok X G (d.fact 61 (f := .glo "_law_ratio") rfl)
  obtain ⟨fd_law_size, F_law_size⟩ : ∃ fd, FunD K "_law_size" "_law_size" (defArgs (top 53)) (defBody (top 53)) (defScope (top 53)) [] [] (He.ga K "_law_size") fd := d.def_ 25 (d := d_law_size) rfl
  have g_law_size : mg "_law_size" = some (.ref (He.ga K "_law_size")) := He.glo_ok X G (d.fact 62 (f := .glo "_law_size") rfl)
  obtain ⟨fd_law, F_law⟩ : ∃ fd, FunD K "law" "law" (defArgs (top 54)) (defBody (top 54)) (defScope (top 54)) [] [] (He.ga K "law") fd := d.def_ 26 (d := d_law) rfl
  have g_law : mg "law" = some (.ref (He.ga K "law")) := He.glo_ok X G (d.fact 63 (f := .glo "law") rfl)
  obtain ⟨fd_law_error_of, F_law_error_of⟩ : ∃ fd, FunD K "_law_error_of" "_law_error_of" (defArgs (top 44)) (defBody (top 44)) (defScope (top 44)) [] [] (He.ga K "_law_error_of") fd := d.def_ 27 (d := d_law_error_of) rfl
  have g_law_error_of : mg "_law_error_of" = some (.ref (He.ga K "_law_error_of")) := He.glo_ok X G (d.fact 64 (f := .glo "_law_error_of") rfl)
  have b_law := FunD.bindsA (ps := ["_law_script"]) F_law fun _ _ _ _ _ _ us hl => match us, hl with | [_], _ => rfl
  refine ⟨fd_law, g_law, fun s v => b_law s [v] rfl, fun base TB => ?_⟩
  have G_law_random : FnG P w K mg base 1 "_law_random" (sp_law_random (Γ0 K)) := ⟨_, _, _, ok_law_random T F_law_random , g_law_random, F_law_random.kp, F_law_random.bindsN fun _ _ _ _ _ _ us hl => match us, hl with | [_, _], _ => rfl⟩
  have G_law_below : FnG P w K mg base 1 "_law_below" (sp_law_below (Γ0 K)) := ⟨_, _, _, ok_law_below T F_law_below , g_law_below, F_law_below.kp, F_law_below.bindsN fun _ _ _ _ _ _ us hl => match us, hl with | [_, _], _ => rfl⟩
  have G_law_step : FnG P w K mg base 2 "_law_step" (sp_law_step (Γ0 K)) := ⟨_, _, _, ok_law_step T F_law_step G_law_below, g_law_step, F_law_step.kp, F_law_step.bindsN fun _ _ _ _ _ _ us hl => match us, hl with | [_, _], _ => rfl⟩
  have G_law_common : FnG P w K mg base 1 "_law_common" (sp_law_common (Γ0 K)) := ⟨_, _, _, ok_law_common T F_law_common , g_law_common, F_law_common.kp, F_law_common.bindsN fun _ _ _ _ _ _ us hl => match us, hl with | [_, _], _ => rfl⟩
  have G_law_lowest : FnG P w K mg base 2 "_law_lowest" (sp_law_lowest (Γ0 K)) := ⟨_, _, _, ok_law_lowest T F_law_lowest G_law_common, g_law_lowest, F_law_lowest.kp, F_law_lowest.bindsN fun _ _ _ _ _ _ us hl => match us, hl with | [_, _, _], _ => rfl⟩
  have G_law_spotT : FnG P w K mg base 3 "_law_spot" (sp_law_spotT (Γ0 K)) := ⟨_, _, _, ok_law_spotT T F_law_spotT G_law_below G_law_lowest, g_law_spotT, F_law_spotT.kp, F_law_spotT.bindsN fun _ _ _ _ _ _ us hl => match us, hl with | [_], _ => rfl⟩
  have G_law_strokeH : FnG P w K mg base 4 "_law_stroke" (sp_law_strokeH (Γ0 K)) := ⟨_, _, _, ok_law_strokeH T F_law_strokeH G_law_step G_law_below G_law_spotT, g_law_strokeH, F_law_strokeH.kp, F_law_strokeH.bindsN fun _ _ _ _ _ _ us hl => match us, hl with | [_, _], _ => rfl⟩
  have G_is_int : FnG P w K mg base 1 "is_int" (sp_is_int (Γ0 K)) := ⟨_, _, _, ok_is_int T F_is_int , g_is_int, F_is_int.kp, F_is_int.bindsN fun _ _ _ _ _ _ us hl => match us, hl with | [_], _ => rfl⟩
  have G_common_divisor : FnG P w K mg base 1 "common_divisor" (sp_common_divisor (Γ0 K)) := ⟨_, _, _, ok_common_divisor T F_common_divisor , g_common_divisor, F_common_divisor.kp, F_common_divisor.bindsN fun _ _ _ _ _ _ us hl => match us, hl with | [_, _], _ => rfl⟩
  have G_lowest : FnG P w K mg base 2 "lowest" (sp_lowest (Γ0 K)) := ⟨_, _, _, ok_lowest T F_lowest G_common_divisor, g_lowest, F_lowest.kp, F_lowest.bindsN fun _ _ _ _ _ _ us hl => match us, hl with | [_, _, _], _ => rfl⟩
  have G_is_number : FnG P w K mg base 3 "is_number" (sp_is_number (Γ0 K)) := ⟨_, _, _, ok_is_number T F_is_number G_is_int G_lowest, g_is_number, F_is_number.kp, F_is_number.bindsN fun _ _ _ _ _ _ us hl => match us, hl with | [_], _ => rfl⟩
  have G_common_multiple : FnG P w K mg base 2 "common_multiple" (sp_common_multiple (Γ0 K)) := ⟨_, _, _, ok_common_multiple T F_common_multiple G_common_divisor, g_common_multiple, F_common_multiple.kp, F_common_multiple.bindsN fun _ _ _ _ _ _ us hl => match us, hl with | [_], _ => rfl⟩
  have G_scaled : FnG P w K mg base 3 "scaled" (sp_scaled (Γ0 K)) := ⟨_, _, _, ok_scaled T F_scaled G_common_multiple, g_scaled, F_scaled.kp, F_scaled.bindsN fun _ _ _ _ _ _ us hl => match us, hl with | [_], _ => rfl⟩
  have G_ratio : FnG P w K mg base 2 "ratio" (sp_ratio (Γ0 K)) := ⟨_, _, _, ok_ratio T F_ratio G_common_divisor, g_ratio, F_ratio.kp, F_ratio.bindsN fun _ _ _ _ _ _ us hl => match us, hl with | [_, _], _ => rfl⟩
  have G_law_times : FnG P w K mg base 3 "_law_times" (sp_law_times (Γ0 K)) := ⟨_, _, _, ok_law_times T F_law_times G_law_lowest, g_law_times, F_law_times.kp, F_law_times.bindsN fun _ _ _ _ _ _ us hl => match us, hl with | [_, _], _ => rfl⟩
  have G_law_over : FnG P w K mg base 1 "_law_over" (sp_law_over (Γ0 K)) := ⟨_, _, _, ok_law_over T F_law_over , g_law_over, F_law_over.kp, F_law_over.bindsN fun _ _ _ _ _ _ us hl => match us, hl with | [_], _ => rfl⟩
  have G_law_plus : FnG P w K mg base 3 "_law_plus" (sp_law_plus (Γ0 K)) := ⟨_, _, _, ok_law_plus T F_law_plus G_law_lowest, g_law_plus, F_law_plus.kp, F_law_plus.bindsN fun _ _ _ _ _ _ us hl => match us, hl with | [_, _], _ => rfl⟩
  have G_check_spot : FnG P w K mg base 4 "check_spot" (sp_check_spot (Γ0 K)) := ⟨_, _, _, ok_check_spot T F_check_spot G_is_number, g_check_spot, F_check_spot.kp, F_check_spot.bindsN fun _ _ _ _ _ _ us hl => match us, hl with | [_], _ => rfl⟩
  have G_check_stroke : FnG P w K mg base 5 "check_stroke" (sp_check_stroke (Γ0 K)) := ⟨_, _, _, ok_check_stroke T F_check_stroke G_check_spot, g_check_stroke, F_check_stroke.kp, F_check_stroke.bindsN fun _ _ _ _ _ _ us hl => match us, hl with | [_, _], _ => rfl⟩
  have G_area : FnG P w K mg base 6 "area" (sp_area (Γ0 K)) := ⟨_, _, _, ok_area T F_area G_check_stroke G_scaled G_ratio, g_area, F_area.kp, F_area.bindsN fun _ _ _ _ _ _ us hl => match us, hl with | [_], _ => rfl⟩
  have H0_law_equal : FnG P w K mg base 0 "_law_equal" (sp_law_equal (Γ0 K) 0) := ⟨_, _, ["_law_actual", "_law_expected"], FnOk.none, g_law_equal, F_law_equal.kp, F_law_equal.bindsN fun _ _ _ _ _ _ us hl => match us, hl with | [_, _], _ => rfl⟩
  have H1_law_equal : FnG P w K mg base 1 "_law_equal" (sp_law_equal (Γ0 K) 1) := ⟨_, _, _, ok_law_equal T F_law_equal H0_law_equal, g_law_equal, F_law_equal.kp, F_law_equal.bindsN fun _ _ _ _ _ _ us hl => match us, hl with | [_, _], _ => rfl⟩
  have H2_law_equal : FnG P w K mg base 2 "_law_equal" (sp_law_equal (Γ0 K) 2) := ⟨_, _, _, ok_law_equal T F_law_equal H1_law_equal, g_law_equal, F_law_equal.kp, F_law_equal.bindsN fun _ _ _ _ _ _ us hl => match us, hl with | [_, _], _ => rfl⟩
  have H3_law_equal : FnG P w K mg base 3 "_law_equal" (sp_law_equal (Γ0 K) 3) := ⟨_, _, _, ok_law_equal T F_law_equal H2_law_equal, g_law_equal, F_law_equal.kp, F_law_equal.bindsN fun _ _ _ _ _ _ us hl => match us, hl with | [_, _], _ => rfl⟩
  have H4_law_equal : FnG P w K mg base 4 "_law_equal" (sp_law_equal (Γ0 K) 4) := ⟨_, _, _, ok_law_equal T F_law_equal H3_law_equal, g_law_equal, F_law_equal.kp, F_law_equal.bindsN fun _ _ _ _ _ _ us hl => match us, hl with | [_, _], _ => rfl⟩
  have H5_law_equal : FnG P w K mg base 5 "_law_equal" (sp_law_equal (Γ0 K) 5) := ⟨_, _, _, ok_law_equal T F_law_equal H4_law_equal, g_law_equal, F_law_equal.kp, F_law_equal.bindsN fun _ _ _ _ _ _ us hl => match us, hl with | [_, _], _ => rfl⟩
  have G_law_equal := H5_law_equal
  have G_law_turnT : FnG P w K mg base 2 "_law_turn" (sp_law_turnT (Γ0 K)) := ⟨_, _, _, ok_law_turnT T F_law_turnT G_law_below, g_law_turnT, F_law_turnT.kp, F_law_turnT.bindsN fun _ _ _ _ _ _ us hl => match us, hl with | [_], _ => rfl⟩
  have G_law_toldT : FnG P w K mg base 4 "_law_told" (sp_law_toldT (Γ0 K)) := ⟨_, _, _, ok_law_toldT T F_law_toldT G_law_below G_law_spotT G_law_turnT, g_law_toldT, F_law_toldT.kp, F_law_toldT.bindsN fun _ _ _ _ _ _ us hl => match us, hl with | [_], _ => rfl⟩
  have G_law_carried : FnG P w K mg base 4 "_law_carried" (sp_law_carried (Γ0 K)) := ⟨_, _, _, ok_law_carried T F_law_carried G_law_plus G_law_times G_law_over, g_law_carried, F_law_carried.kp, F_law_carried.bindsN fun _ _ _ _ _ _ us hl => match us, hl with | [_, _], _ => rfl⟩
  have G_law_ratio : FnG P w K mg base 3 "_law_ratio" (sp_law_ratio (Γ0 K)) := ⟨_, _, _, ok_law_ratio T F_law_ratio G_law_lowest, g_law_ratio, F_law_ratio.kp, F_law_ratio.bindsN fun _ _ _ _ _ _ us hl => match us, hl with | [_, _], _ => rfl⟩
  have G_law_size : FnG P w K mg base 4 "_law_size" (sp_law_size (Γ0 K)) := ⟨_, _, _, ok_law_size T F_law_size G_law_ratio, g_law_size, F_law_size.kp, F_law_size.bindsN fun _ _ _ _ _ _ us hl => match us, hl with | [_], _ => rfl⟩
  have GXA_InvalidStroke : ExcA P w K mg base 1 "InvalidStroke" ((Γ0 K).gx "InvalidStroke") ["index"] := okA_InvalidStroke (FnY.got (c0.2 y_InvalidStroke (by simp [fy])).2 (c0.2 y_InvalidStroke (by simp [fy])).1 hP hT (He.free_ok X G (d.fact 65 (f := .free "super") rfl))) (He.glo_ok X G (d.fact 28 (f := .glo "InvalidStroke") rfl))
  have GXH_InvalidStroke : ExcAH P w K mg base 1 "InvalidStroke" ((Γ0 K).gx "InvalidStroke") ["index"] := okAH_InvalidStroke (FnY.got (c0.2 y_InvalidStroke (by simp [fy])).2 (c0.2 y_InvalidStroke (by simp [fy])).1 hP hT (He.free_ok X G (d.fact 65 (f := .free "super") rfl))) (He.glo_ok X G (d.fact 28 (f := .glo "InvalidStroke") rfl))
  have GX_check_spot : FnGX P w K mg base 4 "check_spot" (spx_check_spot (Γ0 K)) := ⟨_, _, _, okx_check_spot T F_check_spot G_is_number, g_check_spot, F_check_spot.kp, F_check_spot.bindsN fun _ _ _ _ _ _ us hl => match us, hl with | [_], _ => rfl⟩
  have GN_check_spot : FnGXN P w K mg base 4 "check_spot" (spx_check_spot (Γ0 K)) := ⟨_, _, _, okxn_check_spot T F_check_spot G_is_number, g_check_spot, F_check_spot.kp, F_check_spot.bindsN fun _ _ _ _ _ _ us hl => match us, hl with | [_], _ => rfl⟩
  have GX_check_stroke : FnGX P w K mg base 5 "check_stroke" (spx_check_stroke (Γ0 K)) := ⟨_, _, _, okx_check_stroke T F_check_stroke GXA_InvalidStroke GXH_InvalidStroke GN_check_spot, g_check_stroke, F_check_stroke.kp, F_check_stroke.bindsN fun _ _ _ _ _ _ us hl => match us, hl with | [_, _], _ => rfl⟩
  have GX_area : FnGX P w K mg base 6 "area" (spx_area (Γ0 K)) := ⟨_, _, _, okx_area T F_area G_scaled G_ratio GX_check_stroke, g_area, F_area.kp, F_area.bindsN fun _ _ _ _ _ _ us hl => match us, hl with | [_], _ => rfl⟩
  have b_err : L2.Binds K fd_law_error_of ["_law_call"] [] := F_law_error_of.bindsN fun _ _ _ _ _ _ us hl => match us, hl with | [_], _ => rfl
  have G_errB : ∀ base : Heap, ErrD P w K mg base "_law_error_of" (resE (Γ0 K) errL) := fun base => by
    obtain ⟨oc, od, dV, kV, doc, pm, an, cdv, ct, osl, e, lk, hcd, _, _⟩ := F_law_error_of.ex
    subst e
    exact ⟨_, _, _, _, dV, kV, doc, pm, cdv, ct, oc, an, od, osl, _, "_law_call", g_law_error_of, F_law_error_of.kp, lk, hcd, b_err, sc_law_error_of, rfl, .inl rfl, by decide, by decide, fun Z q e1 e2 e3 e4 e5 hu => by
      subst e1 e2 e3 e4 e5
      exact gv_err (Γ0 Z.K) T hu q⟩
  have G_err := G_errB base
  exact (ok_law (P := P) (w := w) (base := base) T F_law TB G_law_random G_law_strokeH G_law_times G_law_over G_law_plus G_law_lowest G_area G_law_equal G_law_below G_law_toldT G_law_carried G_law_size G_law_ratio G_err GX_area).imp law_impT
end L3.K14
open PySem PySem.W PySem.Calls PyProof.Rows
theorem PySem.Challenge.cw_copyarms_k14_areas_holds : PySem.Challenge.rw_copyarms_k14_areas.Holds := by
  w_on; o_law
  refine HandSHeadRun.head_any (r := OpenLaw.row PySem.Challenge.rw_copyarms_k14_areas) (q := L3.K14.qv) (H := L3.K14.hk) (ob := L3.K14.ob) (M := 12000) (loose := L3.K14.names) (d := HandSHeadRun.topDef (OpenLaw.row PySem.Challenge.rw_copyarms_k14_areas).prog 54) (kwd := []) L3.K14.ob_eq
    (by kernel_rfl) (fun s => by kernel_rfl) L3.K14.run (by kernel_rfl) (by kernel_rfl) (by kernel_rfl) (by rfl) (by first | assumption | decide +kernel) (by decide +kernel) ⟨rfl, rfl, rfl, rfl, rfl, by decide +kernel⟩ ?hw ?hc
  case hw => w_witness2
  case hc =>
    refine L3.walk_ofTE (l := PySem.Challenge.rw_copyarms_k14_areas) (n := 63) (k := 9) (x := "_law_script") (CX := L2.CX0) rfl (by decide) (by kernel_rfl) ⟨rfl, by decide, by decide⟩ ?F (fun _ _ _ _ z => z)
    intro w mg fa h Y G hmg0
    obtain ⟨K, KX, c, h1, h2, h3⟩ := Y
    obtain ⟨fd, hg, hb, hF⟩ := L3.K14.all (P := (PySem.Challenge.rw_copyarms_k14_areas).prog) (w := w) KX G c (by kernel_rfl) (by kernel_rfl)
    have hmg : mg ("law" : PySem.Str) = some (.ref fa) := by
      have e : (HandSHeadRun.topDef (OpenLaw.row PySem.Challenge.rw_copyarms_k14_areas).prog 54).name = ("law" : PySem.Str) := by kernel_rfl
      rw [← e]
      exact hmg0
    have e := hmg.symm.trans hg
    cases e
    exact ⟨K, fd, L3.lawC K, L3.lawP K, L3.spLawT K (L3.lawP K), KX, h3, h2, codeHd_of_K KX h1, hb, fun H a ns hl ht hS => ⟨a, ns, rfl, hS, hl, ht, fun _ => rfl⟩, fun base _ _ TB => hF base TB⟩
