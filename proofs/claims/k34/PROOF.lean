import PyProof.Rows.All
import Wide.All
import OpenK.AllK
import Wide.FinOn
import HandS.ForMost
import HandS.Star
import HandS.Defaults
import HandS.MakeKwOnly
import HandS.Property
import HandS.IsInst
import HandS.Wide
import HandS.Zip
import HandS.OwnEq
import HandS.TupAny
import HandS.Lambda
import KE.KeyNested
import KE.KDictKeyed
import HandS.TryOnly
import HandS.Style
import HandS.Head0
import HandS.Head1
import HandS.Head2
import HandS.HeadEnd
import HandS.HeadHook1
import HandS.HeadHook2
import KE.GoesEnum
import KE.KRevSl
import HandS.ExcIs
import HandS.ExcOwn
import HandS.Deep
import HandS.EndTab
import HandS.HeadHook4
import KE.KDictZip
import KE.KDictItemsList
import HandS.ExcInit
import HandS.ExcField
import KE.KExcSuper
import HandS.Conv
import HandS.Spec
import KE.SortKeyHeap
import KE.KDictWalk
import HandS.DictComp
import KE.SortData
import KE.DataMinMax
import KE.KDictSum
import PyProof.Transfer
import HandS.TupSets
import HandS.Text
import HandS.Iter
import PyProof.StrOps2
import PySem.Challenge.RW_copyarms_k34_pictures
/-! ## L3a -/
set_option Elab.async false
set_option linter.all false
set_option maxRecDepth 100000
set_option maxHeartbeats 4000000
/-! A layer of values over the layer of addresses: D, what a value holds; MH, the objects that may change; every reading is a function of these alone. -/
namespace L3
open PySem PySem.Spec PyProof.Rows L2

/-! ### data -/
inductive D where
  | non | bl (b : Bool) | int (i : Int) | str (x : Str)
  | tup (ds : List D) | lst (ds : List D) | scr (ds : List D)
  | ins (C : Addr) (fs : List (Str × D)) | ref (a : Addr) | ty (n : String)

/-- a changeable object: a list, an instance -/
inductive MO where
  | lst (ds : List D)
  | ins (C : Addr) (fs : List (Str × D))
  /-- a table of code objects of one name -/
  | tab (q : Str)
  /-- a dict whose keys are ints and texts -/
  | dk (kvs : List (Key × D))
  /-- a dict whose keys are tuples: its object, its entries -/
  | dct (o : Obj) (kvs : List (D × D))

abbrev MH := Addr → Option MO
def updM (μ : MH) (a : Addr) (m : MO) : MH := fun b => if b = a then some m else μ b
def delM (μ : MH) (a : Addr) : MH := fun b => if b = a then none else μ b
theorem updM_same {μ : MH} {a : Addr} {m : MO} : updM μ a m a = some m := by unfold updM; rw [if_pos rfl]
theorem updM_ne {μ : MH} {a b : Addr} {m : MO} (h : b ≠ a) : updM μ a m b = μ b := by unfold updM; rw [if_neg h]
theorem updM_updM {μ : MH} {a : Addr} {m n : MO} : updM (updM μ a m) a n = updM μ a n := by
  funext b; unfold updM; split <;> rfl
theorem delM_same {μ : MH} {a : Addr} : delM μ a a = none := by unfold delM; rw [if_pos rfl]
theorem delM_ne {μ : MH} {a b : Addr} (h : b ≠ a) : delM μ a b = μ b := by unfold delM; rw [if_neg h]
theorem delM_updM {μ : MH} {a : Addr} {m : MO} (h : μ a = none) : delM (updM μ a m) a = μ := by
  funext b; unfold delM updM
  by_cases e : b = a
  · rw [if_pos e, e, h]
  · rw [if_neg e, if_neg e]

mutual
/-- the value v holds the data d, by the objects of S that never change -/
inductive Rep (K : PySem.W.Frag) (S : Hp) : V → D → Prop
  | non : Rep K S .non .non
  | bl (b : Bool) : Rep K S (.bl b) (.bl b)
  | int (i : Int) : Rep K S (.int i) (.int i)
  | str (x : Str) : Rep K S (.str x) (.str x)
  | tup {a : Addr} {vs : List V} {ds : List D} : SqT K S a vs → Reps K S vs ds → Rep K S (.ref a) (.tup ds)
  | lst {a : Addr} {vs : List V} {ds : List D} : S a = some (.lst vs) → Reps K S vs ds → Rep K S (.ref a) (.lst ds)
  | scr {a : Addr} {vs : List V} {ds : List D} : SqL K S a vs → Reps K S vs ds → Rep K S (.ref a) (.scr ds)
  | ins {a C dx : Addr} {vfs : List (Str × V)} {fs : List (Str × D)} : S a = some (.ins C dx vfs) → RepF K S vfs fs → Rep K S (.ref a) (.ins C fs)
  | ref (a : Addr) : Rep K S (.ref a) (.ref a)
  | ty (n : String) : Rep K S (.ty n) (.ty n)
inductive Reps (K : PySem.W.Frag) (S : Hp) : List V → List D → Prop
  | nil : Reps K S [] []
  | cons {v : V} {vs : List V} {d : D} {ds : List D} : Rep K S v d → Reps K S vs ds → Reps K S (v :: vs) (d :: ds)
inductive RepF (K : PySem.W.Frag) (S : Hp) : List (Str × V) → List (Str × D) → Prop
  | nil : RepF K S [] []
  | cons {f : Str} {v : V} {vs : List (Str × V)} {d : D} {ds : List (Str × D)} : Rep K S v d → RepF K S vs ds → RepF K S ((f, v) :: vs) ((f, d) :: ds)
end

section
variable {K : PySem.W.Frag} {S S' H H' : Hp}
theorem sqT_same {a : Addr} {xs : List V} (e : Same S S') (h : SqT K S a xs) : SqT K S' a xs := by
  rcases h with (h | ⟨o, h⟩) | h
  · exact .inl (.inl (e _ _ h))
  · exact .inl (.inr ⟨o, e _ _ h⟩)
  · exact .inr h
theorem sqL_same {a : Addr} {xs : List V} (e : Same S S') (h : SqL K S a xs) : SqL K S' a xs := e.seq h
mutual
theorem Rep.mono (e : Same S S') : ∀ {v : V} {d : D}, Rep K S v d → Rep K S' v d
  | _, _, .non => .non
  | _, _, .bl b => .bl b
  | _, _, .int i => .int i
  | _, _, .str x => .str x
  | _, _, .tup h r => .tup (sqT_same e h) (Reps.mono e r)
  | _, _, .lst h r => .lst (e _ _ h) (Reps.mono e r)
  | _, _, .scr h r => .scr (sqL_same e h) (Reps.mono e r)
  | _, _, .ins h r => .ins (e _ _ h) (RepF.mono e r)
  | _, _, .ref a => .ref a
  | _, _, .ty n => .ty n
theorem Reps.mono (e : Same S S') : ∀ {vs : List V} {ds : List D}, Reps K S vs ds → Reps K S' vs ds
  | _, _, .nil => .nil
  | _, _, .cons h r => .cons (Rep.mono e h) (Reps.mono e r)
theorem RepF.mono (e : Same S S') : ∀ {vs : List (Str × V)} {ds : List (Str × D)}, RepF K S vs ds → RepF K S' vs ds
  | _, _, .nil => .nil
  | _, _, .cons h r => .cons (Rep.mono e h) (RepF.mono e r)
end
theorem Reps.length : ∀ {vs : List V} {ds : List D}, Reps K S vs ds → vs.length = ds.length
  | _, _, .nil => rfl
  | _, _, .cons _ r => congrArg Nat.succ (Reps.length r)
theorem Reps.append : ∀ {vs ws : List V} {ds es : List D}, Reps K S vs ds → Reps K S ws es → Reps K S (vs ++ ws) (ds ++ es)
  | _, _, _, _, .nil, h => h
  | _, _, _, _, .cons h r, h2 => .cons h (Reps.append r h2)
theorem Reps.get : ∀ {vs : List V} {ds : List D} {i : Nat} {d : D}, Reps K S vs ds → ds[i]? = some d → ∃ v, vs[i]? = some v ∧ Rep K S v d
  | _, _, _, _, .nil, e => by simp at e
  | _, _, 0, _, .cons h r, e => by
    simp at e; subst e; exact ⟨_, rfl, h⟩
  | _, _, i + 1, d, .cons h r, e => by
    obtain ⟨v, h1, h2⟩ := Reps.get (i := i) (d := d) r (by simpa using e)
    exact ⟨v, by simpa using h1, h2⟩
theorem Reps.set {v : V} {d : D} (h : Rep K S v d) : ∀ {vs : List V} {ds : List D} (i : Nat), Reps K S vs ds → Reps K S (vs.set i v) (ds.set i d)
  | _, _, _, .nil => .nil
  | _, _, 0, .cons _ r => .cons h r
  | _, _, i + 1, .cons q r => .cons q (Reps.set h i r)
theorem Reps.take : ∀ {vs : List V} {ds : List D} (n : Nat), Reps K S vs ds → Reps K S (vs.take n) (ds.take n)
  | _, _, 0, _ => .nil
  | _, _, _ + 1, .nil => .nil
  | _, _, n + 1, .cons r t => .cons r (Reps.take n t)
theorem Reps.drop : ∀ {vs : List V} {ds : List D} (n : Nat), Reps K S vs ds → Reps K S (vs.drop n) (ds.drop n)
  | _, _, 0, r => r
  | _, _, _ + 1, .nil => .nil
  | _, _, n + 1, .cons _ t => Reps.drop n t
theorem Reps.eraseIdx : ∀ {vs : List V} {ds : List D} (n : Nat), Reps K S vs ds → Reps K S (vs.eraseIdx n) (ds.eraseIdx n)
  | _, _, _, .nil => .nil
  | _, _, 0, .cons _ t => t
  | _, _, n + 1, .cons r t => .cons r (Reps.eraseIdx n t)
theorem Reps.split : ∀ {vs ws : List V} {ds : List D}, Reps K S (vs ++ ws) ds → ∃ d1 d2, ds = d1 ++ d2 ∧ Reps K S vs d1 ∧ Reps K S ws d2
  | [], _, ds, h => ⟨[], ds, rfl, .nil, h⟩
  | v :: vs, ws, _, .cons h r => by
    obtain ⟨d1, d2, e, h1, h2⟩ := Reps.split r
    exact ⟨_ :: d1, d2, by rw [e]; rfl, .cons h h1, h2⟩
theorem RepF.lookup : ∀ {vs : List (Str × V)} {ds : List (Str × D)} {f : Str} {d : D}, RepF K S vs ds → ds.lookup f = some d → ∃ v, vs.lookup f = some v ∧ Rep K S v d
  | _, _, _, _, .nil, e => by cases e
  | _, _, f, d, @RepF.cons _ _ g v vs d' ds h r, e => by
    rw [List.lookup_cons] at e ⊢
    cases q : f == g with
    | true => rw [q] at e; cases e; exact ⟨v, rfl, h⟩
    | false => rw [q] at e; exact RepF.lookup r e
theorem RepF.lookup_none : ∀ {vs : List (Str × V)} {ds : List (Str × D)} {f : Str}, RepF K S vs ds → ds.lookup f = none → vs.lookup f = none
  | _, _, _, .nil, _ => rfl
  | _, _, f, @RepF.cons _ _ g v vs d' ds h r, e => by
    rw [List.lookup_cons] at e ⊢
    cases q : f == g with
    | true => rw [q] at e; cases e
    | false => rw [q] at e; exact RepF.lookup_none r e
theorem RepF.length : ∀ {vs : List (Str × V)} {ds : List (Str × D)}, RepF K S vs ds → vs.length = ds.length
  | _, _, .nil => rfl
  | _, _, .cons _ r => congrArg Nat.succ (RepF.length r)
def putD (f : Str) (d : D) : List (Str × D) → List (Str × D)
  | [] => [(f, d)]
  | (g, e) :: r => if g = f then (g, d) :: r else (g, e) :: putD f d r
theorem RepF.put {v : V} {d : D} (h : Rep K S v d) (f : Str) : ∀ {vs : List (Str × V)} {ds : List (Str × D)}, RepF K S vs ds → RepF K S (putF f v vs) (putD f d ds)
  | _, _, .nil => .cons h .nil
  | _, _, @RepF.cons _ _ g v' vs d' ds h' r => by
    unfold putF putD
    by_cases e : g = f
    · rw [if_pos e, if_pos e]; exact .cons h r
    · rw [if_neg e, if_neg e]; exact .cons h' (RepF.put h f r)
end

/-! ### dicts whose keys are tuples -/
mutual
/-- the key that a value is -/
def nkD : D → Option NestedKey
  | .non => some .none
  | .bl b => some (.num (if b = true then 1 else 0))
  | .int i => some (.num i)
  | .tup ds => (nkDs ds).map .tup
  | .str _ => none | .lst _ => none | .scr _ => none | .ins _ _ => none | .ref _ => none | .ty _ => none
def nkDs : List D → Option (List NestedKey)
  | [] => some []
  | d :: ds => match nkD d, nkDs ds with
    | some k, some ks => some (k :: ks)
    | _, _ => none
end
mutual
/-- the hash of a key without texts -/
def kh : NestedKey → Int
  | .none => reduceHash 0xFCA86420
  | .num i => hashInt i
  | .text _ => 0
  | .tup ks => reduceHash (Builtin.Tuple.tupleHashOf (khs ks))
def khs : List NestedKey → List Int
  | [] => []
  | k :: ks => kh k :: khs ks
end
def ent0 (x : NestedKey × Addr × Value) : DictEntry := ⟨kh x.1, .ref x.2.1, x.2.2⟩
/-- the object o at a is a dict with the entries vs -/
def DctOk (a : Addr) (o : Obj) (vs : List (NestedKey × Addr × V)) (h : Heap) : Prop :=
  h.get? a = some o ∧ o.ExactDict ∧ (a == sysModules) = false ∧ vs.length ≤ sizeLine ∧ (vs.map (·.1)).Nodup ∧
  ∃ es ep, ∃ xs : List (NestedKey × Addr × Value), o.data = .dict es ep ∧ es.toList = xs.map ent0 ∧
    Paired (fun (p : NestedKey × Addr × V) (q : NestedKey × Addr × Value) => p.1 = q.1 ∧ p.2.1 = q.2.1 ∧ RelV p.2.2 q.2.2) vs xs
def DctO (a : Addr) (o : Obj) (vs : List (NestedKey × Addr × V)) : HO := .ext (DctOk a o vs)
theorem dctO_ne_code {a : Addr} {o : Obj} {vs : List (NestedKey × Addr × V)} {q : Str} : DctO a o vs ≠ LamX.CodeO a q := fun z => by
  unfold DctO LamX.CodeO at z
  have z1 := HO.ext.inj z
  let oc : Obj := { cls := .none, data := .fields #[.none, .str q 0] }
  let h : Heap := { objs := (List.replicate (a + 1) oc).toArray }
  have e : h.get? a = some oc := by
    unfold Heap.get?
    have : h.objs[a]? = some oc := by simp [h]
    rw [this]
  have c := congrFun z1 h
  have c2 : DctOk a o vs h := by rw [c]; exact ⟨oc, _, _, e, rfl, rfl⟩
  obtain ⟨c3, _, _, _, _, es, ep, xs, c4, _⟩ := c2
  rw [e] at c3
  have c5 := Option.some.inj c3
  rw [← c5] at c4
  cases c4
def RepK (K : PySem.W.Frag) (S : Hp) (vs : List (Key × V)) (ds : List (Key × D)) : Prop := Paired (fun (p : Key × V) (q : Key × D) => p.1 = q.1 ∧ Rep K S p.2 q.2) vs ds
def RepT (K : PySem.W.Frag) (S : Hp) (vs : List (NestedKey × Addr × V)) (ds : List (D × D)) : Prop :=
  Paired (fun (p : NestedKey × Addr × V) (q : D × D) => nkD q.1 = some p.1 ∧ p.1.depth ≤ 8 ∧ Rep K S (.ref p.2.1) q.1 ∧ Rep K S p.2.2 q.2) vs ds
theorem RepK.mono {K : PySem.W.Frag} {S S' : Hp} {vs : List (Key × V)} {ds : List (Key × D)} (e : Same S S') (r : RepK K S vs ds) : RepK K S' vs ds :=
  Paired.mapP r fun _ _ z => ⟨z.1, z.2.mono e⟩
theorem RepT.mono {K : PySem.W.Frag} {S S' : Hp} {vs : List (NestedKey × Addr × V)} {ds : List (D × D)} (e : Same S S') (r : RepT K S vs ds) : RepT K S' vs ds :=
  Paired.mapP r fun _ _ z => ⟨z.1, z.2.1, z.2.2.1.mono e, z.2.2.2.mono e⟩

/-! ### states -/
def MRep (K : PySem.W.Frag) (S H : Hp) (a : Addr) : MO → Prop
  | .lst ds => ∃ vs, H a = some (.lst vs) ∧ Reps K S vs ds
  | .ins C fs => ∃ dx vfs, H a = some (.ins C dx vfs) ∧ RepF K S vfs fs
  | .tab q => ∃ ps : Array Value, H a = some (.tbl ps) ∧ TriplesOk ps.toList ∧ ∀ (pos : Pos) (cv : Value), codeAmong pos ps.toList = some cv → ∃ c, cv = .ref c ∧ S c = some (LamX.CodeO c q)
  | .dk kvs => ∃ vs, H a = some (.dK vs) ∧ RepK K S vs kvs
  | .dct o kvs => ∃ vs, H a = some (DctO a o vs) ∧ RepT K S vs kvs
/-- nothing is there, or a table -/
def Free (H : Hp) (b : Addr) : Prop := ∀ o, H b = some o → ∃ ps, o = .tbl ps
structure OK (K : PySem.W.Frag) (S : Hp) (μ : MH) (H : Hp) : Prop where
  sub : Same S H
  mts : ∀ a m, μ a = some m → S a = none ∧ MRep K S H a m
  nst : ∀ b ps, S b ≠ some (.tbl ps)
  one : ∀ a b q r, μ a = some (.tab q) → μ b = some (.tab r) → a = b
/-- from (S, μ, H) to (S', μ', H'): what is not tracked by S or μ is kept, but for tables -/
structure Stp (S : Hp) (μ : MH) (H : Hp) (S' : Hp) (μ' : MH) (H' : Hp) : Prop where
  same : Same S S'
  news : ∀ b o, S' b = some o → S b = some o ∨ (Free H b ∨ ∃ m, μ b = some m) ∨ ∃ q, o = LamX.CodeO b q
  keep : ∀ b o, H b = some o → μ b = none → (∀ ps, o ≠ .tbl ps) → H' b = some o
  mus : ∀ b m, μ' b = some m → Free H b ∨ ∃ m, μ b = some m
theorem free_none {H : Hp} {b : Addr} (h : H b = none) : Free H b := fun o e => by rw [h] at e; cases e
theorem free_no {H : Hp} {b : Addr} {o : HO} (f : Free H b) (e : H b = some o) (n : ∀ ps, o ≠ .tbl ps) : False := by
  obtain ⟨ps, z⟩ := f o e
  exact n ps z

section
variable {K : PySem.W.Frag} {S S' S1 S2 H H' H1 H2 : Hp} {μ μ' μ1 μ2 : MH}
theorem Stp.refl : Stp S μ H S μ H := ⟨fun _ _ h => h, fun _ _ h => .inl h, fun _ _ h _ _ => h, fun _ m h => .inr ⟨m, h⟩⟩
theorem Stp.trans (a : Stp S μ H S1 μ1 H1) (b : Stp S1 μ1 H1 S2 μ2 H2) : Stp S μ H S2 μ2 H2 := by
  have nn : ∀ c o, H c = some o → (∀ ps, o ≠ .tbl ps) → μ c = none → μ1 c = none := fun c o h1 n h2 => by
    cases q : μ1 c with
    | none => rfl
    | some m =>
      rcases a.mus c m q with z | ⟨m', z⟩
      · exact (free_no z h1 n).elim
      · rw [h2] at z; cases z
  have dec : ∀ c, Free H1 c → Free H c ∨ ∃ m, μ c = some m := fun c f => by
    cases q : H c with
    | none => exact .inl (free_none q)
    | some o =>
      cases q2 : μ c with
      | none =>
        by_cases n : ∃ ps, o = .tbl ps
        · exact .inl fun o' e' => by rw [q] at e'; cases e'; exact n
        · exact (free_no f (a.keep c o q q2 fun ps z => n ⟨ps, z⟩) fun ps z => n ⟨ps, z⟩).elim
      | some m => exact .inr ⟨m, rfl⟩
  refine ⟨a.same.trans b.same, fun c o h => ?_, fun c o h1 h2 n => b.keep c o (a.keep c o h1 h2 n) (nn c o h1 n h2) n, fun c m h => ?_⟩
  · rcases b.news c o h with z | (z | ⟨m, z⟩) | z
    · exact a.news c o z
    · exact .inr (.inl (dec c z))
    · exact .inr (.inl (a.mus c m z))
    · exact .inr (.inr z)
  · rcases b.mus c m h with z | ⟨m', z⟩
    · exact dec c z
    · exact a.mus c m' z
theorem OK.free {p : Addr} (k : OK K S μ H) (h : H p = none) : S p = none ∧ μ p = none := by
  refine ⟨k.sub.free h, ?_⟩
  cases q : μ p with
  | none => rfl
  | some m =>
    have z := (k.mts p m q).2
    cases m with
    | lst ds => obtain ⟨vs, e, _⟩ := z; rw [h] at e; cases e
    | ins C fs => obtain ⟨dx, vfs, e, _⟩ := z; rw [h] at e; cases e
    | tab q => obtain ⟨ps, e, _⟩ := z; rw [h] at e; cases e
    | dk kvs => obtain ⟨vs, e, _⟩ := z; rw [h] at e; cases e
    | dct o kvs => obtain ⟨vs, e, _⟩ := z; rw [h] at e; cases e
theorem MRep.mono {a : Addr} {m : MO} (e : Same S S') (h : H a = H' a) (r : MRep K S H a m) : MRep K S' H' a m := by
  cases m with
  | lst ds => obtain ⟨vs, e1, r⟩ := r; exact ⟨vs, h ▸ e1, r.mono e⟩
  | ins C fs => obtain ⟨dx, vfs, e1, r⟩ := r; exact ⟨dx, vfs, h ▸ e1, r.mono e⟩
  | tab q =>
    obtain ⟨ps, e1, e2, e3⟩ := r
    refine ⟨ps, h ▸ e1, e2, fun pos cv hc => ?_⟩
    obtain ⟨c, ec, sc⟩ := e3 pos cv hc
    exact ⟨c, ec, e _ _ sc⟩
  | dk kvs => obtain ⟨vs, e1, r⟩ := r; exact ⟨vs, h ▸ e1, r.mono e⟩
  | dct o kvs => obtain ⟨vs, e1, r⟩ := r; exact ⟨vs, h ▸ e1, r.mono e⟩
theorem nst_upd {p : Addr} {o : HO} (k : OK K S μ H) (ho : ∀ ps, o ≠ .tbl ps) : ∀ b ps, upd S p o b ≠ some (.tbl ps) := fun b ps e => by
  by_cases q : b = p
  · subst q
    rw [upd_same] at e
    exact ho ps (Option.some.inj e)
  · rw [upd_ne q] at e
    exact k.nst b ps e
theorem one_upd {p : Addr} {m : MO} (k : OK K S μ H) (hm : ∀ q, m ≠ .tab q) : ∀ a b q r, updM μ p m a = some (.tab q) → updM μ p m b = some (.tab r) → a = b := by
  have ne : ∀ c q, updM μ p m c = some (.tab q) → μ c = some (.tab q) := fun c q e => by
    by_cases z : c = p
    · rw [z, updM_same] at e
      exact absurd (Option.some.inj e) (hm q)
    · rw [updM_ne z] at e
      exact e
  exact fun a b q r ea eb => k.one a b q r (ne a q ea) (ne b r eb)
theorem same_updn {p : Addr} {o : HO} (h : S p = none) : Same S (upd S p o) := fun b x e => by
  rw [upd_ne (ne_of_none e h)]; exact e
/-- a new object that never changes -/
theorem OK.alloc {p : Addr} {o : HO} (k : OK K S μ H) (h : H p = none) (ho : ∀ ps, o ≠ .tbl ps := by intro _ z; cases z) : OK K (upd S p o) μ (upd H p o) ∧ Stp S μ H (upd S p o) μ (upd H p o) := by
  obtain ⟨hS, hM⟩ := k.free h
  refine ⟨⟨fun b x e => ?_, fun a m e => ?_, nst_upd k ho, k.one⟩, ⟨same_updn hS, fun b x e => ?_, fun b x e _ _ => ?_, fun b m e => .inr ⟨m, e⟩⟩⟩
  · by_cases q : b = p
    · subst q; rw [upd_same] at e ⊢; exact e
    · rw [upd_ne q] at e ⊢; exact k.sub b x e
  · have q : a ≠ p := fun z => by rw [z, hM] at e; cases e
    obtain ⟨z1, z2⟩ := k.mts a m e
    exact ⟨by rw [upd_ne q]; exact z1, z2.mono (same_updn hS) (upd_ne q).symm⟩
  · by_cases q : b = p
    · exact .inr (.inl (.inl (q ▸ free_none h)))
    · rw [upd_ne q] at e; exact .inl e
  · rw [upd_ne (ne_of_none e h)]; exact e
/-- a new object that is not looked at -/
theorem OK.hide {p : Addr} {o : HO} (k : OK K S μ H) (h : H p = none) : OK K S μ (upd H p o) := by
  obtain ⟨hS, hM⟩ := k.free h
  refine ⟨fun b x e => ?_, fun a m e => ?_, k.nst, k.one⟩
  · rw [upd_ne (ne_of_none e hS)]; exact k.sub b x e
  · have q : a ≠ p := fun z => by rw [z, hM] at e; cases e
    obtain ⟨z1, z2⟩ := k.mts a m e
    exact ⟨z1, z2.mono (fun _ _ z => z) (upd_ne q).symm⟩
/-- what is neither in S nor in μ may be anything -/
theorem OK.aside {p : Addr} {o : HO} (k : OK K S μ H) (hS : S p = none) (hM : μ p = none) : OK K S μ (upd H p o) := by
  refine ⟨fun b x e => ?_, fun a m e => ?_, k.nst, k.one⟩
  · rw [upd_ne (ne_of_none e hS)]; exact k.sub b x e
  · have q : a ≠ p := fun z => by rw [z, hM] at e; cases e
    obtain ⟨z1, z2⟩ := k.mts a m e
    exact ⟨z1, z2.mono (fun _ _ z => z) (upd_ne q).symm⟩
/-- a changeable object enters, or is changed -/
theorem OK.put {p : Addr} {m : MO} {o : HO} (k : OK K S μ H) (hS : S p = none) (r : MRep K S (upd H p o) p m) (hm : ∀ q, m ≠ .tab q := by intro _ z; cases z) : OK K S (updM μ p m) (upd H p o) := by
  refine ⟨fun b x e => ?_, fun a m' e => ?_, k.nst, one_upd k hm⟩
  · rw [upd_ne (ne_of_none e hS)]; exact k.sub b x e
  · by_cases q : a = p
    · subst q; rw [updM_same] at e; cases e; exact ⟨hS, r⟩
    · rw [updM_ne q] at e
      obtain ⟨z1, z2⟩ := k.mts a m' e
      exact ⟨z1, z2.mono (fun _ _ z => z) (upd_ne q).symm⟩
/-- what is neither in S nor in μ becomes data -/
theorem OK.take {p : Addr} {o : HO} (k : OK K S μ H) (h : H p = some o) (hS : S p = none) (hM : μ p = none) (ho : ∀ ps, o ≠ .tbl ps := by intro _ z; cases z) : OK K (upd S p o) μ H := by
  refine ⟨fun b x e => ?_, fun a m e => ?_, nst_upd k ho, k.one⟩
  · by_cases q : b = p
    · subst q; rw [upd_same] at e; cases e; exact h
    · rw [upd_ne q] at e; exact k.sub b x e
  · have q : a ≠ p := fun z => by rw [z, hM] at e; cases e
    obtain ⟨z1, z2⟩ := k.mts a m e
    exact ⟨by rw [upd_ne q]; exact z1, z2.mono (same_updn hS) rfl⟩
/-- a changeable object becomes data -/
theorem OK.freeze {p : Addr} {m : MO} {o : HO} (k : OK K S μ H) (e : μ p = some m) (h : H p = some o) (hm : ∀ q, m ≠ .tab q := by intro _ z; cases z) : OK K (upd S p o) (delM μ p) H ∧ Stp S μ H (upd S p o) (delM μ p) H := by
  obtain ⟨hS, r⟩ := k.mts p m e
  have ho : ∀ ps, o ≠ .tbl ps := fun ps z => by
    subst z
    cases m with
    | lst ds => obtain ⟨vs, e, _⟩ := r; rw [h] at e; cases e
    | ins C fs => obtain ⟨dx, vfs, e, _⟩ := r; rw [h] at e; cases e
    | tab q => exact hm q rfl
    | dk kvs => obtain ⟨vs, e, _⟩ := r; rw [h] at e; cases e
    | dct o kvs => obtain ⟨vs, e, _⟩ := r; rw [h] at e; unfold DctO at e; cases e
  have ne : ∀ c q, delM μ p c = some (.tab q) → μ c = some (.tab q) := fun c q e => by
    by_cases z : c = p
    · rw [z, delM_same] at e; cases e
    · rw [delM_ne z] at e
      exact e
  have k2 : OK K S (delM μ p) H := ⟨k.sub, fun a m' e' => by
    by_cases q : a = p
    · subst q; rw [delM_same] at e'; cases e'
    · rw [delM_ne q] at e'; exact k.mts a m' e', k.nst, fun a b q r ea eb => k.one a b q r (ne a q ea) (ne b r eb)⟩
  refine ⟨k2.take h hS delM_same ho, same_updn hS, fun b x e' => ?_, fun b x e' _ _ => e', fun b m' e' => ?_⟩
  · by_cases q : b = p
    · exact .inr (.inl (.inr ⟨m, q ▸ e⟩))
    · rw [upd_ne q] at e'; exact .inl e'
  · by_cases q : b = p
    · subst q; rw [delM_same] at e'; cases e'
    · rw [delM_ne q] at e'; exact .inr ⟨m', e'⟩
end

/-! ### environments -/
abbrev EV := List (Option D)
def gt : EV → Nat → Option D
  | [], _ => none
  | x :: _, 0 => x
  | _ :: r, n + 1 => gt r n
def st : EV → Nat → D → EV
  | [], _, _ => []
  | _ :: r, 0, d => some d :: r
  | x :: r, n + 1, d => x :: st r n d
def rm : EV → Nat → EV
  | [], _ => []
  | _ :: r, 0 => none :: r
  | x :: r, n + 1 => x :: rm r n
inductive RepE (K : PySem.W.Frag) (S : Hp) : L2.St → EV → Prop
  | nil : RepE K S [] []
  | no {o : Option V} {σ : L2.St} {ρ : EV} : RepE K S σ ρ → RepE K S (o :: σ) (none :: ρ)
  | so {v : V} {d : D} {σ : L2.St} {ρ : EV} : Rep K S v d → RepE K S σ ρ → RepE K S (some v :: σ) (some d :: ρ)
section
variable {K : PySem.W.Frag} {S S' : Hp}
theorem RepE.mono (e : Same S S') : ∀ {σ : L2.St} {ρ : EV}, RepE K S σ ρ → RepE K S' σ ρ
  | _, _, .nil => .nil
  | _, _, .no r => .no (RepE.mono e r)
  | _, _, .so h r => .so (h.mono e) (RepE.mono e r)
theorem RepE.get : ∀ {σ : L2.St} {ρ : EV} {i : Nat} {d : D}, RepE K S σ ρ → gt ρ i = some d → ∃ v, σ[i]? = some (some v) ∧ Rep K S v d
  | _, _, _, _, .nil, e => by cases e
  | _, _, 0, _, .no r, e => by cases e
  | _, _, i + 1, _, .no r, e => by
    obtain ⟨v, h1, h2⟩ := RepE.get r e
    exact ⟨v, by simpa using h1, h2⟩
  | _, _, 0, _, .so h r, e => by cases e; exact ⟨_, rfl, h⟩
  | _, _, i + 1, _, .so h r, e => by
    obtain ⟨v, h1, h2⟩ := RepE.get r e
    exact ⟨v, by simpa using h1, h2⟩
theorem RepE.set {v : V} {d : D} (h : Rep K S v d) : ∀ {σ : L2.St} {ρ : EV} (i : Nat), RepE K S σ ρ → RepE K S (σ.set i (some v)) (st ρ i d)
  | _, _, _, .nil => .nil
  | _, _, 0, .no r => .so h r
  | _, _, i + 1, .no r => .no (RepE.set h i r)
  | _, _, 0, .so _ r => .so h r
  | _, _, i + 1, .so q r => .so q (RepE.set h i r)
theorem RepE.rm : ∀ {σ : L2.St} {ρ : EV} (i : Nat), RepE K S σ ρ → RepE K S (σ.set i none) (rm ρ i)
  | _, _, _, .nil => .nil
  | _, _, 0, .no r => .no r
  | _, _, i + 1, .no r => .no (RepE.rm i r)
  | _, _, 0, .so _ r => .no r
  | _, _, i + 1, .so q r => .so q (RepE.rm i r)
def rms (ρ : EV) : List Nat → EV
  | [] => ρ
  | v :: vs => L3.rm (rms ρ vs) v
theorem RepE.wipe {σ : L2.St} {ρ : EV} (h : RepE K S σ ρ) : ∀ (vs : List Nat), RepE K S (wipe σ vs) (rms ρ vs)
  | [] => h
  | v :: vs => RepE.rm v (RepE.wipe h vs)
def startD (n : Nat) (ds : List D) : EV := ds.map some ++ List.replicate (n - ds.length) none
theorem repE_blank : ∀ n : Nat, RepE K S (List.replicate n none) (List.replicate n none)
  | 0 => .nil
  | n + 1 => .no (repE_blank n)
theorem repE_vals : ∀ {vs : List V} {ds : List D} {σ : L2.St} {ρ : EV}, Reps K S vs ds → RepE K S σ ρ → RepE K S (vs.map some ++ σ) (ds.map some ++ ρ)
  | _, _, _, _, .nil, h => h
  | _, _, _, _, .cons h r, h2 => .so h (repE_vals r h2)
theorem repE_start {N : List Str} {vs : List V} {ds : List D} (h : Reps K S vs ds) : RepE K S (L2.start N vs) (startD N.length ds) := by
  unfold L2.start startD
  rw [h.length]
  exact repE_vals h (repE_blank _)
end

/-! ### readings -/
abbrev RX := EV → MH → (D → MH → Prop) → Prop
abbrev RT := EV → MH → (Bool → MH → Prop) → Prop
abbrev RA := EV → MH → (List D → MH → Prop) → Prop
structure Ed where
  nx : EV → MH → Prop
  rt : D → MH → Prop
  bk : EV → MH → Prop := fun _ _ => False
  ct : EV → MH → Prop := fun _ _ => False
  /-- an error leaves: its class, its attributes -/
  ex : Addr → List (Str × D) → MH → Prop := fun _ _ _ => False
abbrev RS := Ed → EV → MH → Prop
def up (K : PySem.W.Frag) (f : RX) : TE := fun σ H Q => ∃ S μ ρ R, OK K S μ H ∧ RepE K S σ ρ ∧ f ρ μ R ∧
  ∀ S' μ' H' v d, OK K S' μ' H' → Stp S μ H S' μ' H' → Rep K S' v d → R d μ' → Q v H'
def upT (K : PySem.W.Frag) (f : RT) : TT := fun σ H Q => ∃ S μ ρ R, OK K S μ H ∧ RepE K S σ ρ ∧ f ρ μ R ∧
  ∀ S' μ' H' b, OK K S' μ' H' → Stp S μ H S' μ' H' → R b μ' → Q b H'
def upA (K : PySem.W.Frag) (f : RA) : TA := fun σ H Q => ∃ S μ ρ R, OK K S μ H ∧ RepE K S σ ρ ∧ f ρ μ R ∧
  ∀ S' μ' H' vs ds, OK K S' μ' H' → Stp S μ H S' μ' H' → Reps K S' vs ds → R ds μ' → Q vs H'
structure Lk (K : PySem.W.Frag) (S : Hp) (μ : MH) (H : Hp) (D : Ends) (DD : Ed) : Prop where
  nx : ∀ S' μ' H' σ' ρ', OK K S' μ' H' → Stp S μ H S' μ' H' → RepE K S' σ' ρ' → DD.nx ρ' μ' → D.nx σ' H'
  rt : ∀ S' μ' H' v d, OK K S' μ' H' → Stp S μ H S' μ' H' → Rep K S' v d → DD.rt d μ' → D.rt v H'
  bk : ∀ S' μ' H' σ' ρ', OK K S' μ' H' → Stp S μ H S' μ' H' → RepE K S' σ' ρ' → DD.bk ρ' μ' → D.bk σ' H'
  ct : ∀ S' μ' H' σ' ρ', OK K S' μ' H' → Stp S μ H S' μ' H' → RepE K S' σ' ρ' → DD.ct ρ' μ' → D.ct σ' H'
theorem Lk.stp {K : PySem.W.Frag} {S S' H H' : Hp} {μ μ' : MH} {D : Ends} {DD : Ed} (l : Lk K S μ H D DD) (s : Stp S μ H S' μ' H') : Lk K S' μ' H' D DD :=
  ⟨fun _ _ _ _ _ k s2 => l.nx _ _ _ _ _ k (s.trans s2), fun _ _ _ _ _ k s2 => l.rt _ _ _ _ _ k (s.trans s2), fun _ _ _ _ _ k s2 => l.bk _ _ _ _ _ k (s.trans s2), fun _ _ _ _ _ k s2 => l.ct _ _ _ _ _ k (s.trans s2)⟩
def upS (K : PySem.W.Frag) (f : RS) : TS := fun D σ H => ∃ S μ ρ DD, OK K S μ H ∧ RepE K S σ ρ ∧ f DD ρ μ ∧ Lk K S μ H D DD
abbrev DE (X : Cx) (e : Expr) (f : RX) : Prop := PE X e (up X.K f)
abbrev DT (X : Cx) (e : Expr) (f : RT) : Prop := PT X e (upT X.K f)
abbrev DW (X : Cx) (e : Expr) (f : RT) : Prop := PW X e (upT X.K f)
abbrev DA (X : Cx) (es : List Expr) (f : RA) : Prop := PA X es (upA X.K f)
abbrev DS (X : Cx) (s : Stmt) (f : RS) : Prop := PS X s (upS X.K f)
abbrev DSs (X : Cx) (s : List Stmt) (f : RS) : Prop := PSs X s (upS X.K f)
section
variable {X : Cx}
theorem pe_imp {e : Expr} {t u : TE} (h : PE X e t) (i : ∀ σ H Q, u σ H Q → t σ H Q) : PE X e u := ⟨fun pins s σ H Q I q => h.run pins s σ H Q I (i σ H Q q)⟩
theorem pt_imp {e : Expr} {t u : TT} (h : PT X e t) (i : ∀ σ H Q, u σ H Q → t σ H Q) : PT X e u := ⟨fun pins s σ H Q I q => h.run pins s σ H Q I (i σ H Q q)⟩
theorem pw_imp {e : Expr} {t u : TT} (h : PW X e t) (i : ∀ σ H Q, u σ H Q → t σ H Q) : PW X e u := ⟨fun w pins s σ H Q I q => h.run w pins s σ H Q I (i σ H Q q)⟩
theorem pa_imp {es : List Expr} {t u : TA} (h : PA X es t) (i : ∀ σ H Q, u σ H Q → t σ H Q) : PA X es u := ⟨fun pos pins s σ H Q I q => h.run pos pins s σ H Q I (i σ H Q q)⟩
theorem ps_imp {st : Stmt} {t u : TS} (h : PS X st t) (i : ∀ D σ H, u D σ H → t D σ H) : PS X st u := ⟨fun pins s σ H D I q => h.run pins s σ H D I (i D σ H q)⟩
theorem pss_imp {st : List Stmt} {t u : TS} (h : PSs X st t) (i : ∀ D σ H, u D σ H → t D σ H) : PSs X st u := ⟨fun pins s σ H D I q => h.run pins s σ H D I (i D σ H q)⟩
end
end L3

/-! ## L3b -/
set_option Elab.async false
set_option linter.all false
set_option maxRecDepth 100000
set_option maxHeartbeats 4000000
namespace L3
open PySem PySem.Spec PyProof.Rows L2

/-! ### sizes -/
/-- below 2 ^ n in size -/
def Bt (n : Nat) (i : Int) : Prop := i.natAbs < 2 ^ n
abbrev big : Nat := 8000
theorem Bt.log2 {n : Nat} {i : Int} (h : Bt n i) (h0 : 0 < n) : i.natAbs.log2 < n := PySem.Flt.log2_lt_of h0 h
def CBig (i j : Int) : Prop := Bt big i ∧ Bt big j
def CDivX (_ j : Int) : Prop := j ≠ 0 ∧ Bt big j
theorem op_mulX {X : Cx} : OpR X (binaryOp .Mult) (rI CBig fun i j => .int (i * j)) := opI fun i j _ _ _ _ _ hc q => mul_int q (CMulW.ok (by
  have h1 := hc.1.log2 (by decide)
  have h2 := hc.2.log2 (by decide)
  have h3 : big = 8000 := rfl
  unfold CMulW
  omega))
theorem op_fdivX {X : Cx} : OpR X (binaryOp .FloorDiv) (rI CDivX fun i j => .int (i.fdiv j)) := opI fun i j _ _ _ _ _ hc q => floordiv_int hc.1 q (.inl (PyProof.noPylong_of_log2 (Nat.lt_trans (hc.2.log2 (by decide)) (by decide))))

/-! ### what is seen through a changeable list -/
def res (μ : MH) : D → D
  | .ref p => match μ p with
    | some (.lst ds) => .lst ds
    | _ => .ref p
  | d => d
section
variable {K : PySem.W.Frag} {S H : Hp} {μ : MH}
/-- the data d as the value v has it now, in H -/
theorem res_lst {v : V} {d : D} {ds : List D} (k : OK K S μ H) (r : Rep K S v d) (e : res μ d = .lst ds) : ∃ p vs, v = .ref p ∧ H p = some (.lst vs) ∧ Reps K S vs ds := by
  cases r with
  | ref p =>
    unfold res at e
    dsimp only at e
    cases q : μ p with
    | none => rw [q] at e; cases e
    | some m =>
      rw [q] at e
      cases m with
      | lst es =>
        cases e
        obtain ⟨_, vs, h, r⟩ := k.mts p _ q
        exact ⟨p, vs, rfl, h, r⟩
      | ins C fs => cases e
      | tab _ => cases e
      | dk _ => cases e
      | dct _ _ => cases e
  | lst h r => cases e; exact ⟨_, _, rfl, k.sub _ _ h, r⟩
  | _ => cases e
theorem res_tup {v : V} {d : D} {ds : List D} (r : Rep K S v d) (e : res μ d = .tup ds) : d = .tup ds := by
  cases r with
  | ref p =>
    unfold res at e
    dsimp only at e
    cases q : μ p with
    | none => rw [q] at e; cases e
    | some m =>
      rw [q] at e
      cases m <;> cases e
  | _ => exact e
theorem Rep.toTup {v : V} {ds : List D} (r : Rep K S v (.tup ds)) : ∃ p vs, v = .ref p ∧ SqT K S p vs ∧ Reps K S vs ds := by
  cases r with
  | tup h r => exact ⟨_, _, rfl, h, r⟩
theorem Rep.toInt {v : V} {i : Int} (r : Rep K S v (.int i)) : v = .int i := by cases r; rfl
theorem Rep.toBl {v : V} {i : Bool} (r : Rep K S v (.bl i)) : v = .bl i := by cases r; rfl
theorem Rep.toStr {v : V} {i : Str} (r : Rep K S v (.str i)) : v = .str i := by cases r; rfl
theorem Rep.toNon {v : V} (r : Rep K S v .non) : v = .non := by cases r; rfl
theorem Rep.toRef {v : V} {a : Addr} (r : Rep K S v (.ref a)) : v = .ref a := by cases r; rfl
/-- a list or tuple that may be read: its items -/
def seqD : D → Option (List D)
  | .lst ds => some ds
  | .tup ds => some ds
  | _ => none
theorem seq_rep {v : V} {d : D} {ds : List D} (k : OK K S μ H) (r : Rep K S v d) (e : seqD (res μ d) = some ds) : ∃ p vs, v = .ref p ∧ (SqL K H p vs ∨ SqT K H p vs) ∧ Reps K S vs ds := by
  cases q : res μ d with
  | lst es =>
    rw [q] at e; cases e
    obtain ⟨p, vs, h1, h2, h3⟩ := res_lst k r q
    exact ⟨p, vs, h1, .inl (.of h2), h3⟩
  | tup es =>
    rw [q] at e; cases e
    have z := res_tup r q
    subst z
    obtain ⟨p, vs, h1, h2, h3⟩ := r.toTup
    exact ⟨p, vs, h1, .inr (sqT_same k.sub h2), h3⟩
  | _ => rw [q] at e; cases e
end

/-! ### pure data: == -/
mutual
def toPy : D → PyData
  | .bl b => .bool b
  | .int i => .int i
  | .str x => .str x
  | .tup ds => .tuple (toPys ds)
  | .lst ds => .list (toPys ds)
  | _ => .none
def toPys : List D → List PyData
  | [] => []
  | d :: r => toPy d :: toPys r
end
def pureN : Nat → D → Bool
  | _, .non => true
  | _, .bl _ => true
  | _, .int _ => true
  | _, .str x => PyData.strOk x
  | n + 1, .tup ds => ds.all (pureN n)
  | n + 1, .lst ds => ds.all (pureN n)
  | _, _ => false
/-- == of pure data -/
def deq (a b : D) : Bool := PyData.eqv (toPy a) (toPy b)
theorem deq_int (i j : Int) : deq (.int i) (.int j) = (i == j) := rfl
theorem deq_bl (i j : Bool) : deq (.bl i) (.bl j) = (i == j) := rfl
theorem deq_str (i j : Str) : deq (.str i) (.str j) = (i == j) := rfl
theorem deq_non : deq .non .non = true := rfl
theorem deq_tt (a b : D) (as bs : List D) : deq (.tup (a :: as)) (.tup (b :: bs)) = (deq a b && deq (.tup as) (.tup bs)) := rfl
theorem deq_t0 : deq (.tup []) (.tup []) = true := rfl
theorem deq_ll (a b : D) (as bs : List D) : deq (.lst (a :: as)) (.lst (b :: bs)) = (deq a b && deq (.lst as) (.lst bs)) := rfl
theorem deq_l0 : deq (.lst []) (.lst []) = true := rfl
section
variable {K : PySem.W.Frag} {S H : Hp}
theorem pure_laid : ∀ (n : Nat) (d : D), pureN n d = true → (toPy d).canLay0 = true ∧ (toPy d).depth ≤ n := by
  intro n
  induction n with
  | zero =>
    intro d h
    cases d <;> first | exact ⟨rfl, Nat.le_refl _⟩ | exact ⟨h, Nat.le_refl _⟩ | cases h
  | succ n ih =>
    have all : ∀ ds : List D, ds.all (pureN n) = true → PyData.canLayAll0 (toPys ds) = true ∧ PyData.depthAll (toPys ds) ≤ n := by
      intro ds
      induction ds with
      | nil => intro _; exact ⟨rfl, Nat.zero_le _⟩
      | cons d r ihr =>
        intro h
        rw [List.all_cons, Bool.and_eq_true] at h
        obtain ⟨a1, a2⟩ := ih d h.1
        obtain ⟨b1, b2⟩ := ihr h.2
        refine ⟨?_, ?_⟩
        · show (PyData.canLay0 (toPy d) && PyData.canLayAll0 (toPys r)) = true
          rw [a1, b1]; rfl
        · show max (PyData.depth (toPy d)) (PyData.depthAll (toPys r)) ≤ n
          omega
    intro d h
    cases d with
    | tup ds =>
      obtain ⟨h1, h2⟩ := all ds h
      exact ⟨h1, Nat.succ_le_succ h2⟩
    | lst ds =>
      obtain ⟨h1, h2⟩ := all ds h
      exact ⟨h1, Nat.succ_le_succ h2⟩
    | non => exact ⟨rfl, Nat.zero_le _⟩
    | bl b => exact ⟨rfl, Nat.zero_le _⟩
    | int i => exact ⟨rfl, Nat.zero_le _⟩
    | str x => exact ⟨h, Nat.zero_le _⟩
    | _ => cases h
theorem pure_shaped {n : Nat} {d : D} (h : pureN n d = true) (hn : n ≤ 64) : SeqAt.shaped (toPy d) = true := by
  obtain ⟨h1, h2⟩ := pure_laid n d h
  exact Bool.and_eq_true_iff.mpr ⟨h1, decide_eq_true (Nat.le_trans h2 hn)⟩
mutual
theorem Rep.dp : ∀ {n : Nat} {v : V} {d : D}, Rep K S v d → pureN n d = true → Dp K S v (toPy d)
  | _, _, _, .non, _ => .non
  | _, _, _, .bl b, _ => .bl b
  | _, _, _, .int i, _ => .int i
  | _, _, _, .str x, _ => .str x
  | n + 1, _, _, .tup h r, p => .tup h (Reps.dp (n := n) r p)
  | n + 1, _, _, .lst h r, p => .lst (.of h) (Reps.dp (n := n) r p)
  | 0, _, _, .tup h r, p => by cases p
  | 0, _, _, .lst h r, p => by cases p
  | 0, _, _, .ins h r, p => by cases p
  | n + 1, _, _, .ins h r, p => by cases p
  | 0, _, _, .scr h r, p => by cases p
  | n + 1, _, _, .scr h r, p => by cases p
  | 0, _, _, .ref a, p => by cases p
  | n + 1, _, _, .ref a, p => by cases p
  | 0, _, _, .ty a, p => by cases p
  | n + 1, _, _, .ty a, p => by cases p
theorem Reps.dp : ∀ {n : Nat} {vs : List V} {ds : List D}, Reps K S vs ds → ds.all (pureN n) = true → DpAll K S vs (toPys ds)
  | _, _, _, .nil, _ => .nil
  | n, _, _, .cons h r, p => by
    rw [List.all_cons, Bool.and_eq_true] at p
    exact .cons (Rep.dp h p.1) (Reps.dp r p.2)
end
mutual
theorem Dp.same {S' : Hp} (e : Same S S') : ∀ {v : V} {d : PyData}, Dp K S v d → Dp K S' v d
  | _, _, .non => .non
  | _, _, .bl b => .bl b
  | _, _, .int b => .int b
  | _, _, .str b => .str b
  | _, _, .lst h r => .lst (sqL_same e h) (DpAll.same e r)
  | _, _, .tup h r => .tup (sqT_same e h) (DpAll.same e r)
theorem DpAll.same {S' : Hp} (e : Same S S') : ∀ {v : List V} {d : List PyData}, DpAll K S v d → DpAll K S' v d
  | _, _, .nil => .nil
  | _, _, .cons h r => .cons (Dp.same e h) (DpAll.same e r)
end
theorem res_dp {μ : MH} {n : Nat} {v : V} {d : D} (k : OK K S μ H) (r : Rep K S v d) (p : pureN n (res μ d) = true) : Dp K H v (toPy (res μ d)) := by
  cases q : res μ d with
  | lst ds =>
    obtain ⟨a, vs, rfl, h, r2⟩ := res_lst k r q
    rw [q] at p
    cases n with
    | zero => cases p
    | succ n => exact .lst (.of h) (DpAll.same k.sub (Reps.dp (n := n) r2 p))
  | _ =>
    rw [← q]
    have e : res μ d = d := by
      cases d with
      | ref a =>
        unfold res at q ⊢
        dsimp only at q ⊢
        cases w : μ a with
        | none => rfl
        | some m => rw [w] at q; cases m <;> first | rfl | cases q
      | _ => rfl
    rw [e] at p ⊢
    exact Dp.same k.sub (r.dp p)
end

/-! ### values by values -/
abbrev G2 := D → D → MH → (D → MH → Prop) → Prop
abbrev G1 := D → MH → (D → MH → Prop) → Prop
abbrev GN := List D → MH → (D → MH → Prop) → Prop
abbrev Pst (K : PySem.W.Frag) (S : Hp) (μ : MH) (H : Hp) (R : D → MH → Prop) (Q : VK) : Prop := ∀ S' μ' H' v d, OK K S' μ' H' → Stp S μ H S' μ' H' → Rep K S' v d → R d μ' → Q v H'
def Snd2 (K : PySem.W.Frag) (r : R2) (g : G2) : Prop := ∀ S μ H x y dx dy R Q, OK K S μ H → Rep K S x dx → Rep K S y dy → g dx dy μ R → Pst K S μ H R Q → r x y H Q
def Snd1 (K : PySem.W.Frag) (r : V → Hp → VK → Prop) (g : G1) : Prop := ∀ S μ H x dx R Q, OK K S μ H → Rep K S x dx → g dx μ R → Pst K S μ H R Q → r x H Q
def SndN (K : PySem.W.Frag) (r : List V → Hp → VK → Prop) (g : GN) : Prop := ∀ S μ H xs dxs R Q, OK K S μ H → Reps K S xs dxs → g dxs μ R → Pst K S μ H R Q → r xs H Q
def rOp (g : G2) (fa fb : RX) : RX := fun ρ μ R => fa ρ μ fun x μ1 => fb ρ μ1 fun y μ2 => g x y μ2 R
def rUn (g : G1) (fa : RX) : RX := fun ρ μ R => fa ρ μ fun x μ1 => g x μ1 R
def rCl (g : GN) (fa : RA) : RX := fun ρ μ R => fa ρ μ fun xs μ1 => g xs μ1 R
section
variable {K : PySem.W.Frag}
theorem up_op {r : R2} {g : G2} (s : Snd2 K r g) {fa fb : RX} : ∀ σ H Q, up K (rOp g fa fb) σ H Q → tOp r (up K fa) (up K fb) σ H Q := by
  rintro σ H Q ⟨S, μ, ρ, R, k, e, h, post⟩
  refine ⟨S, μ, ρ, _, k, e, h, fun S1 μ1 H1 v1 d1 k1 s1 r1 h1 => ?_⟩
  refine ⟨S1, μ1, ρ, _, k1, e.mono s1.same, h1, fun S2 μ2 H2 v2 d2 k2 s2 r2 h2 => ?_⟩
  exact s S2 μ2 H2 v1 v2 d1 d2 R Q k2 (r1.mono s2.same) r2 h2 fun S3 μ3 H3 v d k3 s3 r3 h3 => post S3 μ3 H3 v d k3 ((s1.trans s2).trans s3) r3 h3
theorem up_un {r : V → Hp → VK → Prop} {g : G1} (s : Snd1 K r g) {fa : RX} : ∀ σ H Q, up K (rUn g fa) σ H Q → tUn r (up K fa) σ H Q := by
  rintro σ H Q ⟨S, μ, ρ, R, k, e, h, post⟩
  refine ⟨S, μ, ρ, _, k, e, h, fun S1 μ1 H1 v1 d1 k1 s1 r1 h1 => ?_⟩
  exact s S1 μ1 H1 v1 d1 R Q k1 r1 h1 fun S3 μ3 H3 v d k3 s3 r3 h3 => post S3 μ3 H3 v d k3 (s1.trans s3) r3 h3
theorem up_cl {r : List V → Hp → VK → Prop} {g : GN} (s : SndN K r g) {fa : RA} : ∀ σ H Q, up K (rCl g fa) σ H Q → tCB r (upA K fa) σ H Q := by
  rintro σ H Q ⟨S, μ, ρ, R, k, e, h, post⟩
  refine ⟨S, μ, ρ, _, k, e, h, fun S1 μ1 H1 v1 d1 k1 s1 r1 h1 => ?_⟩
  exact s S1 μ1 H1 v1 d1 R Q k1 r1 h1 fun S3 μ3 H3 v d k3 s3 r3 h3 => post S3 μ3 H3 v d k3 (s1.trans s3) r3 h3
end

/-! ### names, constants -/
def rVar (i : Nat) : RX := fun ρ μ R => match gt ρ i with
  | some d => R d μ
  | none => False
def rC (d : D) : RX := fun _ μ R => R d μ
/-- the list in slot i becomes data -/
def frz (d : D) (μ : MH) (R : D → MH → Prop) : Prop := match d with
  | .ref p => (match μ p with
    | some (.lst ds) => R (.lst ds) (delM μ p)
    | _ => R d μ)
  | _ => R d μ
def rFrz (f : RX) : RX := fun ρ μ R => f ρ μ fun d μ1 => frz d μ1 R
section
variable {X : Cx}
theorem de_var (i : Nat) {x : Str} {pos : Pos} (hN : X.N[i]? = some x := by rfl) (hv : Vis X.env.scope x := by first | exact Or.inl rfl | exact Or.inr (Or.inl rfl) | exact Or.inr (Or.inr rfl)) (hd : (x == ("__debug__" : Str)) = false := by decide)
    (hcd : (x == ("__classdict__" : Str)) = false := by decide) : DE X (.Name x pos) (rVar i) := pe_imp (pe_var hN hv hd hcd) fun σ H Q ⟨S, μ, ρ, R, k, e, h, post⟩ => by
  unfold rVar at h
  cases q : gt ρ i with
  | none => rw [q] at h; exact h.elim
  | some d =>
    rw [q] at h
    obtain ⟨v, h1, h2⟩ := e.get q
    exact ⟨v, h1, post S μ H v d k .refl h2 h⟩
theorem up_c {K : PySem.W.Frag} {v : V} {d : D} (r : ∀ S, Rep K S v d) : ∀ σ H Q, up K (rC d) σ H Q → tC v σ H Q := fun σ H Q ⟨S, μ, ρ, R, k, e, h, post⟩ => post S μ H v d k .refl (r S) h
theorem de_int {i j pos} : DE X (.Constant (.int i) j pos) (rC (.int i)) := pe_imp pe_int (up_c fun _ => .int i)
theorem de_bl {b j pos} : DE X (.Constant (.bool b) j pos) (rC (.bl b)) := pe_imp pe_bl (up_c fun _ => .bl b)
theorem de_non {j pos} : DE X (.Constant .none j pos) (rC .non) := pe_imp pe_non (up_c fun _ => .non)
theorem de_str {x j pos} : DE X (.Constant (.str x) j pos) (rC (.str x)) := pe_imp pe_str (up_c fun _ => .str x)
theorem de_glob {x : Str} {v : V} {d : D} {u : Value} {pos : Pos} (hg : Gl X x) (hm : X.mg x = some u) (r : RelV v u) (q : ∀ S, Rep X.K S v d) (hd : (x == ("__debug__" : Str)) = false := by decide) : DE X (.Name x pos) (rC d) :=
  pe_imp (pe_glob hg hm r hd) (up_c q)
theorem de_ty {x : Str} {n : String} {pos : Pos} (hg : Gl X x) (hm : X.mg x = none) (hv : bootBuiltins x = some (.type n)) (hn : x ≠ "__name__" := by decide) (hd : (x == ("__debug__" : Str)) = false := by decide) : DE X (.Name x pos) (rC (.ty n)) :=
  pe_imp (pe_bltn (v := .ty n) hg hm hv rfl hn hd) (up_c fun _ => .ty n)
theorem de_frz {e : Expr} {f : RX} (h : DE X e f) : DE X e (rFrz f) := pe_imp h fun σ H Q ⟨S, μ, ρ, R, k, e, h, post⟩ => by
  refine ⟨S, μ, ρ, _, k, e, h, fun S1 μ1 H1 v1 d1 k1 s1 r1 h1 => ?_⟩
  cases d1 with
  | ref p =>
    cases q : μ1 p with
    | none =>
      have h1 : R (.ref p) μ1 := by
        unfold frz at h1; dsimp only at h1; rw [q] at h1; exact h1
      exact post S1 μ1 H1 v1 _ k1 s1 r1 h1
    | some m =>
      cases m with
      | lst ds =>
        have h1 : R (.lst ds) (delM μ1 p) := by
          unfold frz at h1; dsimp only at h1; rw [q] at h1; exact h1
        obtain ⟨_, vs, e1, r2⟩ := k1.mts p _ q
        obtain ⟨k2, s2⟩ := k1.freeze q e1
        cases r1.toRef
        exact post _ _ H1 _ _ k2 (s1.trans s2) (.lst upd_same (r2.mono s2.same)) h1
      | ins C fs =>
        have h1 : R (.ref p) μ1 := by
          unfold frz at h1; dsimp only at h1; rw [q] at h1; exact h1
        exact post S1 μ1 H1 v1 _ k1 s1 r1 h1
      | tab _ =>
        have h1 : R (.ref p) μ1 := by
          unfold frz at h1; dsimp only at h1; rw [q] at h1; exact h1
        exact post S1 μ1 H1 v1 _ k1 s1 r1 h1
      | dk _ =>
        have h1 : R (.ref p) μ1 := by
          unfold frz at h1; dsimp only at h1; rw [q] at h1; exact h1
        exact post S1 μ1 H1 v1 _ k1 s1 r1 h1
      | dct _ _ =>
        have h1 : R (.ref p) μ1 := by
          unfold frz at h1; dsimp only at h1; rw [q] at h1; exact h1
        exact post S1 μ1 H1 v1 _ k1 s1 r1 h1
  | _ => exact post S1 μ1 H1 v1 _ k1 s1 r1 h1
end

/-! ### operators -/
def gI (c : Int → Int → Prop) (f : Int → Int → D) : G2 := fun x y μ R => match x, y with
  | .int i, .int j => c i j ∧ R (f i j) μ
  | _, _ => False
def gI0 (f : Int → Int → D) : G2 := fun x y μ R => match x, y with
  | .int i, .int j => R (f i j) μ
  | _, _ => False
def gU (f : Int → D) : G1 := fun x μ R => match x with
  | .int i => R (f i) μ
  | _ => False
theorem snd_I {K : PySem.W.Frag} {c : Int → Int → Prop} {f : Int → Int → D} {g : Int → Int → V} (h : ∀ i j S, Rep K S (g i j) (f i j)) : Snd2 K (rI c g) (gI c f) := by
  intro S μ H x y dx dy R Q k rx ry q post
  cases dx <;> cases dy <;> first | exact False.elim q | skip
  cases rx.toInt
  cases ry.toInt
  exact ⟨_, _, rfl, rfl, q.1, post S μ H _ _ k .refl (h _ _ S) q.2⟩
theorem snd_I0 {K : PySem.W.Frag} {f : Int → Int → D} {g : Int → Int → V} (h : ∀ i j S, Rep K S (g i j) (f i j)) : Snd2 K (rI0 g) (gI0 f) := by
  intro S μ H x y dx dy R Q k rx ry q post
  cases dx <;> cases dy <;> first | exact False.elim q | skip
  cases rx.toInt
  cases ry.toInt
  exact ⟨_, _, rfl, rfl, post S μ H _ _ k .refl (h _ _ S) q⟩
def gAdd : G2 := fun x y μ R => match x, y with
  | .int i, .int j => R (.int (i + j)) μ
  | .str i, .str j => i.length + j.length ≤ sizeLine ∧ R (.str (i ++ j)) μ
  | .tup a, .tup b => a.length + b.length ≤ sizeLine ∧ R (.tup (a ++ b)) μ
  | _, _ => match res μ x, res μ y with
    | .lst a, .lst b => a.length + b.length ≤ sizeLine ∧ R (.lst (a ++ b)) μ
    | _, _ => False
/-- the new list may be changed later -/
def gAddM : G2 := fun x y μ R => match res μ x, res μ y with
    | .lst a, .lst b => a.length + b.length ≤ sizeLine ∧ ∀ p, μ p = none → R (.ref p) (updM μ p (.lst (a ++ b)))
    | _, _ => False
section
variable {K : PySem.W.Frag} {X : Cx} {a b : Expr} {fa fb : RX} {pos : Pos}
theorem snd_cat : Snd2 K (rCatA K) (fun x y μ R => match x, y with
  | .tup a, .tup b => a.length + b.length ≤ sizeLine ∧ R (.tup (a ++ b)) μ
  | _, _ => False) := by
  intro S μ H x y dx dy R Q k rx ry q post
  cases dx <;> cases dy <;> first | exact False.elim q | skip
  obtain ⟨a, vs, rfl, h1, r1⟩ := rx.toTup
  obtain ⟨b, ws, rfl, h2, r2⟩ := ry.toTup
  obtain ⟨q1, q⟩ := q
  refine ⟨a, b, vs, ws, rfl, rfl, sqT_same k.sub h1, sqT_same k.sub h2, by rw [r1.length, r2.length]; exact q1, fun e => ?_, fun _ e => ?_, fun _ _ p hp => ?_⟩
  · subst e
    cases r1
    exact post S μ H _ _ k .refl ry q
  · subst e
    cases r2
    rw [List.append_nil] at q
    exact post S μ H _ _ k .refl rx q
  · obtain ⟨k2, s2⟩ := k.alloc (o := .tup (vs ++ ws)) hp
    exact post _ μ _ _ _ k2 s2 (.tup (.of upd_same) ((r1.append r2).mono s2.same)) q
theorem snd_catL : Snd2 K rCat (fun x y μ R => match res μ x, res μ y with
    | .lst a, .lst b => a.length + b.length ≤ sizeLine ∧ R (.lst (a ++ b)) μ
    | _, _ => False) := by
  intro S μ H x y dx dy R Q k rx ry q post
  cases e1 : res μ dx <;> rw [e1] at q <;> first | exact False.elim q | skip
  cases e2 : res μ dy <;> rw [e2] at q <;> first | exact False.elim q | skip
  obtain ⟨a, vs, rfl, h1, r1⟩ := res_lst k rx e1
  obtain ⟨b, ws, rfl, h2, r2⟩ := res_lst k ry e2
  obtain ⟨q1, q⟩ := q
  refine ⟨a, b, vs, ws, rfl, rfl, h1, h2, by rw [r1.length, r2.length]; exact q1, fun p hp => ?_⟩
  obtain ⟨k2, s2⟩ := k.alloc (o := .lst (vs ++ ws)) hp
  exact post _ μ _ _ _ k2 s2 (.lst upd_same ((r1.append r2).mono s2.same)) q
/-- a new changeable list -/
theorem OK.newM {S H : Hp} {μ : MH} {p : Addr} {vs : List V} {ds : List D} (k : OK K S μ H) (hp : H p = none) (r : Reps K S vs ds) : OK K S (updM μ p (.lst ds)) (upd H p (.lst vs)) ∧ Stp S μ H S (updM μ p (.lst ds)) (upd H p (.lst vs)) := by
  obtain ⟨hS, hM⟩ := k.free hp
  refine ⟨k.put hS ⟨vs, upd_same, r⟩, fun _ _ h => h, fun _ _ h => .inl h, fun b o e _ _ => ?_, fun b m e => ?_⟩
  · rw [upd_ne (ne_of_none e hp)]; exact e
  · by_cases q : b = p
    · exact .inl (q ▸ free_none hp)
    · rw [updM_ne q] at e; exact .inr ⟨m, e⟩
theorem snd_catLM : Snd2 K rCat gAddM := by
  intro S μ H x y dx dy R Q k rx ry q post
  unfold gAddM at q
  cases e1 : res μ dx <;> rw [e1] at q <;> first | exact False.elim q | skip
  cases e2 : res μ dy <;> rw [e2] at q <;> first | exact False.elim q | skip
  obtain ⟨a, vs, rfl, h1, r1⟩ := res_lst k rx e1
  obtain ⟨b, ws, rfl, h2, r2⟩ := res_lst k ry e2
  obtain ⟨q1, q⟩ := q
  refine ⟨a, b, vs, ws, rfl, rfl, h1, h2, by rw [r1.length, r2.length]; exact q1, fun p hp => ?_⟩
  obtain ⟨k2, s2⟩ := k.newM hp (r1.append r2)
  exact post _ _ _ _ _ k2 s2 (.ref p) (q p (k.free hp).2)
theorem snd_addstr : Snd2 K (fun x y H Q => ∃ i j, x = .str i ∧ y = .str j ∧ i.length + j.length ≤ sizeLine ∧ Q (.str (i ++ j)) H) (fun x y μ R => match x, y with
  | .str i, .str j => i.length + j.length ≤ sizeLine ∧ R (.str (i ++ j)) μ
  | _, _ => False) := by
  intro S μ H x y dx dy R Q k rx ry q post
  cases dx <;> cases dy <;> first | exact False.elim q | skip
  cases rx.toStr
  cases ry.toStr
  exact ⟨_, _, rfl, rfl, q.1, post S μ H _ _ k .refl (.str _) q.2⟩
theorem de_op {op : Operator} {r : R2} {g : G2} (ho : OpR X (binaryOp op) r) (s : Snd2 X.K r g) (ha : DE X a fa) (hb : DE X b fb) : DE X (.BinOp a op b pos) (rOp g fa fb) := pe_imp (pe_op ho ha hb) (up_op s)
theorem snd_add : Snd2 K (fun x y H Q => rI0 (fun i j => .int (i + j)) x y H Q ∨ (∃ i j, x = .str i ∧ y = .str j ∧ i.length + j.length ≤ sizeLine ∧ Q (.str (i ++ j)) H) ∨ rCatA K x y H Q ∨ rCat x y H Q) gAdd := by
  intro S μ H x y dx dy R Q k rx ry q post
  cases dx with
  | int i =>
    cases dy with
    | int j => exact .inl (snd_I0 (fun i j S => .int (i + j)) S μ H x y _ _ R Q k rx ry q post)
    | _ => exact .inr (.inr (.inr (snd_catL S μ H x y _ _ R Q k rx ry q post)))
  | str i =>
    cases dy with
    | str j => exact .inr (.inl (snd_addstr S μ H x y _ _ R Q k rx ry q post))
    | _ => exact .inr (.inr (.inr (snd_catL S μ H x y _ _ R Q k rx ry q post)))
  | tup i =>
    cases dy with
    | tup j => exact .inr (.inr (.inl (snd_cat S μ H x y _ _ R Q k rx ry q post)))
    | _ => exact .inr (.inr (.inr (snd_catL S μ H x y _ _ R Q k rx ry q post)))
  | _ => exact .inr (.inr (.inr (snd_catL S μ H x y _ _ R Q k rx ry q post)))
theorem de_add (ha : DE X a fa) (hb : DE X b fb) : DE X (.BinOp a .Add b pos) (rOp gAdd fa fb) := de_op (op_add.or (op_add_str.or (op_catA.or op_cat))) snd_add ha hb
theorem de_addM (ha : DE X a fa) (hb : DE X b fb) : DE X (.BinOp a .Add b pos) (rOp gAddM fa fb) := de_op op_cat snd_catLM ha hb
abbrev gSub : G2 := gI0 fun i j => .int (i - j)
abbrev gMul : G2 := gI CBig fun i j => .int (i * j)
abbrev gDiv : G2 := gI CDivX fun i j => .int (i.fdiv j)
abbrev gMod : G2 := gI (fun _ j => j ≠ 0) fun i j => .int (i.fmod j)
abbrev gPow : G2 := gI CPow fun i j => .int (i ^ j.toNat)
theorem de_sub (ha : DE X a fa) (hb : DE X b fb) : DE X (.BinOp a .Sub b pos) (rOp gSub fa fb) := de_op op_sub (snd_I0 fun i j S => .int _) ha hb
theorem de_mul (ha : DE X a fa) (hb : DE X b fb) : DE X (.BinOp a .Mult b pos) (rOp gMul fa fb) := de_op op_mulX (snd_I fun i j S => .int _) ha hb
theorem de_div (ha : DE X a fa) (hb : DE X b fb) : DE X (.BinOp a .FloorDiv b pos) (rOp gDiv fa fb) := de_op op_fdivX (snd_I fun i j S => .int _) ha hb
theorem de_mod (ha : DE X a fa) (hb : DE X b fb) : DE X (.BinOp a .Mod b pos) (rOp gMod fa fb) := de_op op_modN (snd_I fun i j S => .int _) ha hb
theorem de_pow (ha : DE X a fa) (hb : DE X b fb) : DE X (.BinOp a .Pow b pos) (rOp gPow fa fb) := de_op op_pow (snd_I fun i j S => .int _) ha hb
theorem snd_U {f : Int → D} {g : Int → V} (h : ∀ i S, Rep K S (g i) (f i)) : Snd1 K (rU g) (gU f) := by
  intro S μ H x dx R Q k rx q post
  cases dx <;> first | exact False.elim q | skip
  cases rx.toInt
  exact ⟨_, rfl, post S μ H _ _ k .refl (h _ S) q⟩
theorem de_neg (ha : DE X a fa) : DE X (.UnaryOp .USub a pos) (rUn (gU fun i => .int (-i)) fa) := pe_imp (pe_un un_neg ha) (up_un (snd_U fun i S => .int _))
end

/-! ### comparisons -/
abbrev gLt : G2 := gI0 fun i j => .bl (decide (i < j))
abbrev gLe : G2 := gI0 fun i j => .bl (decide (i ≤ j))
abbrev gGt : G2 := gI0 fun i j => .bl (decide (j < i))
abbrev gGe : G2 := gI0 fun i j => .bl (decide (j ≤ i))
def gEq : G2 := fun x y μ R => pureN 20 (res μ x) = true ∧ pureN 20 (res μ y) = true ∧ R (.bl (deq (res μ x) (res μ y))) μ
def gNe : G2 := fun x y μ R => pureN 20 (res μ x) = true ∧ pureN 20 (res μ y) = true ∧ R (.bl (!deq (res μ x) (res μ y))) μ
/-- two ints, two texts, two bools: no stack is asked -/
def isNonD : D → Bool
  | .non => true
  | _ => false
def gIsN : G2 := fun x y μ R => match y with
  | .non => R (.bl (isNonD x)) μ
  | _ => False
def gNotN : G2 := fun x y μ R => match y with
  | .non => R (.bl (!isNonD x)) μ
  | _ => False
section
variable {K : PySem.W.Frag} {X : Cx} {a b c : Expr} {fa fb fc : RX} {pos : Pos}
theorem snd_eq : Snd2 K (rEqD K) gEq := by
  intro S μ H x y dx dy R Q k rx ry q post
  obtain ⟨p1, p2, q⟩ := q
  exact ⟨_, _, res_dp k rx p1, res_dp k ry p2, pure_shaped p1 (by decide), pure_shaped p2 (by decide), post S μ H _ _ k .refl (.bl _) q⟩
theorem snd_ne : Snd2 K (rNeD K) gNe := by
  intro S μ H x y dx dy R Q k rx ry q post
  obtain ⟨p1, p2, q⟩ := q
  exact ⟨_, _, res_dp k rx p1, res_dp k ry p2, pure_shaped p1 (by decide), pure_shaped p2 (by decide), post S μ H _ _ k .refl (.bl _) q⟩
theorem isNon_iff {S : Hp} {x : V} {d : D} (r : Rep K S x d) : decide (x = .non) = isNonD d := by
  cases r <;> first | rfl | exact decide_eq_false (fun h => nomatch h)
theorem snd_isN : Snd2 K (fun x y H Q => y = .non ∧ Q (.bl (decide (x = .non))) H) gIsN := by
  intro S μ H x y dx dy R Q k rx ry q post
  unfold gIsN at q
  cases dy <;> first | exact False.elim q | skip
  cases ry.toNon
  exact ⟨rfl, by rw [isNon_iff rx]; exact post S μ H _ _ k .refl (.bl _) q⟩
theorem de_cmp {op : CmpOp} {r : R2} {g : G2} (ho : OpR X (compareOp op) r) (s : Snd2 X.K r g) (ha : DE X a fa) (hb : DE X b fb) (hm : behindInMarks op b = false) : DE X (.Compare a [op] [b] pos) (rOp g fa fb) := pe_imp (pe_cmpR ho ha hb hm) (up_op s)
theorem de_lt (ha : DE X a fa) (hb : DE X b fb) : DE X (.Compare a [.Lt] [b] pos) (rOp gLt fa fb) := de_cmp op_lt (snd_I0 fun i j S => .bl _) ha hb (nomark _)
theorem de_gt (ha : DE X a fa) (hb : DE X b fb) : DE X (.Compare a [.Gt] [b] pos) (rOp gGt fa fb) := de_cmp op_gt (snd_I0 fun i j S => .bl _) ha hb (nomark _)
theorem de_eq (hu : X.A.units + 64 < cLine) (ha : DE X a fa) (hb : DE X b fb) : DE X (.Compare a [.Eq] [b] pos) (rOp gEq fa fb) := de_cmp (op_eqD hu) snd_eq ha hb (nomark _)
theorem de_isN (ha : DE X a fa) (hb : DE X b fb) : DE X (.Compare a [.Is] [b] pos) (rOp gIsN fa fb) := de_cmp op_isN snd_isN ha hb (nomark _)
end

/-! ### tests -/
def rB (f : RX) : RT := fun ρ μ R => f ρ μ fun d μ1 => match d with
  | .bl b => R b μ1
  | _ => False
def rAnd (f g : RT) : RT := fun ρ μ R => f ρ μ fun b μ1 => if b = true then g ρ μ1 R else R false μ1
def rOr (f g : RT) : RT := fun ρ μ R => f ρ μ fun b μ1 => if b = true then R true μ1 else g ρ μ1 R
def rNot (f : RT) : RT := fun ρ μ R => f ρ μ fun b μ1 => R (!b) μ1
def rIfE (t : RT) (f g : RX) : RX := fun ρ μ R => t ρ μ fun b μ1 => if b = true then f ρ μ1 R else g ρ μ1 R
def rAndV (f g : RX) : RX := fun ρ μ R => f ρ μ fun d μ1 => match d with
  | .bl b => if b = true then g ρ μ1 R else R (.bl false) μ1
  | _ => False
def rOrV (f g : RX) : RX := fun ρ μ R => f ρ μ fun d μ1 => match d with
  | .bl b => if b = true then R (.bl true) μ1 else g ρ μ1 R
  | _ => False
def rNotV (f : RX) : RX := fun ρ μ R => f ρ μ fun d μ1 => match d with
  | .bl b => R (.bl (!b)) μ1
  | _ => False
section
variable {X : Cx} {a b c : Expr} {rest : List Expr} {fa fb : RX} {ta tb tc : RT} {pos : Pos}
theorem dt_cmp {op : CmpOp} {r : R2} {g : G2} (ho : OpR X (compareOp op) r) (s : Snd2 X.K r g) (ha : DE X a fa) (hb : DE X b fb) (hm : behindInMarks op b = false) : DT X (.Compare a [op] [b] pos) (rB (rOp g fa fb)) := pt_imp (pt_cmpR ho ha hb hm) fun σ H Q ⟨S, μ, ρ, R, k, e, h, post⟩ => by
  refine up_op s σ H (fun x H' => ∃ k, x = .bl k ∧ Q k H') ⟨S, μ, ρ, _, k, e, h, fun S1 μ1 H1 v1 d1 k1 s1 r1 h1 => ?_⟩
  cases d1 <;> first | exact False.elim h1 | skip
  cases r1.toBl
  exact ⟨_, rfl, post S1 μ1 H1 _ k1 s1 h1⟩
theorem dt_lt (ha : DE X a fa) (hb : DE X b fb) : DT X (.Compare a [.Lt] [b] pos) (rB (rOp gLt fa fb)) := dt_cmp op_lt (snd_I0 fun i j S => .bl _) ha hb (nomark _)
theorem dt_gt (ha : DE X a fa) (hb : DE X b fb) : DT X (.Compare a [.Gt] [b] pos) (rB (rOp gGt fa fb)) := dt_cmp op_gt (snd_I0 fun i j S => .bl _) ha hb (nomark _)
theorem dt_ge (ha : DE X a fa) (hb : DE X b fb) : DT X (.Compare a [.GtE] [b] pos) (rB (rOp gGe fa fb)) := dt_cmp op_ge (snd_I0 fun i j S => .bl _) ha hb (nomark _)
theorem dt_eq (hu : X.A.units + 64 < cLine) (ha : DE X a fa) (hb : DE X b fb) : DT X (.Compare a [.Eq] [b] pos) (rB (rOp gEq fa fb)) := dt_cmp (op_eqD hu) snd_eq ha hb (nomark _)
theorem dt_ne (hu : X.A.units + 64 < cLine) (ha : DE X a fa) (hb : DE X b fb) : DT X (.Compare a [.NotEq] [b] pos) (rB (rOp gNe fa fb)) := dt_cmp (op_neD hu) snd_ne ha hb (nomark _)
theorem dt_isN (ha : DE X a fa) (hb : DE X b fb) : DT X (.Compare a [.Is] [b] pos) (rB (rOp gIsN fa fb)) := dt_cmp op_isN snd_isN ha hb (nomark _)
theorem dt_val (h : DE X a fa) (he : ∀ whole, isTrue a X.env whole = (do let v ← whole; standAt a.pos; holding [v] (truthy v)) := by intro _; rfl) : DT X a (rB fa) := pt_imp (pt_val h he) fun σ H Q ⟨S, μ, ρ, R, k, e, h, post⟩ => by
  refine ⟨S, μ, ρ, _, k, e, h, fun S1 μ1 H1 v1 d1 k1 s1 r1 h1 => ?_⟩
  cases d1 <;> first | exact False.elim h1 | skip
  exact ⟨_, r1.toBl, post S1 μ1 H1 _ k1 s1 h1⟩
theorem dw_and1 (ha : DT X a ta) : DW X (.BoolOp .And [a] pos) ta := pw_and1 ha
theorem dw_or1 (ha : DT X a ta) : DW X (.BoolOp .Or [a] pos) ta := pw_or1 ha
theorem dw_and (ha : DT X a ta) (hb : DW X (.BoolOp .And (b :: rest) pos) tb) : DW X (.BoolOp .And (a :: b :: rest) pos) (rAnd ta tb) := pw_imp (pw_and ha hb) fun σ H Q ⟨S, μ, ρ, R, k, e, h, post⟩ => by
  refine ⟨S, μ, ρ, _, k, e, h, fun S1 μ1 H1 b1 k1 s1 h1 => ?_⟩
  cases b1 with
  | true => rw [if_pos rfl] at h1 ⊢; exact ⟨S1, μ1, ρ, _, k1, e.mono s1.same, h1, fun S2 μ2 H2 b2 k2 s2 h2 => post S2 μ2 H2 b2 k2 (s1.trans s2) h2⟩
  | false => rw [if_neg Bool.false_ne_true] at h1 ⊢; exact post S1 μ1 H1 _ k1 s1 h1
theorem dw_or (ha : DT X a ta) (hb : DW X (.BoolOp .Or (b :: rest) pos) tb) : DW X (.BoolOp .Or (a :: b :: rest) pos) (rOr ta tb) := pw_imp (pw_or ha hb) fun σ H Q ⟨S, μ, ρ, R, k, e, h, post⟩ => by
  refine ⟨S, μ, ρ, _, k, e, h, fun S1 μ1 H1 b1 k1 s1 h1 => ?_⟩
  cases b1 with
  | true => rw [if_pos rfl] at h1 ⊢; exact post S1 μ1 H1 _ k1 s1 h1
  | false => rw [if_neg Bool.false_ne_true] at h1 ⊢; exact ⟨S1, μ1, ρ, _, k1, e.mono s1.same, h1, fun S2 μ2 H2 b2 k2 s2 h2 => post S2 μ2 H2 b2 k2 (s1.trans s2) h2⟩
theorem dt_w (h : DW X a ta) : DT X a ta := PW.pt h
theorem dt_not (ha : DT X a ta) : DT X (.UnaryOp .Not a pos) (rNot ta) := pt_imp (pt_not ha) fun σ H Q ⟨S, μ, ρ, R, k, e, h, post⟩ =>
  ⟨S, μ, ρ, _, k, e, h, fun S1 μ1 H1 b1 k1 s1 h1 => post S1 μ1 H1 _ k1 s1 h1⟩
theorem de_if (hc : DT X c tc) (ha : DE X a fa) (hb : DE X b fb) : DE X (.IfExp c a b pos) (rIfE tc fa fb) := pe_imp (pe_ifExp hc ha hb) fun σ H Q ⟨S, μ, ρ, R, k, e, h, post⟩ => by
  refine ⟨S, μ, ρ, _, k, e, h, fun S1 μ1 H1 b1 k1 s1 h1 => ?_⟩
  cases b1 with
  | true => rw [if_pos rfl] at h1 ⊢; exact ⟨S1, μ1, ρ, _, k1, e.mono s1.same, h1, fun S2 μ2 H2 v d k2 s2 r2 h2 => post S2 μ2 H2 v d k2 (s1.trans s2) r2 h2⟩
  | false => rw [if_neg Bool.false_ne_true] at h1 ⊢; exact ⟨S1, μ1, ρ, _, k1, e.mono s1.same, h1, fun S2 μ2 H2 v d k2 s2 r2 h2 => post S2 μ2 H2 v d k2 (s1.trans s2) r2 h2⟩
theorem de_one {op} {f : RX} (h : DE X a f) : DE X (.BoolOp op [a] pos) f := pe_one h
theorem de_and (ha : DE X a fa) (hb : DE X (.BoolOp .And (b :: rest) pos) fb) : DE X (.BoolOp .And (a :: b :: rest) pos) (rAndV fa fb) := pe_imp (pe_and ha hb) fun σ H Q ⟨S, μ, ρ, R, k, e, h, post⟩ => by
  refine ⟨S, μ, ρ, _, k, e, h, fun S1 μ1 H1 v1 d1 k1 s1 r1 h1 => ?_⟩
  cases d1 with
  | bl b1 =>
    refine ⟨b1, r1.toBl, ?_⟩
    have h1 : (if b1 = true then fb ρ μ1 R else R (.bl false) μ1) := h1
    cases b1 with
    | true => rw [if_pos rfl] at h1 ⊢; exact ⟨S1, μ1, ρ, _, k1, e.mono s1.same, h1, fun S2 μ2 H2 v d k2 s2 r2 h2 => post S2 μ2 H2 v d k2 (s1.trans s2) r2 h2⟩
    | false => rw [if_neg Bool.false_ne_true] at h1 ⊢; exact post S1 μ1 H1 _ _ k1 s1 (.bl _) h1
  | _ => exact False.elim h1
theorem de_or (ha : DE X a fa) (hb : DE X (.BoolOp .Or (b :: rest) pos) fb) : DE X (.BoolOp .Or (a :: b :: rest) pos) (rOrV fa fb) := pe_imp (pe_or ha hb) fun σ H Q ⟨S, μ, ρ, R, k, e, h, post⟩ => by
  refine ⟨S, μ, ρ, _, k, e, h, fun S1 μ1 H1 v1 d1 k1 s1 r1 h1 => ?_⟩
  cases d1 with
  | bl b1 =>
    refine ⟨b1, r1.toBl, ?_⟩
    have h1 : (if b1 = true then R (.bl true) μ1 else fb ρ μ1 R) := h1
    cases b1 with
    | true => rw [if_pos rfl] at h1 ⊢; exact post S1 μ1 H1 _ _ k1 s1 (.bl _) h1
    | false => rw [if_neg Bool.false_ne_true] at h1 ⊢; exact ⟨S1, μ1, ρ, _, k1, e.mono s1.same, h1, fun S2 μ2 H2 v d k2 s2 r2 h2 => post S2 μ2 H2 v d k2 (s1.trans s2) r2 h2⟩
  | _ => exact False.elim h1
theorem de_not (ha : DE X a fa) : DE X (.UnaryOp .Not a pos) (rNotV fa) := pe_imp (pe_not ha) fun σ H Q ⟨S, μ, ρ, R, k, e, h, post⟩ => by
  refine ⟨S, μ, ρ, _, k, e, h, fun S1 μ1 H1 v1 d1 k1 s1 r1 h1 => ?_⟩
  cases d1 <;> first | exact False.elim h1 | skip
  exact ⟨_, r1.toBl, post S1 μ1 H1 _ _ k1 s1 (.bl _) h1⟩
end
end L3

/-! ## L3c -/
set_option Elab.async false
set_option linter.all false
set_option maxRecDepth 100000
set_option maxHeartbeats 4000000
namespace L3
open PySem PySem.Spec PyProof.Rows L2

/-! ### arguments, displays -/
def rNil : RA := fun _ μ R => R [] μ
def rCons (fa : RX) (fr : RA) : RA := fun ρ μ R => fa ρ μ fun d μ1 => fr ρ μ1 fun ds μ2 => R (d :: ds) μ2
def rStar (fa : RX) (fr : RA) : RA := fun ρ μ R => fa ρ μ fun d μ1 => match seqD (res μ1 d) with
  | some xs => fr ρ μ1 fun ds μ2 => R (xs ++ ds) μ2
  | none => False
def rTup (fa : RA) : RX := fun ρ μ R => fa ρ μ fun ds μ1 => ds.length ≤ sizeLine ∧ R (.tup ds) μ1
def rLst (fa : RA) : RX := fun ρ μ R => fa ρ μ fun ds μ1 => ds.length ≤ sizeLine ∧ R (.lst ds) μ1
def rLstM (fa : RA) : RX := fun ρ μ R => fa ρ μ fun ds μ1 => ds.length ≤ sizeLine ∧ ∀ p, μ1 p = none → R (.ref p) (updM μ1 p (.lst ds))
section
variable {X : Cx} {e : Expr} {es : List Expr} {fe : RX} {fa : RA} {pos p : Pos}
theorem da_nil : DA X [] rNil := pa_imp pa_nil fun σ H Q ⟨S, μ, ρ, R, k, e, h, post⟩ => post S μ H [] [] k .refl .nil h
theorem da_cons (ha : DE X e fe) (hr : DA X es fa) (hs : starEach (e :: es) X.env = (false, eval e X.env) :: starEach es X.env := by rfl) : DA X (e :: es) (rCons fe fa) := pa_imp (pa_cons ha hr hs) fun σ H Q ⟨S, μ, ρ, R, k, e, h, post⟩ => by
  refine ⟨S, μ, ρ, _, k, e, h, fun S1 μ1 H1 v1 d1 k1 s1 r1 h1 => ?_⟩
  exact ⟨S1, μ1, ρ, _, k1, e.mono s1.same, h1, fun S2 μ2 H2 vs ds k2 s2 r2 h2 => post S2 μ2 H2 _ _ k2 (s1.trans s2) (.cons (r1.mono s2.same) r2) h2⟩
theorem da_star (ha : DE X e fe) (hr : DA X es fa) (hs : starEach (.Starred e p :: es) X.env = (true, eval e X.env) :: starEach es X.env := by rfl) : DA X (.Starred e p :: es) (rStar fe fa) := pa_imp (StX.pa_star ha hr hs) fun σ H Q ⟨S, μ, ρ, R, k, e, h, post⟩ => by
  refine ⟨S, μ, ρ, _, k, e, h, fun S1 μ1 H1 v1 d1 k1 s1 r1 h1 => ?_⟩
  cases q : seqD (res μ1 d1) with
  | none => rw [q] at h1; exact h1.elim
  | some xs =>
    rw [q] at h1
    obtain ⟨a, vs, e1, h2, r2⟩ := seq_rep k1 r1 q
    refine ⟨a, vs, e1, h2.symm, S1, μ1, ρ, _, k1, e.mono s1.same, h1, fun S2 μ2 H2 ws ds k2 s2 r3 h3 => post S2 μ2 H2 _ _ k2 (s1.trans s2) ((r2.mono s2.same).append r3) h3⟩
theorem de_tup {x1} (h : DA X es fa) : DE X (.Tuple es x1 pos) (rTup fa) := pe_imp (pe_tup h) fun σ H Q ⟨S, μ, ρ, R, k, e, h, post⟩ => by
  refine ⟨S, μ, ρ, _, k, e, h, fun S1 μ1 H1 vs ds k1 s1 r1 h1 => ⟨by rw [r1.length]; exact h1.1, fun p hp => ?_⟩⟩
  obtain ⟨k2, s2⟩ := k1.alloc (o := .tup vs) hp
  exact post _ _ _ _ _ k2 (s1.trans s2) (.tup (.of upd_same) (r1.mono s2.same)) h1.2
theorem de_lst (h : DA X es fa) : DE X (.List es pos) (rLst fa) := pe_imp (pe_lst h) fun σ H Q ⟨S, μ, ρ, R, k, e, h, post⟩ => by
  refine ⟨S, μ, ρ, _, k, e, h, fun S1 μ1 H1 vs ds k1 s1 r1 h1 => ⟨by rw [r1.length]; exact h1.1, fun p hp => ?_⟩⟩
  obtain ⟨k2, s2⟩ := k1.alloc (o := .lst vs) hp
  exact post _ _ _ _ _ k2 (s1.trans s2) (.lst upd_same (r1.mono s2.same)) h1.2
theorem de_lstM (h : DA X es fa) : DE X (.List es pos) (rLstM fa) := pe_imp (pe_lst h) fun σ H Q ⟨S, μ, ρ, R, k, e, h, post⟩ => by
  refine ⟨S, μ, ρ, _, k, e, h, fun S1 μ1 H1 vs ds k1 s1 r1 h1 => ⟨by rw [r1.length]; exact h1.1, fun p hp => ?_⟩⟩
  obtain ⟨k2, s2⟩ := k1.newM hp r1
  exact post _ _ _ _ _ k2 (s1.trans s2) (.ref p) (h1.2 p (k1.free hp).2)
end

/-! ### items, slices -/
theorem atI_rep {K : PySem.W.Frag} {S : Hp} {vs : List V} {ds : List D} {i : Int} {d : D} (r : Reps K S vs ds) (e : atI ds i = some d) : ∃ v, atI vs i = some v ∧ Rep K S v d := by
  unfold atI at e ⊢
  rw [r.length]
  cases q : ixN ds.length i with
  | none => rw [q] at e; cases e
  | some j =>
    rw [q] at e
    exact r.get (show ds[j]? = some d from e)
def gIx : G2 := fun x y μ R => match y with
  | .int i => (match seqD (res μ x) with
    | some ds => (match atI ds i with
      | some d => R d μ
      | none => False)
    | none => False)
  | _ => False
theorem atI_lit {α : Type} (l : List α) (n : Nat) : atI l (n : Int) = l[n]? := by
  cases q : l[n]? with
  | some v => exact atI_nat q
  | none =>
    unfold atI ixN
    have h := List.getElem?_eq_none_iff.mp q
    rw [if_pos (by omega), if_neg (by omega)]
    rfl
theorem atI_0 {α : Type} (l : List α) : atI l 0 = l[0]? := atI_lit l 0
theorem atI_1 {α : Type} (l : List α) : atI l 1 = l[1]? := atI_lit l 1
theorem atI_2 {α : Type} (l : List α) : atI l 2 = l[2]? := atI_lit l 2
theorem atI_3 {α : Type} (l : List α) : atI l 3 = l[3]? := atI_lit l 3
theorem atI_4 {α : Type} (l : List α) : atI l 4 = l[4]? := atI_lit l 4
section
variable {K : PySem.W.Frag} {X : Cx} {a b : Expr} {fa fb : RX} {pos : Pos}
theorem snd_ix : Snd2 K (rIx K) gIx := by
  intro S μ H x y dx dy R Q k rx ry q post
  unfold gIx at q
  cases dy <;> first | exact False.elim q | skip
  rename_i i
  dsimp only at q
  cases q1 : seqD (res μ dx) with
  | none => rw [q1] at q; exact q.elim
  | some ds =>
    rw [q1] at q
    dsimp only at q
    cases q2 : atI ds i with
    | none => rw [q2] at q; exact q.elim
    | some d =>
      rw [q2] at q
      obtain ⟨p, vs, rfl, h1, r1⟩ := seq_rep k rx q1
      obtain ⟨v, h2, r2⟩ := atI_rep r1 q2
      cases ry.toInt
      rcases h1 with h1 | h1
      · exact .inl ⟨p, vs, i, v, rfl, rfl, h1, h2, post S μ H _ _ k .refl r2 q⟩
      · exact .inr (.inl ⟨p, vs, i, v, rfl, rfl, h1, h2, post S μ H _ _ k .refl r2 q⟩)
theorem de_ix (ha : DE X a fa) (hb : DE X b fb) (hs : PlainIx b := by exact fun _ _ => rfl) : DE X (.Subscript a b pos) (rOp gIx fa fb) := pe_imp (pe_ix ix_seq ha hb hs) (up_op snd_ix)
end
def cutD (xs : List D) (lo hi : Option Int) : List D := (xs.drop (HT.sIx xs.length 0 lo)).take (HT.sIx xs.length xs.length hi - HT.sIx xs.length 0 lo)
theorem cut_rep {K : PySem.W.Frag} {S : Hp} {vs : List V} {ds : List D} (r : Reps K S vs ds) (lo hi : Option Int) : Reps K S (cutV vs lo hi) (cutD ds lo hi) := by
  unfold cutV cutD
  rw [r.length]
  exact (r.drop _).take _
abbrev RO := EV → MH → (Option Int → MH → Prop) → Prop
def upO (K : PySem.W.Frag) (f : RO) : TO := fun σ H Q => ∃ S μ ρ R, OK K S μ H ∧ RepE K S σ ρ ∧ f ρ μ R ∧ ∀ S' μ' H' o, OK K S' μ' H' → Stp S μ H S' μ' H' → R o μ' → Q o H'
def rNoPart : RO := fun _ μ R => R none μ
def rPart (f : RX) : RO := fun ρ μ R => f ρ μ fun d μ1 => match d with
  | .int i => R (some i) μ1
  | _ => False
def gSl (x : D) (lo hi : Option Int) (μ : MH) (R : D → MH → Prop) : Prop := match res μ x with
  | .tup ds => R (.tup (cutD ds lo hi)) μ
  | .lst ds => R (.lst (cutD ds lo hi)) μ
  | _ => False
def rSl (fe : RX) (fl fh : RO) : RX := fun ρ μ R => fe ρ μ fun x μ1 => fl ρ μ1 fun lo μ2 => fh ρ μ2 fun hi μ3 => gSl x lo hi μ3 R
section
variable {X : Cx} {e : Expr} {fe : RX} {lo hi : Option Expr} {fl fh : RO} {pos p2 : Pos}
theorem po_imp {t u : TO} {e : Option Expr} (h : PO X e t) (i : ∀ σ H Q, u σ H Q → t σ H Q) : PO X e u := ⟨fun pins s σ H Q I q => h.run pins s σ H Q I (i σ H Q q)⟩
theorem do_none : PO X none (upO X.K rNoPart) := po_imp po_none fun σ H Q ⟨S, μ, ρ, R, k, e, h, post⟩ => post S μ H _ k .refl h
theorem do_some (h : DE X e fe) : PO X (some e) (upO X.K (rPart fe)) := po_imp (po_some h) fun σ H Q ⟨S, μ, ρ, R, k, e, h, post⟩ => by
  refine ⟨S, μ, ρ, _, k, e, h, fun S1 μ1 H1 v1 d1 k1 s1 r1 h1 => ?_⟩
  cases d1 <;> first | exact False.elim h1 | skip
  exact ⟨_, r1.toInt, post S1 μ1 H1 _ k1 s1 h1⟩
theorem de_slice (he : DE X e fe) (hl : PO X lo (upO X.K fl)) (hu : PO X hi (upO X.K fh)) : DE X (.Subscript e (.Slice lo hi none p2) pos) (rSl fe fl fh) := pe_imp (pe_slice (sl_tupA.or sl_list) he hl hu) fun σ H Q ⟨S, μ, ρ, R, k, e, h, post⟩ => by
  refine ⟨S, μ, ρ, _, k, e, h, fun S1 μ1 H1 v1 d1 k1 s1 r1 h1 => ?_⟩
  refine ⟨S1, μ1, ρ, _, k1, e.mono s1.same, h1, fun S2 μ2 H2 o2 k2 s2 h2 => ?_⟩
  refine ⟨S2, μ2, ρ, _, k2, (e.mono s1.same).mono s2.same, h2, fun S3 μ3 H3 o3 k3 s3 h3 => ?_⟩
  have r3 := r1.mono (s2.trans s3).same
  have s13 := (s1.trans s2).trans s3
  unfold gSl at h3
  cases q : res μ3 d1 with
  | tup ds =>
    rw [q] at h3
    have z := res_tup r3 q
    subst z
    obtain ⟨p, vs, rfl, a1, a2⟩ := r3.toTup
    refine .inl ⟨p, vs, rfl, sqT_same k3.sub a1, fun w => ?_, fun w p' hp => ?_⟩
    · have ec : cutD ds o2 o3 = ds := by
        unfold cutD
        rw [a2.length] at w
        rw [w.1, w.2]
        simp
      have h3 : R (.tup (cutD ds o2 o3)) μ3 := h3
      rw [ec] at h3
      exact post S3 μ3 H3 _ _ k3 s13 r3 h3
    · obtain ⟨k4, s4⟩ := k3.alloc (o := .tup (cutV vs o2 o3)) hp
      exact post _ _ _ _ _ k4 (s13.trans s4) (.tup (.of upd_same) ((cut_rep a2 o2 o3).mono s4.same)) h3
  | lst ds =>
    rw [q] at h3
    obtain ⟨p, vs, rfl, a1, a2⟩ := res_lst k3 r3 q
    refine .inr ⟨p, vs, rfl, .of a1, fun p' hp => ?_⟩
    obtain ⟨k4, s4⟩ := k3.alloc (o := .lst (cutV vs o2 o3)) hp
    exact post _ _ _ _ _ k4 (s13.trans s4) (.lst upd_same ((cut_rep a2 o2 o3).mono s4.same)) h3
  | _ => rw [q] at h3; exact h3.elim
end

/-! ### own defs -/
def spD (K : PySem.W.Frag) (s : GN) : Sp := fun vs H Q _ => ∃ S μ ds R, OK K S μ H ∧ Reps K S vs ds ∧ s ds μ R ∧ Pst K S μ H R Q
/-- the module's name x is a def that keeps s, with every parameter given -/
structure FnG (P : Program) (w : World) (K : PySem.W.Frag) (mg : Str → Option Value) (base : Heap) (k : Nat) (x : Str) (s : GN) : Prop where
  ex : ∃ f fd ps, FnOk P w K mg base CX0 k f fd ps (spD K s) ∧ mg x = some (.ref f) ∧ PySem.W.keepIn K (.ref f) = true ∧ Binds K fd ps []
theorem FnG.mono {P : Program} {w : World} {K : PySem.W.Frag} {mg : Str → Option Value} {base : Heap} {j k : Nat} {x : Str} {s : GN} (F : FnG P w K mg base j x s) (h : j ≤ k) : FnG P w K mg base k x s :=
  let ⟨f, fd, ps, a, b, c, d⟩ := F.ex; ⟨f, fd, ps, a.mono h, b, c, d⟩
theorem spD_imp {K : PySem.W.Frag} {s s' : GN} (h : ∀ ds μ R, s' ds μ R → s ds μ R) : ∀ vs H Q E, spD K s' vs H Q E → spD K s vs H Q E := fun vs H Q E ⟨S, μ, ds, R, a, b, c, d⟩ => ⟨S, μ, ds, R, a, b, h _ _ _ c, d⟩
theorem FnG.imp {P : Program} {w : World} {K : PySem.W.Frag} {mg : Str → Option Value} {base : Heap} {k : Nat} {x : Str} {s s' : GN} (F : FnG P w K mg base k x s) (h : ∀ ds μ R, s' ds μ R → s ds μ R) : FnG P w K mg base k x s' :=
  let ⟨f, fd, ps, a, b, c, d⟩ := F.ex; ⟨f, fd, ps, a.imp (spD_imp h), b, c, d⟩
section
variable {X : Cx} {k : Nat} {x : Str} {s : GN} {e : Expr} {es : List Expr} {fa : RA} {fe : RX} {p pos p2 : Pos}
theorem de_call (F : FnG X.prog X.w X.K X.mg X.base k x s) (hr : Room k X.A) (hg : Gl X x) (ha : DA X (e :: es) fa) (hdb : (x == ("__debug__" : Str)) = false := by decide)
    (he : starEach (e :: es) X.env = (false, eval e X.env) :: starEach es X.env := by rfl) (hpl : (backTo pos (starEach es X.env)).any (·.1) = false := by rfl) : DE X (.Call (.Name x p) (e :: es) [] pos) (rCl s fa) := by
  obtain ⟨f, fd, ps, a, b, c, d⟩ := F.ex
  refine pe_imp (pe_call a hr hg b c d .nil pass0 ha hdb he hpl) fun σ H Q ⟨S, μ, ρ, R, k, e, h, post⟩ => ?_
  refine ⟨S, μ, ρ, _, k, e, h, fun S1 μ1 H1 vs ds k1 s1 r1 h1 => ?_⟩
  show spD X.K s (vs ++ []) H1 Q E0
  rw [List.append_nil]
  exact ⟨S1, μ1, ds, R, k1, r1, h1, fun S3 μ3 H3 v d k3 s3 r3 h3 => post S3 μ3 H3 v d k3 (s1.trans s3) r3 h3⟩
end

/-! ### built-ins -/
section
variable {K : PySem.W.Frag} {X : Cx} {r : List V → Hp → VK → Prop} {g : GN} {id T : String} {x : Str} {e : Expr} {es : List Expr} {fa : RA} {p pos : Pos}
theorem de_callB (hc : CallR X (.builtin id) r) (s : SndN X.K r g) (hg : Gl X x) (hm : X.mg x = none) (hv : bootBuiltins x = some (.builtin id)) (ha : DA X (e :: es) fa) (hn : x ≠ "__name__" := by decide) (hdb : (x == ("__debug__" : Str)) = false := by decide)
    (he : starEach (e :: es) X.env = (false, eval e X.env) :: starEach es X.env := by rfl) (hpl : (backTo pos (starEach es X.env)).any (·.1) = false := by rfl) : DE X (.Call (.Name x p) (e :: es) [] pos) (rCl g fa) :=
  pe_imp (pe_callB hc hg hm hv ha hn hdb he hpl) (up_cl s)
theorem de_callTy (hc : CallR X (.type T) r) (s : SndN X.K r g) (hg : Gl X x) (hm : X.mg x = none) (hv : bootBuiltins x = some (.type T)) (ha : DA X (e :: es) fa) (hn : x ≠ "__name__" := by decide) (hdb : (x == ("__debug__" : Str)) = false := by decide)
    (he : starEach (e :: es) X.env = (false, eval e X.env) :: starEach es X.env := by rfl) (hpl : (backTo pos (starEach es X.env)).any (·.1) = false := by rfl) : DE X (.Call (.Name x p) (e :: es) [] pos) (rCl g fa) :=
  pe_imp (pe_callTy hc hg hm hv ha hn hdb he hpl) (up_cl s)
theorem reps1 {S : Hp} {xs : List V} {d : D} (r : Reps K S xs [d]) : ∃ v, xs = [v] ∧ Rep K S v d := by
  cases r with
  | cons h r => cases r; exact ⟨_, rfl, h⟩
theorem reps2 {S : Hp} {xs : List V} {d d2 : D} (r : Reps K S xs [d, d2]) : ∃ v w, xs = [v, w] ∧ Rep K S v d ∧ Rep K S w d2 := by
  cases r with
  | cons h r =>
    cases r with
    | cons h2 r => cases r; exact ⟨_, _, rfl, h, h2⟩
def gAbs : GN := fun ds μ R => match ds with
  | [.int i] => R (.int (if i < 0 then -i else i)) μ
  | _ => False
theorem snd_abs : SndN K (fun xs H Q => ∃ i, xs = [.int i] ∧ Q (.int (if i < 0 then -i else i)) H) gAbs := by
  intro S μ H xs dxs R Q k r q post
  unfold gAbs at q
  split at q
  · obtain ⟨v, rfl, r1⟩ := reps1 r
    cases r1.toInt
    exact ⟨_, rfl, post S μ H _ _ k .refl (.int _) q⟩
  · exact q.elim
def gLen : GN := fun ds μ R => match ds with
  | [d] => (match seqD (res μ d) with
    | some xs => R (.int xs.length) μ
    | none => False)
  | _ => False
theorem snd_len : SndN K (fun xs H Q => ∃ p ys, xs = [.ref p] ∧ (SqL K H p ys ∨ SqT K H p ys) ∧ Q (.int ys.length) H) gLen := by
  intro S μ H xs dxs R Q k r q post
  unfold gLen at q
  split at q
  · rename_i d
    obtain ⟨v, rfl, r1⟩ := reps1 r
    cases q1 : seqD (res μ d) with
    | none => rw [q1] at q; exact q.elim
    | some ds =>
      rw [q1] at q
      obtain ⟨p, vs, rfl, h1, r2⟩ := seq_rep k r1 q1
      exact ⟨p, vs, rfl, h1, post S μ H _ _ k .refl (by rw [r2.length]; exact .int _) q⟩
  · exact q.elim
/-- all(..), any(..) of a list of truth values -/
def bools : List D → Option (List Bool)
  | [] => some []
  | .bl b :: r => (bools r).map (b :: ·)
  | _ :: _ => none
theorem bools_rep {S : Hp} : ∀ {ds : List D} {vs : List V} {bs : List Bool}, Reps K S vs ds → bools ds = some bs → vs = bs.map V.bl
  | [], _, _, .nil, e => by cases e; rfl
  | .bl b :: r, _, bs, .cons h t, e => by
    unfold bools at e
    cases q : bools r with
    | none => rw [q] at e; cases e
    | some cs =>
      rw [q] at e
      cases e
      rw [h.toBl, bools_rep t q]
      rfl
  | .non :: r, _, bs, _, e => by cases e
  | .int _ :: r, _, bs, _, e => by cases e
  | .str _ :: r, _, bs, _, e => by cases e
  | .tup _ :: r, _, bs, _, e => by cases e
  | .lst _ :: r, _, bs, _, e => by cases e
  | .scr _ :: r, _, bs, _, e => by cases e
  | .ins _ _ :: r, _, bs, _, e => by cases e
  | .ref _ :: r, _, bs, _, e => by cases e
  | .ty _ :: r, _, bs, _, e => by cases e
def gAll : GN := fun ds μ R => match ds with
  | [d] => (match res μ d with
    | .lst xs => (match bools xs with
      | some bs => R (.bl (bs.all _root_.id)) μ
      | none => False)
    | _ => False)
  | _ => False
def gAny : GN := fun ds μ R => match ds with
  | [d] => (match res μ d with
    | .lst xs => (match bools xs with
      | some bs => R (.bl (bs.any _root_.id)) μ
      | none => False)
    | _ => False)
  | _ => False
theorem snd_all : SndN K (rAll K) gAll := by
  intro S μ H xs dxs R Q k r q post
  unfold gAll at q
  split at q
  · rename_i d
    obtain ⟨v, rfl, r1⟩ := reps1 r
    cases q1 : res μ d <;> rw [q1] at q <;> first | exact False.elim q | skip
    rename_i ds
    dsimp only at q
    cases q2 : bools ds with
    | none => rw [q2] at q; exact q.elim
    | some bs =>
      rw [q2] at q
      obtain ⟨p, vs, rfl, h1, r2⟩ := res_lst k r1 q1
      cases bools_rep r2 q2
      exact ⟨p, bs, rfl, .of h1, post S μ H _ _ k .refl (.bl _) q⟩
  · exact q.elim
theorem snd_any : SndN K (rAny K) gAny := by
  intro S μ H xs dxs R Q k r q post
  unfold gAny at q
  split at q
  · rename_i d
    obtain ⟨v, rfl, r1⟩ := reps1 r
    cases q1 : res μ d <;> rw [q1] at q <;> first | exact False.elim q | skip
    rename_i ds
    dsimp only at q
    cases q2 : bools ds with
    | none => rw [q2] at q; exact q.elim
    | some bs =>
      rw [q2] at q
      obtain ⟨p, vs, rfl, h1, r2⟩ := res_lst k r1 q1
      cases bools_rep r2 q2
      exact ⟨p, bs, rfl, .of h1, post S μ H _ _ k .refl (.bl _) q⟩
  · exact q.elim
/-- tuple(xs), list(xs) -/
def gTuple : GN := fun ds μ R => match ds with
  | [d] => (match seqD (res μ d) with
    | some xs => R (.tup xs) μ
    | none => False)
  | _ => False
theorem snd_tuple : SndN K (fun xs H Q => ∃ p ys, xs = [.ref p] ∧ ((SqL K H p ys ∧ ∀ l, H l = none → Q (.ref l) (upd H l (.tup ys))) ∨ (SqT K H p ys ∧ Q (.ref p) H))) gTuple := by
  intro S μ H xs dxs R Q k r q post
  unfold gTuple at q
  split at q
  · rename_i d
    obtain ⟨v, rfl, r1⟩ := reps1 r
    cases q0 : res μ d with
    | lst ds =>
      rw [q0] at q
      obtain ⟨p, vs, rfl, h1, r2⟩ := res_lst k r1 q0
      refine ⟨p, vs, rfl, .inl ⟨.of h1, fun l hl => ?_⟩⟩
      obtain ⟨k2, s2⟩ := k.alloc (o := .tup vs) hl
      exact post _ _ _ _ _ k2 s2 (.tup (.of upd_same) (r2.mono s2.same)) q
    | tup ds =>
      rw [q0] at q
      have z := res_tup r1 q0
      subst z
      obtain ⟨p, vs, rfl, a1, a2⟩ := r1.toTup
      exact ⟨p, vs, rfl, .inr ⟨sqT_same k.sub a1, post S μ H _ _ k .refl r1 q⟩⟩
    | _ => rw [q0] at q; exact q.elim
  · exact q.elim
/-- isinstance(x, T), T a built-in class -/
def isiD (T : String) : D → Option Bool
  | .non => some false
  | .bl _ => some (T == "bool" || T == "int")
  | .int _ => some (T == "int")
  | .str _ => some (T == "str")
  | .tup _ => some (T == "tuple")
  | .lst _ => some (T == "list")
  | _ => none
def tyOK (T : String) : Bool := T == "bool" || T == "int" || T == "str" || T == "tuple" || T == "list"
def gIsi : GN := fun ds μ R => match ds with
  | [d, .ty T] => tyOK T = true ∧ (match isiD T (res μ d) with
    | some b => R (.bl b) μ
    | none => False)
  | _ => False
theorem sqT_ty {H : Hp} {a : Addr} {xs : List V} (h : SqT K H a xs) : TyX K H (.ref a) (.type "tuple") := by
  rcases h with (h | ⟨o, h⟩) | ⟨o, its, n, e, c, _⟩
  · exact .base (.tup h)
  · exact .fTuple h
  · exact .kTuple e c
theorem snd_isi : SndN K (rIsi K) gIsi := by
  intro S μ H xs dxs R Q k r q post
  unfold gIsi at q
  split at q
  · rename_i d T
    obtain ⟨v, w, rfl, r1, r2⟩ := reps2 r
    obtain ⟨ht, q⟩ := q
    cases r2
    have kk : ∀ t : String, (t = "NoneType" ∨ t = "bool" ∨ t = "int" ∨ t = "str" ∨ t = "tuple" ∨ t = "list") → kitB t T = some (t == T || (t == "bool" && T == "int")) := by
      intro t h
      unfold tyOK at ht
      simp only [Bool.or_eq_true, beq_iff_eq] at ht
      rcases ht with (((rfl | rfl) | rfl) | rfl) | rfl <;> rcases h with rfl | rfl | rfl | rfl | rfl | rfl <;> decide +kernel
    have fin : ∀ (t : String) (b : Bool), TyX K H v (.type t) → (t = "NoneType" ∨ t = "bool" ∨ t = "int" ∨ t = "str" ∨ t = "tuple" ∨ t = "list") → (t == T || (t == "bool" && T == "int")) = b → R (.bl b) μ → rIsi K [v, .ty T] H Q := fun t b h1 h2 h3 h4 =>
      ⟨v, .ty T, .type t, .type T, b, rfl, .ty T, h1, kit_ty (by rw [kk t h2, h3]), post S μ H _ _ k .refl (.bl _) h4⟩
    cases q0 : res μ d with
    | lst ds =>
      rw [q0] at q
      obtain ⟨p, vs, rfl, h1, _⟩ := res_lst k r1 q0
      exact fin "list" _ (.base (.lst h1)) (by simp) (by rw [show ("list" == "bool") = false by decide, Bool.false_and, Bool.or_false]; exact Bool.beq_comm) q
    | tup ds =>
      rw [q0] at q
      have z := res_tup r1 q0
      subst z
      obtain ⟨p, vs, rfl, a1, a2⟩ := r1.toTup
      exact fin "tuple" _ (sqT_ty (sqT_same k.sub a1)) (by simp) (by rw [show ("tuple" == "bool") = false by decide, Bool.false_and, Bool.or_false]; exact Bool.beq_comm) q
    | non =>
      have z : d = .non := by
        cases d with
        | ref a =>
          unfold res at q0
          dsimp only at q0
          cases w : μ a with
          | none => rw [w] at q0; cases q0
          | some m => rw [w] at q0; cases m <;> cases q0
        | _ => exact q0
      subst z
      cases r1.toNon
      rw [q0] at q
      refine fin "NoneType" _ (.base .non) (by simp) ?_ q
      unfold tyOK at ht
      simp only [Bool.or_eq_true, beq_iff_eq] at ht
      rcases ht with (((rfl | rfl) | rfl) | rfl) | rfl <;> decide
    | bl b =>
      have z : d = .bl b := by
        cases d with
        | ref a =>
          unfold res at q0
          dsimp only at q0
          cases w : μ a with
          | none => rw [w] at q0; cases q0
          | some m => rw [w] at q0; cases m <;> cases q0
        | _ => exact q0
      subst z
      cases r1.toBl
      rw [q0] at q
      refine fin "bool" _ (.base (.bl _)) (by simp) ?_ q
      unfold tyOK at ht
      simp only [Bool.or_eq_true, beq_iff_eq] at ht
      rcases ht with (((rfl | rfl) | rfl) | rfl) | rfl <;> decide
    | int b =>
      have z : d = .int b := by
        cases d with
        | ref a =>
          unfold res at q0
          dsimp only at q0
          cases w : μ a with
          | none => rw [w] at q0; cases q0
          | some m => rw [w] at q0; cases m <;> cases q0
        | _ => exact q0
      subst z
      cases r1.toInt
      rw [q0] at q
      exact fin "int" _ (.base (.int _)) (by simp) (by rw [show ("int" == "bool") = false by decide, Bool.false_and, Bool.or_false]; exact Bool.beq_comm) q
    | str b =>
      have z : d = .str b := by
        cases d with
        | ref a =>
          unfold res at q0
          dsimp only at q0
          cases w : μ a with
          | none => rw [w] at q0; cases q0
          | some m => rw [w] at q0; cases m <;> cases q0
        | _ => exact q0
      subst z
      cases r1.toStr
      rw [q0] at q
      exact fin "str" _ (.base (.str _)) (by simp) (by rw [show ("str" == "bool") = false by decide, Bool.false_and, Bool.or_false]; exact Bool.beq_comm) q
    | _ => rw [q0] at q; exact q.elim
  · exact q.elim
end
section
variable {X : Cx} {e e2 : Expr} {fa : RA} {p pos : Pos}
theorem de_abs (hg : Gl X "abs") (hm : X.mg "abs" = none) (ha : DA X [e] fa) (he : starEach [e] X.env = (false, eval e X.env) :: starEach [] X.env := by rfl) : DE X (.Call (.Name "abs" p) [e] [] pos) (rCl gAbs fa) := de_callB call_abs snd_abs hg hm (by decide +kernel) ha (he := he)
theorem de_len (hg : Gl X "len") (hm : X.mg "len" = none) (ha : DA X [e] fa) (he : starEach [e] X.env = (false, eval e X.env) :: starEach [] X.env := by rfl) : DE X (.Call (.Name "len" p) [e] [] pos) (rCl gLen fa) := de_callB call_len_seq snd_len hg hm (by decide +kernel) ha (he := he)
theorem de_all (hg : Gl X "all") (hm : X.mg "all" = none) (ha : DA X [e] fa) (hc : X.calm = true := by rfl) (he : starEach [e] X.env = (false, eval e X.env) :: starEach [] X.env := by rfl) : DE X (.Call (.Name "all" p) [e] [] pos) (rCl gAll fa) := de_callB (cr_all hc) snd_all hg hm (by decide +kernel) ha (he := he)
theorem de_any (hg : Gl X "any") (hm : X.mg "any" = none) (ha : DA X [e] fa) (hc : X.calm = true := by rfl) (he : starEach [e] X.env = (false, eval e X.env) :: starEach [] X.env := by rfl) : DE X (.Call (.Name "any" p) [e] [] pos) (rCl gAny fa) := de_callB (cr_any hc) snd_any hg hm (by decide +kernel) ha (he := he)
theorem de_isi (hg : Gl X "isinstance") (hm : X.mg "isinstance" = none) (ha : DA X [e, e2] fa) (he : starEach [e, e2] X.env = (false, eval e X.env) :: starEach [e2] X.env := by rfl) (hpl : (backTo pos (starEach [e2] X.env)).any (·.1) = false := by rfl) :
    DE X (.Call (.Name "isinstance" p) [e, e2] [] pos) (rCl gIsi fa) := de_callB call_isi snd_isi hg hm (by decide +kernel) ha (he := he) (hpl := hpl)
theorem de_tuple (hg : Gl X "tuple") (hm : X.mg "tuple" = none) (ha : DA X [e] fa) (he : starEach [e] X.env = (false, eval e X.env) :: starEach [] X.env := by rfl) : DE X (.Call (.Name "tuple" p) [e] [] pos) (rCl gTuple fa) := de_callTy call_tuple_of snd_tuple hg hm (by decide +kernel) ha (he := he)
end
end L3

/-! ## L3d -/
set_option Elab.async false
set_option linter.all false
set_option maxRecDepth 100000
set_option maxHeartbeats 4000000
namespace L3
open PySem PySem.Spec PyProof.Rows L2

/-! ### instances -/
/-- an instance: data, or a changeable one -/
def insD (μ : MH) : D → Option (Addr × List (Str × D))
  | .ins C fs => some (C, fs)
  | .ref p => (match μ p with
    | some (.ins C fs) => some (C, fs)
    | _ => none)
  | _ => none
theorem insD_rep {K : PySem.W.Frag} {S H : Hp} {μ : MH} {v : V} {d : D} {C : Addr} {fs : List (Str × D)} (k : OK K S μ H) (r : Rep K S v d) (e : insD μ d = some (C, fs)) : ∃ a dx vfs, v = .ref a ∧ H a = some (.ins C dx vfs) ∧ RepF K S vfs fs := by
  cases r with
  | ins h r => cases e; exact ⟨_, _, _, rfl, k.sub _ _ h, r⟩
  | ref p =>
    unfold insD at e
    dsimp only at e
    cases q : μ p with
    | none => rw [q] at e; cases e
    | some m =>
      rw [q] at e
      cases m with
      | lst ds => cases e
      | tab _ => cases e
      | dk _ => cases e
      | dct _ _ => cases e
      | ins C' fs' =>
        cases e
        obtain ⟨_, dx, vfs, h, r⟩ := k.mts p _ q
        exact ⟨p, dx, vfs, rfl, h, r⟩
  | _ => cases e
def rFld (C : Addr) (f : Str) (fo : RX) : RX := fun ρ μ R => fo ρ μ fun d μ1 => match insD μ1 d with
  | some (C', fs) => C' = C ∧ (match fs.lookup f with
    | some z => R z μ1
    | none => False)
  | none => False
def rMeth (C : Addr) (m : Str) (s : GN) (fo : RX) (fa : RA) : RX := fun ρ μ R => fo ρ μ fun d μ1 => match insD μ1 d with
  | some (C', fs) => C' = C ∧ fs.lookup m = none ∧ fa ρ μ1 fun ds μ2 => s (d :: ds) μ2 R
  | none => False
/-- a property, a call of an instance: s of the instance and the arguments -/
def rOwn (C : Addr) (s : GN) (fo : RX) (fa : RA) : RX := fun ρ μ R => fo ρ μ fun d μ1 => match insD μ1 d with
  | some (C', _) => C' = C ∧ fa ρ μ1 fun ds μ2 => (insD μ2 d).map (·.1) = some C ∧ s (d :: ds) μ2 R
  | none => False
/-- the class at C: the def f of it keeps s -/
structure MtG (P : Program) (w : World) (K : PySem.W.Frag) (mg : Str → Option Value) (base : Heap) (k : Nat) (C f : Addr) (s : GN) : Prop where
  ex : ∃ fd ps, FnOk P w K mg base CX0 k f fd ps (spD K s) ∧ Binds K fd ps []
theorem MtG.raw {P : Program} {w : World} {K : PySem.W.Frag} {mg : Str → Option Value} {base : Heap} {k : Nat} {C f : Addr} {s : GN} (F : MtG P w K mg base k C f s) : FnR P w K mg base CX0 k f (spD K s) := by
  obtain ⟨fd, ps, a, b⟩ := F.ex
  have z := a.raw b (dvs := []) .nil
  simp only [List.append_nil] at z
  exact z
theorem MtG.imp {P : Program} {w : World} {K : PySem.W.Frag} {mg : Str → Option Value} {base : Heap} {k : Nat} {C f : Addr} {s s' : GN} (F : MtG P w K mg base k C f s) (h : ∀ ds μ R, s' ds μ R → s ds μ R) : MtG P w K mg base k C f s' :=
  let ⟨fd, ps, a, d⟩ := F.ex; ⟨fd, ps, a.imp (spD_imp h), d⟩
section
variable {X : Cx} {k : Nat} {C g pr : Addr} {f m : Str} {s : GN} {e o : Expr} {es : List Expr} {fo : RX} {fa : RA} {p pos apos : Pos}
theorem de_fld (he : DE X e fo) (c : Cls X.K C) (n : NoAttr X.K C f) (hb : attributeBase e f X.env (eval e X.env) = eval e X.env := by rfl) : DE X (.Attribute e f pos) (rFld C f fo) := pe_imp (pe_fld he hb) fun σ H Q ⟨S, μ, ρ, R, k, e, h, post⟩ => by
  refine ⟨S, μ, ρ, _, k, e, h, fun S1 μ1 H1 v1 d1 k1 s1 r1 h1 => ?_⟩
  cases q : insD μ1 d1 with
  | none => rw [q] at h1; exact h1.elim
  | some z =>
    obtain ⟨C', fs⟩ := z
    rw [q] at h1
    obtain ⟨rfl, h1⟩ := h1
    cases q2 : fs.lookup f with
    | none => rw [q2] at h1; exact h1.elim
    | some d =>
      rw [q2] at h1
      obtain ⟨a, dx, vfs, rfl, e1, r2⟩ := insD_rep k1 r1 q
      obtain ⟨v, e2, r3⟩ := r2.lookup q2
      exact ⟨a, C', dx, vfs, v, rfl, e1, c, n, e2, post S1 μ1 H1 v d k1 s1 r3 h1⟩
theorem de_meth {pl : Sem Bool} (F : MtG X.prog X.w X.K X.mg X.base k C g s) (hr : Room k X.A) (c : Cls X.K C) (hm : Meth X.K C m g) (ho : DE X o fo) (ha : DA X (e :: es) fa)
    (hst : starEach (e :: es) X.env = (false, eval e X.env) :: starEach es X.env := by rfl) (hpl : (backTo pos (starEach es X.env)).any (·.1) = false := by rfl)
    (ht : eval (.Call (.Attribute o m apos) (e :: es) [] pos) X.env = (do
      let ov ← eval o X.env
      standAt apos.atName
      let (f, first) ← holding [ov] (getMethod ov m pl)
      callWith pos f first (backTo pos (starEach (e :: es) X.env)) (backToKw pos (keywordEach [] X.env))) := by rfl) :
    DE X (.Call (.Attribute o m apos) (e :: es) [] pos) (rMeth C m s fo fa) := by
  obtain ⟨fd, ps, a, b⟩ := F.ex
  refine pe_imp (pe_meth (pl := pl) ho c hm a hr b .nil pass0 ha hst hpl ht) fun σ H Q ⟨S, μ, ρ, R, k, e, h, post⟩ => ?_
  refine ⟨S, μ, ρ, _, k, e, h, fun S1 μ1 H1 v1 d1 k1 s1 r1 h1 => ?_⟩
  cases q : insD μ1 d1 with
  | none => rw [q] at h1; exact h1.elim
  | some z =>
    obtain ⟨C', fs⟩ := z
    rw [q] at h1
    obtain ⟨rfl, hl, h1⟩ := h1
    obtain ⟨a, dx, vfs, rfl, e1, r2⟩ := insD_rep k1 r1 q
    refine ⟨a, dx, vfs, rfl, e1, r2.lookup_none hl, S1, μ1, ρ, _, k1, e.mono s1.same, h1, fun S2 μ2 H2 vs ds k2 s2 r3 h3 => ?_⟩
    show spD X.K s (V.ref a :: (vs ++ [])) H2 Q E0
    rw [List.append_nil]
    exact ⟨S2, μ2, d1 :: ds, R, k2, .cons (r1.mono s2.same) r3, h3, fun S3 μ3 H3 v d k3 s3 r3 h3 => post S3 μ3 H3 v d k3 ((s1.trans s2).trans s3) r3 h3⟩
end

/-! ### a new instance -/
/-- s: __init__'s; behind it the instance is data -/
def gMake (C : Addr) (s : GN) : GN := fun ds μ R => ∀ x, μ x = none → s (.ref x :: ds) (updM μ x (.ins C [])) fun v μ2 => v = .non ∧ (match μ2 x with
  | some (.ins C' fs) => R (.ins C' fs) (delM μ2 x)
  | _ => False)
section
variable {K : PySem.W.Frag} {S H : Hp} {μ : MH} {C : Addr} {s : GN}
theorem OK.newI {x dx : Addr} (k : OK K S μ H) (hx : H x = none) (hd : H dx = none) (hn : dx ≠ x) :
    OK K S (updM μ x (.ins C [])) (upd (upd H dx (.own x)) x (.ins C dx [])) ∧ Stp S μ H S (updM μ x (.ins C [])) (upd (upd H dx (.own x)) x (.ins C dx [])) := by
  have k1 := k.hide (o := .own x) hd
  have hx1 : upd H dx (.own x) x = none := by rw [upd_ne hn.symm]; exact hx
  obtain ⟨hS, hM⟩ := k1.free hx1
  refine ⟨k1.put hS ⟨dx, [], upd_same, .nil⟩, fun _ _ h => h, fun _ _ h => .inl h, fun b o e _ _ => ?_, fun b m e => ?_⟩
  · rw [upd_ne (ne_of_none e hx), upd_ne (ne_of_none e hd)]; exact e
  · by_cases q : b = x
    · exact .inl (q ▸ free_none hx)
    · rw [updM_ne q] at e; exact .inr ⟨m, e⟩
end
abbrev DK (X : Cx) (kws : List Keyword) (f : RA) : Prop := PK X kws (upA X.K f)
/-- the class x: g, what making it from all parameters' values asks; n: how many of the call's are positional, kw: the others' order -/
structure MkG (P : Program) (w : World) (K : PySem.W.Frag) (mg : Str → Option Value) (base : Heap) (k : Nat) (x : Str) (C : Addr) (s : GN) : Prop where
  ex : ∃ f fd ps, FnOk P w K mg base CX0 k f fd ps (spD K s) ∧ mg x = some (.ref C) ∧ Mk K C f ∧ Binds K fd ps []
def rMakeK (g : GN) (n m : Nat) (gD : List D → List D → List D) (fa fk : RA) : RX := fun ρ μ R => fa ρ μ fun ds μ1 => fk ρ μ1 fun zs μ2 => ds.length = n ∧ zs.length = m ∧ g (gD ds zs) μ2 R
section
variable {X : Cx} {k n : Nat} {C f : Addr} {x : Str} {fd : FuncData} {ps ks : List Str} {s : GN} {e : Expr} {es : List Expr} {kws : List Keyword} {fe : RX} {fa fk : RA} {p pos kpos : Pos} {nm : Option Str}
theorem dk_nil : DK X [] rNil := ⟨fun pos pins s σ H Q I ⟨S, μ, ρ, R, k, e, h, post⟩ => pk_nil.run pos pins s σ H Q I (post S μ H [] [] k .refl .nil h)⟩
theorem dk_cons (ha : DE X e fe) (hr : DK X kws fa) : DK X (⟨nm, e, kpos⟩ :: kws) (rCons fe fa) := ⟨fun pos pins s σ H Q I ⟨S, μ, ρ, R, k, e, h, post⟩ => (pk_cons ha hr).run pos pins s σ H Q I (by
  refine ⟨S, μ, ρ, _, k, e, h, fun S1 μ1 H1 v1 d1 k1 s1 r1 h1 => ?_⟩
  exact ⟨S1, μ1, ρ, _, k1, e.mono s1.same, h1, fun S2 μ2 H2 vs ds k2 s2 r2 h2 => post S2 μ2 H2 _ _ k2 (s1.trans s2) (.cons (r1.mono s2.same) r2) h2⟩)⟩
/-- how a keyword call of a class binds: dw, the defaults' values that fill up -/
structure MkK (P : Program) (w : World) (K : PySem.W.Frag) (mg : Str → Option Value) (base : Heap) (k : Nat) (x : Str) (C : Addr) (s : GN) (n : Nat) (ks : List Str) (gD : List D → List D → List D) : Prop where
  ex : ∃ f fd ps g gV, FnOk P w K mg base CX0 k f fd ps (spD K s) ∧ mg x = some (.ref C) ∧ Mk K C f ∧ KBn K fd ps (n + 1) ks g gV ∧
    ∀ (y : V) (b : D) (vs zs : List V) (ds es : List D) (S : Hp), Rep K S y b → Reps K S vs ds → Reps K S zs es → Reps K S (gV (y :: vs) zs) (b :: gD ds es)
theorem de_makeK {m : Nat} {gD : List D → List D → List D} (F : MkK X.prog X.w X.K X.mg X.base k x C s n ks gD) (hr : Room (k + 1) X.A) (hg : Gl X x) (ha : DA X (e :: es) fa) (hkw : DK X kws fk)
    (hall : (backToKw pos (keywordEach kws X.env)).all (·.1.isSome) = true := by rfl) (hks : (backToKw pos (keywordEach kws X.env)).filterMap (·.1) = ks := by rfl) (hdb : (x == ("__debug__" : Str)) = false := by decide)
    (he : starEach (e :: es) X.env = (false, eval e X.env) :: starEach es X.env := by rfl) (hpl : ((backTo pos (starEach (e :: es) X.env)).any (·.1) || (backToKw pos (keywordEach kws X.env)).any (·.1.isNone)) = false := by rfl) (hm : ks.length = m := by rfl) :
    DE X (.Call (.Name x p) (e :: es) kws pos) (rMakeK (gMake C s) n m gD fa fk) := by
  subst hm
  obtain ⟨f, fd, ps, g, gV, a, b, c, d, rel⟩ := F.ex
  refine pe_imp (pe_makeK c a hr hg b d pass0 ha hkw hall hks hdb he hpl) fun σ H Q ⟨S, μ, ρ, R, k, e, h, post⟩ => ?_
  refine ⟨S, μ, ρ, _, k, e, h, fun S1 μ1 H1 vs ds k1 s1 r1 h1 => ?_⟩
  refine ⟨S1, μ1, ρ, _, k1, e.mono s1.same, h1, fun S2 μ2 H2 zs es k2 s2 r2 h2 => ?_⟩
  obtain ⟨l1, l2, h2⟩ := h2
  refine ⟨by rw [r1.length]; exact l1, by rw [r2.length]; exact l2, fun y dx hx hd hn => ?_⟩
  obtain ⟨k3, s3⟩ := k2.newI (C := C) hx hd hn
  have z := rel (.ref y) (.ref y) vs zs ds es S2 (.ref y) (r1.mono s2.same) r2
  refine ⟨S2, _, _, _, k3, z, h2 y (k2.free hx).2, fun S4 μ4 H4 v d k4 s4 r4 h4 => ?_⟩
  obtain ⟨rfl, h4⟩ := h4
  refine ⟨r4.toNon, ?_⟩
  cases e : μ4 y with
  | none => rw [e] at h4; exact h4.elim
  | some m =>
    cases m with
    | lst _ => rw [e] at h4; exact h4.elim
    | tab _ => rw [e] at h4; exact h4.elim
    | dk _ => rw [e] at h4; exact h4.elim
    | dct _ _ => rw [e] at h4; exact h4.elim
    | ins C' fs =>
      rw [e] at h4
      obtain ⟨_, dx', vfs, e2, r3⟩ := k4.mts y _ e
      obtain ⟨k5, s5⟩ := k4.freeze e e2
      exact post _ _ _ _ _ k5 (((s1.trans s2).trans s3).trans (s4.trans s5)) (.ins upd_same (r3.mono s5.same)) h4
end

/-! ### own operators -/
def gOwn2 (C : Addr) (s : GN) : G2 := fun x y μ R => (insD μ x).map (·.1) = some C ∧ (insD μ y).map (·.1) = some C ∧ s [x, y] μ R
def gOwn1 (C : Addr) (s : GN) : G1 := fun x μ R => (insD μ x).map (·.1) = some C ∧ s [x] μ R
section
variable {K : PySem.W.Frag} {X : Cx} {k : Nat} {C g : Addr} {s : GN} {a b : Expr} {fa fb : RX} {pos : Pos} {rc : Option Value}
theorem cmpBack_of {v : V} {u : Value} {Q : Value → Shared → Prop} {s' : Shared} (r : L2.RelV v u) (h : Q u s') : PySem.W.CmpBack Q u s' := by
  cases u <;> first | exact h | (exfalso; cases v <;> first | (cases r; done) | (obtain ⟨t, e⟩ := r; cases e))
/-- x op y, both instances of C -/
theorem op_own {op : Operator} (F : MtG X.prog X.w X.K X.mg X.base k C g s) (hr : Room k X.A) (hc : PySem.W.selfFirst X.K C = true) (hs : PySem.W.findIn X.K (.ref C) (PySem.dunder op.info.2) = some (some (.ref g))) (hf : PySem.W.isFn X.K (.ref g) = true) :
    OpR X (binaryOp op) (fun x y H Q => ∃ p q dx dy fs gs, x = .ref p ∧ y = .ref q ∧ H p = some (.ins C dx fs) ∧ H q = some (.ins C dy gs) ∧ spD X.K s [x, y] H Q E0) := by
  intro pins st0 σ H x y v u Q I rx ry h
  obtain ⟨p, q, dx, dy, fs, gs, rfl, rfl, h1, h2, hsp⟩ := h
  obtain ⟨mA, O, _⟩ := ins_get I.hok h1
  obtain ⟨mB, O2, _⟩ := ins_get I.hok h2
  obtain ⟨od, J, _⟩ := O.look
  obtain ⟨od2, J2, _⟩ := O2.look
  obtain ⟨m, hF⟩ := I.fr
  cases rx
  cases ry
  refine PySem.W.binop_K hF I.ok.mod.kin J J2.type hc hs hf ?_
  have r2 : Vals [V.ref p, V.ref q] [Value.ref p, Value.ref q] := .cons rfl (.cons rfl .nil)
  refine wpAny_call (codeAny_mono (run_fnR F.raw hr pass0 I r2 hsp) fun r s' z => ?_)
  cases r with
  | error e => exact z
  | ok fl =>
    cases fl with
    | ret u =>
      obtain ⟨v, H', I', rv, hq⟩ := z
      exact cmpBack_of rv ⟨v, H', I', rv, hq⟩
    | next => exact z.elim
    | brk => exact z.elim
    | cont => exact z.elim
theorem insC_rep {S H : Hp} {μ : MH} {v : V} {d : D} (k : OK K S μ H) (r : Rep K S v d) (e : (insD μ d).map (·.1) = some C) : ∃ a dx vfs, v = .ref a ∧ H a = some (.ins C dx vfs) := by
  cases q : insD μ d with
  | none => rw [q] at e; cases e
  | some z =>
    obtain ⟨C', fs⟩ := z
    rw [q] at e
    have e : C' = C := Option.some.inj e
    subst e
    obtain ⟨a, dx, vfs, h1, h2, _⟩ := insD_rep k r q
    exact ⟨a, dx, vfs, h1, h2⟩
theorem snd_own2 : Snd2 K (fun x y H Q => ∃ p q dx dy fs gs, x = .ref p ∧ y = .ref q ∧ H p = some (.ins C dx fs) ∧ H q = some (.ins C dy gs) ∧ spD K s [x, y] H Q E0) (gOwn2 C s) := by
  intro S μ H x y dx dy R Q k rx ry q post
  obtain ⟨e1, e2, q⟩ := q
  obtain ⟨a, da, va, rfl, h1⟩ := insC_rep k rx e1
  obtain ⟨b, db, vb, rfl, h2⟩ := insC_rep k ry e2
  exact ⟨a, b, da, db, va, vb, rfl, rfl, h1, h2, S, μ, [dx, dy], R, k, .cons rx (.cons ry .nil), q, post⟩
theorem de_opO {op : Operator} (F : MtG X.prog X.w X.K X.mg X.base k C g s) (hr : Room k X.A) (hc : PySem.W.selfFirst X.K C = true) (hs : PySem.W.findIn X.K (.ref C) (PySem.dunder op.info.2) = some (some (.ref g))) (hf : PySem.W.isFn X.K (.ref g) = true)
    (ha : DE X a fa) (hb : DE X b fb) : DE X (.BinOp a op b pos) (rOp (gOwn2 C s) fa fb) := de_op (op_own F hr hc hs hf) snd_own2 ha hb
end
end L3

/-! ## L3e -/
set_option Elab.async false
set_option linter.all false
set_option maxRecDepth 100000
set_option maxHeartbeats 4000000
namespace L3
open PySem PySem.Spec PyProof.Rows L2

/-! ### targets -/
abbrev RG := D → EV → MH → (EV → MH → Prop) → Prop
/-- v is stored; the slots beside those in vs stay -/
def upG (K : PySem.W.Frag) (g : RG) (vs : List Nat) : TG := fun v σ H Q => ∃ S μ ρ d QQ, OK K S μ H ∧ RepE K S σ ρ ∧ Rep K S v d ∧ g d ρ μ QQ ∧
  ∀ S' μ' H' σ' ρ', OK K S' μ' H' → Stp S μ H S' μ' H' → RepE K S' σ' ρ' → wipe σ' vs = wipe σ vs → QQ ρ' μ' → Q σ' H'
abbrev RGs := List D → EV → MH → (EV → MH → Prop) → Prop
def upGs (K : PySem.W.Frag) (g : RGs) (vs : List Nat) : TGs := fun ws σ H Q => ∃ S μ ρ ds QQ, OK K S μ H ∧ RepE K S σ ρ ∧ Reps K S ws ds ∧ g ds ρ μ QQ ∧
  ∀ S' μ' H' σ' ρ', OK K S' μ' H' → Stp S μ H S' μ' H' → RepE K S' σ' ρ' → wipe σ' vs = wipe σ vs → QQ ρ' μ' → Q σ' H'
abbrev DG (X : Cx) (e : Expr) (g : RG) (vs : List Nat) : Prop := PG X e (upG X.K g vs)
abbrev DGs (X : Cx) (es : List Expr) (g : RGs) (vs : List Nat) : Prop := PGs X es (upGs X.K g vs)
def rGN (i : Nat) : RG := fun d ρ μ Q => Q (st ρ i d) μ
def rGTup (n : Nat) (g : RGs) : RG := fun d ρ μ Q => match d with
  | .tup ds => ds.length = n ∧ g ds ρ μ Q
  | _ => False
def rGNil : RGs := fun ds ρ μ Q => ds = [] ∧ Q ρ μ
def rGCons (g : RG) (gs : RGs) : RGs := fun ds ρ μ Q => match ds with
  | d :: r => g d ρ μ fun ρ1 μ1 => gs r ρ1 μ1 Q
  | [] => False
theorem pg_imp {X : Cx} {e : Expr} {t u : TG} (h : PG X e t) (i : ∀ v σ H Q, u v σ H Q → t v σ H Q) : PG X e u := ⟨fun pins s σ H v w Q I r q => h.run pins s σ H v w Q I r (i v σ H Q q)⟩
theorem pgs_imp {X : Cx} {es : List Expr} {t u : TGs} (h : PGs X es t) (i : ∀ v σ H Q, u v σ H Q → t v σ H Q) : PGs X es u := ⟨fun pins s σ H v w Q I r q => h.run pins s σ H v w Q I r (i v σ H Q q)⟩
theorem wipe_set {σ : L2.St} {v : Option V} {i : Nat} : ∀ {vs : List Nat}, i ∈ vs → wipe (σ.set i v) vs = wipe σ vs
  | j :: vs, h => by
    unfold wipe
    by_cases e : i = j
    · subst e
      by_cases m : i ∈ vs
      · rw [wipe_set m]
      · have key : ∀ vs : List Nat, i ∉ vs → wipe (σ.set i v) vs = (wipe σ vs).set i v := by
          intro vs
          induction vs with
          | nil => intro _; rfl
          | cons k ks ih =>
            intro hn
            simp only [List.mem_cons, not_or] at hn
            unfold wipe
            rw [ih hn.2, List.set_comm _ _ hn.1]
        rw [key vs m, List.set_set]
    · rw [wipe_set (List.mem_of_ne_of_mem e h)]
section
variable {X : Cx} {e : Expr} {es : List Expr} {g : RG} {gs : RGs} {vs : List Nat} {pos : Pos}
theorem dg_name {i : Nat} {x : Str} (hN : X.N.Nodup) (hi : X.N[i]? = some x := by rfl) (hx : Loc X.env.scope x := by first | exact Or.inl rfl | exact Or.inr rfl) (hf : X.fn x = true ∨ X.env.scope.names.lookup x = some .local := by first | exact .inl rfl | exact .inr rfl)
    (hm : i ∈ vs := by first | exact List.mem_cons_self .. | decide) : DG X (.Name x pos) (rGN i) vs := pg_imp (pg_name hN hi hx hf) fun v σ H Q ⟨S, μ, ρ, d, QQ, k, e, r, h, post⟩ =>
  post S μ H _ _ k .refl (e.set r i) (wipe_set hm) h
theorem dgs_nil : DGs X [] rGNil vs := pgs_imp pgs_nil fun v σ H Q ⟨S, μ, ρ, d, QQ, k, e, r, h, post⟩ => by
  obtain ⟨rfl, h⟩ := h
  cases r
  exact ⟨rfl, post S μ H σ ρ k .refl e rfl h⟩
theorem dgs_cons (h1 : DG X e g vs) (h2 : DGs X es gs vs) (hs : (assignEach (e :: es) X.env).map (·.2) = assign e X.env :: (assignEach es X.env).map (·.2) := by rfl) : DGs X (e :: es) (rGCons g gs) vs := pgs_imp (pgs_cons h1 h2 hs) fun v σ H Q ⟨S, μ, ρ, ds, QQ, k, e, r, h, post⟩ => by
  cases r with
  | nil => exact h.elim
  | cons r rr =>
    refine ⟨_, _, rfl, S, μ, ρ, _, _, k, e, r, h, fun S1 μ1 H1 σ1 ρ1 k1 s1 e1 w1 h1 => ?_⟩
    exact ⟨S1, μ1, ρ1, _, QQ, k1, e1, rr.mono s1.same, h1, fun S2 μ2 H2 σ2 ρ2 k2 s2 e2 w2 h2 => post S2 μ2 H2 σ2 ρ2 k2 (s1.trans s2) e2 (w2.trans w1) h2⟩
theorem dg_tup {k : Nat} {n : Nat} (h : DGs X es gs vs) (hc : X.calm = true := by rfl) (hn : (assignEach es X.env).length = n := by rfl) (hst : (assignEach es X.env).findIdx? (·.1) = none := by rfl) : DG X (.Tuple es k pos) (rGTup n gs) vs := pg_imp (pg_tup hc h hn hst) fun v σ H Q ⟨S, μ, ρ, d, QQ, k, e, r, h, post⟩ => by
  cases d <;> first | exact False.elim h | skip
  obtain ⟨a, ws, rfl, h1, r1⟩ := r.toTup
  obtain ⟨hl, h⟩ := h
  exact ⟨a, ws, rfl, sqT_same k.sub h1, by rw [r1.length]; exact hl, S, μ, ρ, _, QQ, k, e, r1, h, post⟩
/-- a, b, .. = a list -/
def rGLst (n : Nat) (g : RGs) : RG := fun d ρ μ Q => match res μ d with
  | .lst ds => ds.length = n ∧ g ds ρ μ Q
  | _ => False
theorem dg_lst {k : Nat} {n : Nat} (h : DGs X es gs vs) (hc : X.calm = true := by rfl) (hn : (assignEach es X.env).length = n := by rfl) (hst : (assignEach es X.env).findIdx? (·.1) = none := by rfl) : DG X (.Tuple es k pos) (rGLst n gs) vs := pg_imp (pg_lst hc h hn hst) fun v σ H Q ⟨S, μ, ρ, d, QQ, k, e, r, h, post⟩ => by
  unfold rGLst at h
  cases q : res μ d <;> rw [q] at h <;> first | exact False.elim h | skip
  obtain ⟨a, ws, rfl, h1, r1⟩ := res_lst k r q
  obtain ⟨hl, h⟩ := h
  exact ⟨a, ws, rfl, .of h1, by rw [r1.length]; exact hl, S, μ, ρ, _, QQ, k, e, r1, h, post⟩
end

/-! ### statements -/
def rNext : RS := fun D ρ μ => D.nx ρ μ
def rSeq (f g : RS) : RS := fun D ρ μ => f { D with nx := fun ρ1 μ1 => g D ρ1 μ1 } ρ μ
def rAsg (f : RX) (g : RG) : RS := fun D ρ μ => f ρ μ fun d μ1 => g d ρ μ1 D.nx
def rRet (f : RX) : RS := fun D ρ μ => f ρ μ D.rt
def rRetN : RS := fun D _ μ => D.rt .non μ
def rDrop (f : RX) : RS := fun D ρ μ => f ρ μ fun _ μ1 => D.nx ρ μ1
def rIf (t : RT) (f g : RS) : RS := fun D ρ μ => t ρ μ fun b μ1 => if b = true then f D ρ μ1 else g D ρ μ1
def rNever : RS := fun _ _ _ => False
def rPar (i j : Nat) (fa : RA) : RS := fun D ρ μ => fa ρ μ fun ds μ1 => match ds with
  | [a, b] => D.nx (st (st ρ i a) j b) μ1
  | _ => False
section
variable {X : Cx} {a b : Stmt} {as bs rest : List Stmt} {f g : RS} {fe : RX} {ft : RT} {e c tg : Expr} {gg : RG} {pos : Pos} {vs : List Nat}
theorem dss_nil : DSs X [] rNext := pss_imp pss_nil fun D σ H ⟨S, μ, ρ, DD, k, e, h, l⟩ => l.nx S μ H σ ρ k .refl e h
theorem dss_cons (h1 : DS X a f) (h2 : DSs X rest g) : DSs X (a :: rest) (rSeq f g) := pss_imp (pss_cons h1 h2) fun D σ H ⟨S, μ, ρ, DD, k, e, h, l⟩ =>
  ⟨S, μ, ρ, _, k, e, h, ⟨fun S1 μ1 H1 σ1 ρ1 k1 s1 e1 q1 => ⟨S1, μ1, ρ1, DD, k1, e1, q1, l.stp s1⟩, l.rt, l.bk, l.ct⟩⟩
theorem dss_one (h1 : DS X a f) : DSs X [a] f := pss_one h1
theorem ds_never : DS X a rNever := ps_imp ps_never fun D σ H ⟨S, μ, ρ, DD, k, e, h, l⟩ => h
theorem ds_expr (he : DE X e fe) (hs : swapsWith e none pos.line X.env = pure false := by rfl) : DS X (.Expr e pos) (rDrop fe) := ps_imp (ps_expr he hs) fun D σ H ⟨S, μ, ρ, DD, k, e, h, l⟩ =>
  ⟨S, μ, ρ, _, k, e, h, fun S1 μ1 H1 v d k1 s1 r1 q1 => l.nx S1 μ1 H1 σ ρ k1 s1 (e.mono s1.same) q1⟩
theorem ds_ret (he : DE X e fe) : DS X (.Return (some e) pos) (rRet fe) := ps_imp (ps_ret he) fun D σ H ⟨S, μ, ρ, DD, k, e, h, l⟩ => ⟨S, μ, ρ, _, k, e, h, l.rt⟩
theorem ds_if (hc : DT X c ft) (ha : DSs X as f) (hb : DSs X bs g) : DS X (.If c as bs pos) (rIf ft f g) := ps_imp (ps_if hc ha hb) fun D σ H ⟨S, μ, ρ, DD, k, e, h, l⟩ => by
  refine ⟨S, μ, ρ, _, k, e, h, fun S1 μ1 H1 b1 k1 s1 h1 => ?_⟩
  cases b1 with
  | true => rw [if_pos rfl] at h1 ⊢; exact ⟨S1, μ1, ρ, DD, k1, e.mono s1.same, h1, l.stp s1⟩
  | false => rw [if_neg Bool.false_ne_true] at h1 ⊢; exact ⟨S1, μ1, ρ, DD, k1, e.mono s1.same, h1, l.stp s1⟩
theorem up_asg : ∀ D σ H, upS X.K (rAsg fe gg) D σ H → tAsg (up X.K fe) (upG X.K gg vs) D σ H := fun D σ H ⟨S, μ, ρ, DD, k, e, h, l⟩ => by
  refine ⟨S, μ, ρ, _, k, e, h, fun S1 μ1 H1 v d k1 s1 r1 q1 => ?_⟩
  exact ⟨S1, μ1, ρ, d, _, k1, e.mono s1.same, r1, q1, fun S2 μ2 H2 σ2 ρ2 k2 s2 e2 _ q2 => l.nx S2 μ2 H2 σ2 ρ2 k2 (s1.trans s2) e2 q2⟩
theorem ds_asg (he : DE X e fe) (hg : DG X tg gg vs) (hs : swapsWithSole [tg] e pos.line X.env = pure false := by rfl) (hw : swappedStores [tg] e X.env = pure none := by rfl)
    (h1 : (assignEach [tg] X.env).map (·.2) = [assign tg X.env] := by rfl) : DS X (.Assign [tg] e pos) (rAsg fe gg) := ps_imp (ps_asg he hg hs hw h1) up_asg
theorem ds_set {i : Nat} {x : Str} {pos' : Pos} (hN : X.N.Nodup) (he : DE X e fe) (hi : X.N[i]? = some x := by rfl) (hx : Loc X.env.scope x := by first | exact Or.inl rfl | exact Or.inr rfl) (hs : swapsWith e (some (.Name x pos')) pos.line X.env = pure false := by rfl)
    (hf : X.fn x = true ∨ X.env.scope.names.lookup x = some .local := by first | exact .inl rfl | exact .inr rfl) : DS X (.Assign [.Name x pos'] e pos) (rAsg fe (rGN i)) := ps_imp (ps_set hN hi hx he hs hf) fun D σ H ⟨S, μ, ρ, DD, k, e, h, l⟩ =>
  ⟨S, μ, ρ, _, k, e, h, fun S1 μ1 H1 v d k1 s1 r1 q1 => l.nx S1 μ1 H1 _ _ k1 s1 ((e.mono s1.same).set r1 i) q1⟩
theorem ds_par {i j : Nat} {x y : Str} {a b : Expr} {fa : RA} {px py pt : Pos} {kt k2 pt2} (hN : X.N.Nodup) (ha : DA X [a, b] fa) (hij : i ≠ j := by decide) (hi : X.N[i]? = some x := by rfl) (hj : X.N[j]? = some y := by rfl)
    (hx : X.env.scope.names.lookup x = some .local := by rfl) (hy : X.env.scope.names.lookup y = some .local := by rfl) (hc : X.calm = true := by rfl)
    (hw : swappedStores [.Tuple [.Name x px, .Name y py] kt pt] (.Tuple [a, b] k2 pt2) X.env = pure (some [x, y]) := by rfl)
    (hs : swapsWithSole [.Tuple [.Name x px, .Name y py] kt pt] (.Tuple [a, b] k2 pt2) pos.line X.env = pure false := by rfl) :
    DS X (.Assign [.Tuple [.Name x px, .Name y py] kt pt] (.Tuple [a, b] k2 pt2) pos) (rPar i j fa) := ps_imp (ps_par hc hN hi hj hij hx hy ha hw hs) fun D σ H ⟨S, μ, ρ, DD, k, e, h, l⟩ => by
  refine ⟨S, μ, ρ, _, k, e, h, fun S1 μ1 H1 ws ds k1 s1 r1 q1 => ?_⟩
  unfold rPar at q1
  split at q1
  · obtain ⟨v, w, rfl, r2, r3⟩ := reps2 r1
    exact ⟨v, w, rfl, l.nx S1 μ1 H1 _ _ k1 s1 (((e.mono s1.same).set r2 i).set r3 j) q1⟩
  · exact q1.elim
end
section
variable {X : Cx} {e : Expr} {fe : RX} {pos : Pos} {i : Nat} {x : Str} {pos' : Pos}
end

/-! ### while -/
def rWhile (c : RT) (b : RS) : RS := fun D ρ μ => ∃ (W : EV → MH → Prop) (m : EV → MH → Nat), W ρ μ ∧ ∀ ρ μ, W ρ μ → c ρ μ fun k μ1 =>
  if k = true then b { D with nx := fun ρ' μ' => W ρ' μ' ∧ m ρ' μ' < m ρ μ, ct := fun ρ' μ' => W ρ' μ' ∧ m ρ' μ' < m ρ μ, bk := D.nx } ρ μ1 else D.nx ρ μ1
theorem ds_while {X : Cx} {c : Expr} {body : List Stmt} {fc : RT} {fb : RS} {pos : Pos} (hc : DT X c fc) (hb : DSs X body fb) (hp : PassesOwn (model X.prog X.w) X.A X.env X.xe := by exact PassesOwn.never) : DS X (.While c body [] pos) (rWhile fc fb) :=
  ps_imp (ps_while hp hc hb) fun D σ H ⟨S, μ, ρ, DD, k, e, h, l⟩ => by
    obtain ⟨W, m, w0, turn⟩ := h
    refine ⟨fun n σ' H' => ∃ S' μ' ρ', OK X.K S' μ' H' ∧ Stp S μ H S' μ' H' ∧ RepE X.K S' σ' ρ' ∧ W ρ' μ' ∧ n = m ρ' μ', ⟨_, S, μ, ρ, k, .refl, e, w0, rfl⟩, ?_⟩
    rintro n σ1 H1 ⟨S1, μ1, ρ1, k1, s1, e1, w1, rfl⟩
    refine ⟨S1, μ1, ρ1, _, k1, e1, turn ρ1 μ1 w1, fun S2 μ2 H2 b2 k2 s2 q2 => ?_⟩
    cases b2 with
    | false => rw [if_neg Bool.false_ne_true] at q2 ⊢; exact l.nx S2 μ2 H2 _ _ k2 (s1.trans s2) (e1.mono s2.same) q2
    | true =>
      rw [if_pos rfl] at q2 ⊢
      refine ⟨fun σ' H' => ∃ S' μ' ρ', OK X.K S' μ' H' ∧ Stp S μ H S' μ' H' ∧ RepE X.K S' σ' ρ' ∧ W ρ' μ' ∧ m ρ' μ' < m ρ1 μ1, fun σ' H' ⟨S', μ', ρ', a, b, c, d, f⟩ => ⟨_, f, S', μ', ρ', a, b, c, d, rfl⟩, ?_⟩
      refine ⟨S2, μ2, ρ1, _, k2, e1.mono s2.same, q2, ⟨fun S3 μ3 H3 σ3 ρ3 k3 s3 e3 q3 => ?_, fun S3 μ3 H3 v d k3 s3 r3 q3 => ?_, fun S3 μ3 H3 σ3 ρ3 k3 s3 e3 q3 => ?_, fun S3 μ3 H3 σ3 ρ3 k3 s3 e3 q3 => ?_⟩⟩
      · exact ⟨S3, μ3, ρ3, k3, (s1.trans s2).trans s3, e3, q3.1, q3.2⟩
      · exact l.rt S3 μ3 H3 v d k3 ((s1.trans s2).trans s3) r3 q3
      · exact l.nx S3 μ3 H3 σ3 ρ3 k3 ((s1.trans s2).trans s3) e3 q3
      · exact ⟨S3, μ3, ρ3, k3, (s1.trans s2).trans s3, e3, q3.1, q3.2⟩

/-! ### what is walked -/
/-- J gives the data ds, one by one, while C holds of the changeable objects -/
def ItOk (K : PySem.W.Frag) (S : Hp) (J : It) (ds : List D) (C : MH → Prop) : Prop :=
  ∀ S1 μ1 H1, OK K S1 μ1 H1 → Same S S1 → C μ1 → ∀ i,
    (∀ d, ds[i]? = some d → J.go i H1 ∧ ∀ x H', J.yld i H1 x H' → ∃ S2, OK K S2 μ1 H' ∧ Stp S1 μ1 H1 S2 μ1 H' ∧ Rep K S2 x d) ∧ (i = ds.length → J.stop i H1)
abbrev RI := EV → MH → (List D → (MH → Prop) → MH → Prop) → Prop
def upI (K : PySem.W.Frag) (f : RI) : TI := fun σ H R => ∃ S μ ρ RR, OK K S μ H ∧ RepE K S σ ρ ∧ f ρ μ RR ∧
  ∀ S' μ' H' J ds C, OK K S' μ' H' → Stp S μ H S' μ' H' → ItOk K S' J ds C → RR ds C μ' → R J H'
abbrev DI (X : Cx) (tg e : Expr) (f : RI) : Prop := PI X tg e (upI X.K f)
theorem pi_imp {X : Cx} {tg e : Expr} {t u : TI} (h : PI X tg e t) (i : ∀ σ H R, u σ H R → t σ H R) : PI X tg e u := ⟨fun pins s σ H R I q => h.run pins s σ H R I (i σ H R q)⟩
def tru : MH → Prop := fun _ => True
/-- a list: of data, or a changeable one that stays -/
def rILst (f : RX) : RI := fun ρ μ R => f ρ μ fun d μ1 => match d with
  | .lst ds => R ds tru μ1
  | .scr ds => R ds tru μ1
  | .ref p => (match μ1 p with
    | some (.lst ds) => R ds (fun μ => μ p = some (.lst ds)) μ1
    | _ => False)
  | _ => False
def rITup (f : RX) : RI := fun ρ μ R => f ρ μ fun d μ1 => match d with
  | .tup ds => R ds tru μ1
  | _ => False
def rangeD (lo : Int) : Nat → List D
  | 0 => []
  | n + 1 => .int lo :: rangeD (lo + 1) n
theorem rangeD_get : ∀ (n : Nat) (lo : Int) (i : Nat), (rangeD lo n)[i]? = if i < n then some (.int (lo + i)) else none
  | 0, _, _ => by simp [rangeD]
  | n + 1, lo, 0 => by simp [rangeD]
  | n + 1, lo, i + 1 => by
    show (rangeD (lo + 1) n)[i]? = _
    rw [rangeD_get n (lo + 1) i]
    by_cases h : i < n
    · rw [if_pos h, if_pos (by omega)]
      congr 2
      omega
    · rw [if_neg h, if_neg (by omega)]
theorem rangeD_len : ∀ (n : Nat) (lo : Int), (rangeD lo n).length = n
  | 0, _ => rfl
  | n + 1, lo => congrArg Nat.succ (rangeD_len n (lo + 1))
def inR (j : Int) : Prop := -(2 ^ 62) ≤ j ∧ j < 2 ^ 62
def rIRng1 (fa : RA) : RI := fun ρ μ R => fa ρ μ fun ds μ1 => match ds with
  | [.int j] => inR j ∧ R (rangeD 0 j.toNat) tru μ1
  | _ => False
def rIRng2 (fa : RA) : RI := fun ρ μ R => fa ρ μ fun ds μ1 => match ds with
  | [.int i, .int j] => inR i ∧ inR j ∧ R (rangeD i (j - i).toNat) tru μ1
  | _ => False
section
variable {X : Cx} {tg e a b : Expr} {fe : RX} {fa : RA} {p pos : Pos}
theorem itok_list {K : PySem.W.Frag} {S : Hp} {q : Addr} {vs : List V} {ds : List D} {C : MH → Prop} (h : ∀ S1 μ1 H1, OK K S1 μ1 H1 → Same S S1 → C μ1 → ∃ vs, SqL K H1 q vs ∧ Reps K S1 vs ds) : ItOk K S (Itl K q) ds C := fun S1 μ1 H1 k1 e1 c1 i => by
  obtain ⟨vs, hq, r⟩ := h S1 μ1 H1 k1 e1 c1
  refine ⟨fun d hd => ?_, fun hi => ⟨vs, hq, by rw [r.length]; exact Nat.le_of_eq hi.symm⟩⟩
  obtain ⟨v, hv, rv⟩ := r.get hd
  refine ⟨⟨vs, v, hq, hv⟩, fun x H' ⟨eH, fx⟩ => ?_⟩
  subst eH
  have ex : x = v := Option.some.inj ((fx vs hq).symm.trans hv)
  exact ⟨S1, k1, .refl, ex ▸ rv⟩
theorem itok_tup {K : PySem.W.Frag} {S : Hp} {q : Addr} {vs : List V} {ds : List D} {C : MH → Prop} (hq : SqT K S q vs) (r : Reps K S vs ds) : ItOk K S (Itt K q) ds C := fun S1 μ1 H1 k1 e1 c1 i => by
  have hq1 : SqT K H1 q vs := sqT_same k1.sub (sqT_same e1 hq)
  refine ⟨fun d hd => ?_, fun hi => ⟨vs, hq1, by rw [r.length]; exact Nat.le_of_eq hi.symm⟩⟩
  obtain ⟨v, hv, rv⟩ := r.get hd
  refine ⟨⟨vs, v, hq1, hv⟩, fun x H' ⟨eH, fx⟩ => ?_⟩
  subst eH
  have ex : x = v := Option.some.inj ((fx vs hq1).symm.trans hv)
  exact ⟨S1, k1, .refl, ex ▸ rv.mono e1⟩
theorem itok_range {K : PySem.W.Frag} {S : Hp} {lo : Int} {n : Nat} {C : MH → Prop} : ItOk K S (Itr lo n) (rangeD lo n) C := fun S1 μ1 H1 k1 e1 c1 i => by
  refine ⟨fun d hd => ?_, fun hi => ?_⟩
  · rw [rangeD_get] at hd
    by_cases h : i < n
    · rw [if_pos h] at hd
      cases hd
      refine ⟨h, fun x H' ⟨eH, ex⟩ => ?_⟩
      subst eH ex
      exact ⟨S1, k1, .refl, .int _⟩
    · rw [if_neg h] at hd; cases hd
  · rw [rangeD_len] at hi; exact Nat.le_of_eq hi.symm
theorem di_list (h : DE X e fe) : DI X tg e (rILst fe) := pi_imp (pi_list h) fun σ H R ⟨S, μ, ρ, RR, k, e, h, post⟩ => by
  refine ⟨S, μ, ρ, _, k, e, h, fun S1 μ1 H1 v d k1 s1 r1 q1 => ?_⟩
  cases d with
  | lst ds =>
    cases r1 with
    | lst a r =>
      exact ⟨_, rfl, ⟨_, .of (k1.sub _ _ a)⟩, post S1 μ1 H1 _ ds tru k1 s1 (itok_list (vs := []) fun S2 μ2 H2 k2 e2 _ => ⟨_, .of (k2.sub _ _ (e2 _ _ a)), r.mono e2⟩) q1⟩
  | scr ds =>
    cases r1 with
    | scr a r =>
      exact ⟨_, rfl, ⟨_, sqL_same k1.sub a⟩, post S1 μ1 H1 _ ds tru k1 s1 (itok_list (vs := []) fun S2 μ2 H2 k2 e2 _ => ⟨_, sqL_same k2.sub (sqL_same e2 a), r.mono e2⟩) q1⟩
  | ref p =>
    cases r1.toRef
    cases q : μ1 p with
    | none =>
      have q1 : (match μ1 p with | some (.lst ds) => RR ds (fun μ => μ p = some (.lst ds)) μ1 | _ => False) := q1
      rw [q] at q1; exact q1.elim
    | some m =>
      have q1 : (match μ1 p with | some (.lst ds) => RR ds (fun μ => μ p = some (.lst ds)) μ1 | _ => False) := q1
      rw [q] at q1
      cases m with
      | ins _ _ => exact q1.elim
      | tab _ => exact q1.elim
      | dk _ => exact q1.elim
      | dct _ _ => exact q1.elim
      | lst ds =>
        obtain ⟨_, vs, h2, r2⟩ := k1.mts p _ q
        exact ⟨p, rfl, ⟨vs, .of h2⟩, post S1 μ1 H1 _ ds _ k1 s1 (itok_list (vs := []) fun S2 μ2 H2 k2 e2 c2 => by
          obtain ⟨_, vs', h3, r3⟩ := k2.mts p _ c2
          exact ⟨vs', .of h3, r3⟩) q1⟩
  | _ => exact False.elim q1
theorem di_tup (h : DE X e fe) : DI X tg e (rITup fe) := pi_imp (pi_tup h) fun σ H R ⟨S, μ, ρ, RR, k, e, h, post⟩ => by
  refine ⟨S, μ, ρ, _, k, e, h, fun S1 μ1 H1 v d k1 s1 r1 q1 => ?_⟩
  cases d with
  | tup ds =>
    obtain ⟨a, vs, rfl, h2, r2⟩ := r1.toTup
    exact ⟨a, rfl, ⟨vs, sqT_same k1.sub h2⟩, post S1 μ1 H1 _ ds tru k1 s1 (itok_tup h2 r2) q1⟩
  | _ => exact False.elim q1
theorem di_range1 (hg : Gl X "range") (hm : X.mg "range" = none) (ha : DA X [a] fa) (hs : starEach [a] X.env = [(false, eval a X.env)] := by rfl) : DI X tg (.Call (.Name "range" p) [a] [] pos) (rIRng1 fa) := pi_imp (pi_range1 hg hm ha hs) fun σ H R ⟨S, μ, ρ, RR, k, e, h, post⟩ => by
  refine ⟨S, μ, ρ, _, k, e, h, fun S1 μ1 H1 ws ds k1 s1 r1 q1 => ?_⟩
  unfold rIRng1 at q1
  split at q1
  · obtain ⟨v, rfl, r2⟩ := reps1 r1
    cases r2.toInt
    obtain ⟨⟨a1, a2⟩, q1⟩ := q1
    exact ⟨_, rfl, a1, a2, post S1 μ1 H1 _ _ tru k1 s1 itok_range q1⟩
  · exact q1.elim
theorem di_range2 (hg : Gl X "range") (hm : X.mg "range" = none) (ha : DA X [a, b] fa) (hs : starEach [a, b] X.env = [(false, eval a X.env), (false, eval b X.env)] := by rfl) (hs2 : starEach [b] X.env = [(false, eval b X.env)] := by rfl) :
    DI X tg (.Call (.Name "range" p) [a, b] [] pos) (rIRng2 fa) := pi_imp (pi_range2 hg hm ha hs hs2) fun σ H R ⟨S, μ, ρ, RR, k, e, h, post⟩ => by
  refine ⟨S, μ, ρ, _, k, e, h, fun S1 μ1 H1 ws ds k1 s1 r1 q1 => ?_⟩
  unfold rIRng2 at q1
  split at q1
  · obtain ⟨v, w, rfl, r2, r3⟩ := reps2 r1
    cases r2.toInt
    cases r3.toInt
    obtain ⟨⟨a1, a2⟩, ⟨a3, a4⟩, q1⟩ := q1
    exact ⟨_, _, rfl, ⟨a1, a2, a3, a4⟩, post S1 μ1 H1 _ _ tru k1 s1 itok_range q1⟩
  · exact q1.elim
end

/-! ### for -/
def forD (g : RG) (b : RS) (C : MH → Prop) (D : Ed) : List L3.D → EV → MH → Prop
  | [], ρ, μ => C μ ∧ D.nx ρ μ
  | d :: r, ρ, μ => C μ ∧ g d ρ μ fun ρ1 μ1 => b { D with nx := forD g b C D r, ct := forD g b C D r, bk := D.nx } ρ1 μ1
def rFor (fi : RI) (g : RG) (b : RS) : RS := fun D ρ μ => fi ρ μ fun ds C μ1 => forD g b C D ds ρ μ1
theorem forD_c {g : RG} {b : RS} {C : MH → Prop} {D : Ed} {ds : List L3.D} {ρ : EV} {μ : MH} (h : forD g b C D ds ρ μ) : C μ := by
  cases ds with
  | nil => exact h.1
  | cons _ _ => exact h.1
theorem ds_for {X : Cx} {tg iter : Expr} {body : List Stmt} {fi : RI} {g : RG} {fb : RS} {vs : List Nat} {pos : Pos} (hi : DI X tg iter fi) (hg : DG X tg g vs) (hb : DSs X body fb) (hp : PassesOwn (model X.prog X.w) X.A X.env X.xe := by exact PassesOwn.never) (hc : X.calm = true := by rfl)
    (hs : ∀ x, foldedSetIterable iter X.env x = pure x := by intro _; rfl) : DS X (.For tg iter body [] pos) (rFor fi g fb) :=
  ps_imp (ps_for hp hc hi hg hb hs) fun D σ H ⟨S, μ, ρ, DD, k, e, h, l⟩ => by
    refine ⟨S, μ, ρ, _, k, e, h, fun S1 μ1 H1 J ds C k1 s1 it q1 => ?_⟩
    refine ⟨fun i m σ' H' => m = ds.length - i ∧ i ≤ ds.length ∧ ∃ S' μ' ρ', OK X.K S' μ' H' ∧ Stp S1 μ1 H1 S' μ' H' ∧ RepE X.K S' σ' ρ' ∧ forD g fb C DD (ds.drop i) ρ' μ', ⟨_, rfl, Nat.zero_le _, S1, μ1, ρ, k1, .refl, e.mono s1.same, by rw [List.drop_zero]; exact q1⟩, ?_⟩
    rintro i m σ2 H2 ⟨rfl, hi, S2, μ2, ρ2, k2, s2, e2, q2⟩
    have io := it S2 μ2 H2 k2 s2.same (forD_c q2) i
    by_cases hlt : i < ds.length
    · have hd : ds[i]? = some ds[i] := List.getElem?_eq_getElem hlt
      have ed : ds.drop i = ds[i] :: ds.drop (i + 1) := List.drop_eq_getElem_cons hlt
      rw [ed] at q2
      obtain ⟨hgo, hy⟩ := io.1 _ hd
      refine .inr ⟨hgo, fun σ' H' => ∃ S' μ' ρ', OK X.K S' μ' H' ∧ Stp S1 μ1 H1 S' μ' H' ∧ RepE X.K S' σ' ρ' ∧ forD g fb C DD (ds.drop (i + 1)) ρ' μ', fun σ' H' ⟨S', μ', ρ', a, b, c, d⟩ => ⟨ds.length - (i + 1), by omega, rfl, hlt, S', μ', ρ', a, b, c, d⟩, fun x H' y => ?_⟩
      obtain ⟨S3, k3, s3, r3⟩ := hy x H' y
      refine ⟨S3, μ2, ρ2, _, _, k3, e2.mono s3.same, r3, q2.2, fun S4 μ4 H4 σ4 ρ4 k4 s4 e4 _ q4 => ?_⟩
      have s14 := (s2.trans s3).trans s4
      refine ⟨S4, μ4, ρ4, _, k4, e4, q4, ⟨fun S5 μ5 H5 σ5 ρ5 k5 s5 e5 q5 => ?_, fun S5 μ5 H5 v d k5 s5 r5 q5 => ?_, fun S5 μ5 H5 σ5 ρ5 k5 s5 e5 q5 => ?_, fun S5 μ5 H5 σ5 ρ5 k5 s5 e5 q5 => ?_⟩⟩
      · exact ⟨S5, μ5, ρ5, k5, s14.trans s5, e5, q5⟩
      · exact l.rt S5 μ5 H5 v d k5 (s1.trans (s14.trans s5)) r5 q5
      · exact l.nx S5 μ5 H5 σ5 ρ5 k5 (s1.trans (s14.trans s5)) e5 q5
      · exact ⟨S5, μ5, ρ5, k5, s14.trans s5, e5, q5⟩
    · have ei : i = ds.length := by omega
      subst ei
      rw [List.drop_length] at q2
      exact .inl ⟨io.2 rfl, l.nx S2 μ2 H2 σ2 ρ2 k2 (s1.trans s2) e2 q2.2⟩

theorem Stp.aside {S S' H H' : Hp} {μ μ' : MH} {D : Addr} {o : HO} (s : Stp S μ H S' μ' H') (h : H D = none) : Stp S μ H S' μ' (upd H' D o) :=
  ⟨s.same, s.news, fun b x e1 e2 n => by rw [upd_ne (ne_of_none e1 h)]; exact s.keep b x e1 e2 n, s.mus⟩
theorem Stp.takeS {S S' H H' : Hp} {μ μ' : MH} {D : Addr} {o : HO} (s : Stp S μ H S' μ' H') (h : Free H D ∨ ∃ m, μ D = some m) (hS : S' D = none) : Stp S μ H (upd S' D o) μ' H' := by
  refine ⟨s.same.trans (same_updn hS), fun b x e => ?_, s.keep, s.mus⟩
  by_cases q : b = D
  · exact .inr (.inl (q ▸ h))
  · rw [upd_ne q] at e; exact s.news b x e
theorem Stp.put {S H : Hp} {μ : MH} {p : Addr} {m m' : MO} {o : HO} (h : μ p = some m) : Stp S μ H S (updM μ p m') (upd H p o) := by
  refine ⟨fun _ _ z => z, fun _ _ z => .inl z, fun b x e1 e2 _ => ?_, fun b x e => ?_⟩
  · have q : b ≠ p := fun z => by rw [z, h] at e2; cases e2
    rw [upd_ne q]; exact e1
  · by_cases q : b = p
    · exact .inr ⟨m, q ▸ h⟩
    · rw [updM_ne q] at e; exact .inr ⟨x, e⟩
theorem wipe_sub {ws : List Nat} : ∀ (vs : List Nat) (σ : L2.St), (∀ i ∈ vs, i ∈ ws) → wipe (wipe σ vs) ws = wipe σ ws
  | [], σ, _ => rfl
  | v :: vs, σ, s => by
    show wipe ((wipe σ vs).set v none) ws = _
    rw [wipe_set (s v (List.mem_cons_self ..)), wipe_sub vs σ fun i hi => s i (List.mem_cons_of_mem _ hi)]
theorem wipe_idem (vs : List Nat) (σ : L2.St) : wipe (wipe σ vs) vs = wipe σ vs := wipe_sub vs σ fun _ h => h

/-! ### comprehensions -/
def lcD (g : RG) (t : RT) (f : RX) (C : MH → Prop) (ρ : EV) : List L3.D → List L3.D → MH → (List L3.D → MH → Prop) → Prop
  | [], acc, μ, R => C μ ∧ R acc μ
  | d :: r, acc, μ, R => C μ ∧ g d ρ μ fun ρ1 μ1 => t ρ1 μ1 fun b μ2 => if b = true then f ρ1 μ2 fun y μ3 => lcD g t f C ρ r (acc ++ [y]) μ3 R else lcD g t f C ρ r acc μ2 R
theorem lcD_c {g : RG} {t : RT} {f : RX} {C : MH → Prop} {ρ : EV} {ds acc : List L3.D} {μ : MH} {R : List L3.D → MH → Prop} (h : lcD g t f C ρ ds acc μ R) : C μ := by
  cases ds with
  | nil => exact h.1
  | cons _ _ => exact h.1
def rLc (fi : RI) (g : RG) (t : RT) (f : RX) (vs : List Nat) : RX := fun ρ μ R => fi ρ μ fun ds C μ1 => ds.length ≤ sizeLine ∧ lcD g t f C (rms ρ vs) ds [] μ1 fun zs μ2 => R (.lst zs) μ2
def rLcM (fi : RI) (g : RG) (t : RT) (f : RX) (vs : List Nat) : RX := fun ρ μ R => fi ρ μ fun ds C μ1 => ds.length ≤ sizeLine ∧ lcD g t f C (rms ρ vs) ds [] μ1 fun zs μ2 => ∀ p, μ2 p = none → R (.ref p) (updM μ2 p (.lst zs))
def rTrue : RT := fun _ μ R => R true μ
abbrev DTs (X : Cx) (ifs : List Expr) (t : RT) : Prop := PTs X ifs (upT X.K t)
section
variable {X : Cx}
theorem pts_imp {es : List Expr} {t u : TT} (h : PTs X es t) (i : ∀ σ H Q, u σ H Q → t σ H Q) : PTs X es u := ⟨fun pins s σ H Q I q => h.run pins s σ H Q I (i σ H Q q)⟩
theorem dts_nil : DTs X [] rTrue := pts_imp pts_nil fun σ H Q ⟨S, μ, ρ, R, k, e, h, post⟩ => post S μ H _ k .refl h
theorem dts_one {c : Expr} {t : RT} (h : DT X c t) : DTs X [c] t := pts_one h
/-- the core: fin, what is wanted of the list at D -/
theorem up_lc {K : PySem.W.Frag} {fi : RI} {g : RG} {t : RT} {f : RX} {vs : List Nat} {S H : Hp} {μ : MH} {ρ : EV} {σ : L2.St} {Q : VK} {RR : List L3.D → MH → Prop} (k : OK K S μ H) (e : RepE K S σ ρ)
    (h : fi ρ μ fun ds C μ1 => ds.length ≤ sizeLine ∧ lcD g t f C (rms ρ vs) ds [] μ1 RR)
    (fin : ∀ S' μ' H' D zs ws, OK K S' μ' H' → Stp S μ H S' μ' H' → (Free H D ∨ ∃ m, μ D = some m) → S' D = none → μ' D = none → H' D = some (.lst ws) → Reps K S' ws zs → RR zs μ' → Q (.ref D) H') : tLc (upI K fi) (upG K g vs) (upT K t) (up K f) vs σ H Q := by
  refine ⟨S, μ, ρ, _, k, e, h, fun S1 μ1 H1 J ds C k1 s1 it q1 D hD => ?_⟩
  obtain ⟨hz, q1⟩ := q1
  obtain ⟨hSD, hMD⟩ := k1.free hD
  have HD : Free H D ∨ ∃ m, μ D = some m := by
    cases w : H D with
    | none => exact .inl (free_none w)
    | some o =>
      cases w2 : μ D with
      | none =>
        by_cases n : ∃ ps, o = .tbl ps
        · exact .inl fun o' e' => by rw [w] at e'; cases e'; exact n
        · rw [s1.keep D o w w2 fun ps z => n ⟨ps, z⟩] at hD; cases hD
      | some m => exact .inr ⟨m, rfl⟩
  refine ⟨fun i m H' => m = ds.length - i ∧ i ≤ ds.length ∧ ∃ S' μ' ws acc, OK K S' μ' H' ∧ Stp S1 μ1 H1 S' μ' H' ∧ S' D = none ∧ μ' D = none ∧ H' D = some (.lst ws) ∧ Reps K S' ws acc ∧ acc.length ≤ i ∧ lcD g t f C (rms ρ vs) (ds.drop i) acc μ' RR,
    ⟨_, rfl, Nat.zero_le _, S1, μ1, [], [], k1.hide hD, Stp.refl.aside hD, hSD, hMD, upd_same, .nil, Nat.le_refl _, by rw [List.drop_zero]; exact q1⟩, ?_⟩
  rintro i m H2 ⟨rfl, hi, S2, μ2, ws, acc, k2, s2, hS, hM, hL, ra, la, q2⟩
  have io := it S2 μ2 H2 k2 s2.same (lcD_c q2) i
  by_cases hlt : i < ds.length
  · have hd : ds[i]? = some ds[i] := List.getElem?_eq_getElem hlt
    have ed : ds.drop i = ds[i] :: ds.drop (i + 1) := List.drop_eq_getElem_cons hlt
    rw [ed] at q2
    obtain ⟨hgo, hy⟩ := io.1 _ hd
    -- what stays true of the list at D
    have st : ∀ {S3 μ3 H3}, OK K S3 μ3 H3 → Stp S2 μ2 H2 S3 μ3 H3 → S3 D = none ∧ μ3 D = none ∧ H3 D = some (.lst ws) ∧ Reps K S3 ws acc := fun {S3 μ3 H3} k3 z => by
      refine ⟨?_, ?_, z.keep _ _ hL hM (fun _ w => by cases w), ra.mono z.same⟩
      · cases w : S3 D with
        | none => rfl
        | some o =>
          rcases z.news D o w with a | (a | ⟨m, a⟩) | ⟨q, a⟩
          · rw [hS] at a; cases a
          · exact (free_no a hL fun _ w => by cases w).elim
          · rw [hM] at a; cases a
          · have a1 := k3.sub D o w
            rw [z.keep _ _ hL hM (fun _ w => by cases w), a] at a1
            unfold LamX.CodeO at a1
            cases a1
      · cases w : μ3 D with
        | none => rfl
        | some o =>
          rcases z.mus D o w with a | ⟨m, a⟩
          · exact (free_no a hL fun _ w => by cases w).elim
          · rw [hM] at a; cases a
    refine .inr ⟨hgo, fun H' => ∃ S' μ' ws acc, OK K S' μ' H' ∧ Stp S1 μ1 H1 S' μ' H' ∧ S' D = none ∧ μ' D = none ∧ H' D = some (.lst ws) ∧ Reps K S' ws acc ∧ acc.length ≤ i + 1 ∧ lcD g t f C (rms ρ vs) (ds.drop (i + 1)) acc μ' RR, fun H' z => ⟨ds.length - (i + 1), by omega, rfl, hlt, z⟩, fun x H' y => ?_⟩
    obtain ⟨S3, k3, s3, r3⟩ := hy x H' y
    have e3 : RepE K S3 (wipe σ vs) (rms ρ vs) := (((e.mono s1.same).mono s2.same).mono s3.same).wipe vs
    refine ⟨S3, μ2, rms ρ vs, _, _, k3, e3, r3, q2.2, fun S4 μ4 H4 σ4 ρ4 k4 s4 e4 w4 q4 => ?_⟩
    have s24 := s3.trans s4
    refine ⟨w4.trans (wipe_idem vs σ), S4, μ4, ρ4, _, k4, e4, q4, fun S5 μ5 H5 b5 k5 s5 q5 => ?_⟩
    have s25 := s24.trans s5
    cases b5 with
    | false =>
      rw [if_neg Bool.false_ne_true] at q5
      refine iteF ?_
      obtain ⟨a1, a2, a3, a4⟩ := st k5 s25
      exact ⟨S5, μ5, ws, acc, k5, s2.trans s25, a1, a2, a3, a4, by omega, q5⟩
    | true =>
      rw [if_pos rfl] at q5
      refine iteT ?_
      refine ⟨S5, μ5, ρ4, _, k5, e4.mono s5.same, q5, fun S6 μ6 H6 v6 d6 k6 s6 r6 q6 => ?_⟩
      have s26 := s25.trans s6
      obtain ⟨a1, a2, a3, a4⟩ := st k6 s26
      refine ⟨ws, a3, by rw [ra.length]; omega, S6, μ6, ws ++ [v6], acc ++ [d6], k6.aside a1 a2, (s2.trans s26).aside hD, a1, a2, upd_same, a4.append (.cons r6 .nil), by simp; omega, q6⟩
  · have ei : i = ds.length := by omega
    subst ei
    rw [List.drop_length] at q2
    exact .inl ⟨io.2 rfl, fin S2 μ2 H2 D acc ws k2 (s1.trans s2) HD hS hM hL ra q2.2⟩
theorem up_lcF {K : PySem.W.Frag} {fi : RI} {g : RG} {t : RT} {f : RX} {vs : List Nat} : ∀ σ H Q, up K (rLc fi g t f vs) σ H Q → tLc (upI K fi) (upG K g vs) (upT K t) (up K f) vs σ H Q := fun σ H Q ⟨S, μ, ρ, R, k, e, h, post⟩ =>
  up_lc k e h fun S' μ' H' D zs ws k' s' n1 n2 n3 n4 r q => post _ _ _ _ _ (k'.take n4 n2 n3) (s'.takeS n1 n2) (.lst upd_same (r.mono (same_updn n2))) q
theorem de_lc {elt tg iter : Expr} {ifs : List Expr} {scope : Scope} (own : List (Str × Nat)) {pos : Pos} {fi : RI} {g : RG} {t : RT} {f : RX} (hN : X.N.Nodup) (hi : DI X tg iter fi) (ok : blkC X.N X.env.scope scope own = true)
    (hg : ∀ (s : Shared) (H : Hp) (C : Addr) (cl : List (Str × Addr)) (fp : List Addr), DG (X.blk s H scope (compEnvC scope cl C X.env) fp) tg g (own.map (·.2))) (ht : ∀ (s : Shared) (H : Hp) (C : Addr) (cl : List (Str × Addr)) (fp : List Addr), DTs (X.blk s H scope (compEnvC scope cl C X.env) fp) ifs t)
    (he : ∀ (s : Shared) (H : Hp) (C : Addr) (cl : List (Str × Addr)) (fp : List Addr), DE (X.blk s H scope (compEnvC scope cl C X.env) fp) elt f) (hc : X.calm = true := by rfl) (hs : ∀ x, foldedSetIterable iter X.env x = pure x := by intro _; rfl) :
    DE X (.ListComp elt [⟨tg, iter, ifs, 0⟩] scope pos) (rLc fi g t f (own.map (·.2))) := pe_imp (pe_lc hc hN hi (blkOk_by ok) hg ht he hs) up_lcF
/-- name = [..] -/
theorem ds_setLc {i : Nat} {y : Str} {py : Pos} {elt tg iter : Expr} {ifs : List Expr} {scope : Scope} (own : List (Str × Nat)) {pos spos : Pos} {fi : RI} {g : RG} {t : RT} {f : RX} (hN : X.N.Nodup)
    (hsw : swapsWith (.ListComp elt [⟨tg, iter, ifs, 0⟩] scope pos) (some (.Name y py)) spos.line X.env = pure true) (hi : DI X tg iter fi) (ok : blkC X.N X.env.scope scope own = true)
    (hg : ∀ (s : Shared) (H : Hp) (C : Addr) (cl : List (Str × Addr)) (fp : List Addr), DG (X.blk s H scope (compEnvC scope cl C X.env) fp) tg g (own.map (·.2))) (ht : ∀ (s : Shared) (H : Hp) (C : Addr) (cl : List (Str × Addr)) (fp : List Addr), DTs (X.blk s H scope (compEnvC scope cl C X.env) fp) ifs t)
    (he : ∀ (s : Shared) (H : Hp) (C : Addr) (cl : List (Str × Addr)) (fp : List Addr), DE (X.blk s H scope (compEnvC scope cl C X.env) fp) elt f) (hy : X.N[i]? = some y := by rfl) (hyl : X.env.scope.names.lookup y = some .local := by rfl) (hc : X.calm = true := by rfl) (hs : ∀ x, foldedSetIterable iter X.env x = pure x := by intro _; rfl) :
    DS X (.Assign [.Name y py] (.ListComp elt [⟨tg, iter, ifs, 0⟩] scope pos) spos) (rAsg (rLc fi g t f (own.map (·.2))) (rGN i)) := ps_imp (ps_setLc hc hN hy hyl hsw hi (blkOk_by ok) hg ht he hs) fun D σ H ⟨S, μ, ρ, DD, k, e, h, l⟩ =>
  up_lcF σ H _ ⟨S, μ, ρ, _, k, e, h, fun S1 μ1 H1 v d k1 s1 r1 q1 => l.nx S1 μ1 H1 _ _ k1 s1 ((e.mono s1.same).set r1 i) q1⟩
end

/-! ### attributes set, lists changed -/
def rFldS (C : Addr) (f : Str) (fo fv : RX) : RS := fun D ρ μ => fv ρ μ fun z μ1 => fo ρ μ1 fun d μ2 => match d with
  | .ref p => (match μ2 p with
    | some (.ins C' fs) => C' = C ∧ fs.length < 1000 ∧ D.nx ρ (updM μ2 p (.ins C (putD f z fs)))
    | _ => False)
  | _ => False
section
variable {K : PySem.W.Frag} {X : Cx} {C : Addr} {f : Str} {o value : Expr} {fo fv : RX} {pos pos' : Pos}
theorem ds_fld (ho : DE X o fo) (hv : DE X value fv) (c : Cls X.K C) (n : NoAttr X.K C f) (hs : swapsWith value (some (.Attribute o f pos')) pos.line X.env = pure false := by rfl) : DS X (.Assign [.Attribute o f pos'] value pos) (rFldS C f fo fv) := ps_imp (ps_fld ho hv hs) fun D σ H ⟨S, μ, ρ, DD, k, e, h, l⟩ => by
  refine ⟨S, μ, ρ, _, k, e, h, fun S1 μ1 H1 v d k1 s1 r1 h1 => ?_⟩
  refine ⟨S1, μ1, ρ, _, k1, e.mono s1.same, h1, fun S2 μ2 H2 w d2 k2 s2 r2 h2 => ?_⟩
  cases d2 with
  | ref p =>
    cases r2.toRef
    have h2 : (match μ2 p with | some (.ins C' fs) => C' = C ∧ fs.length < 1000 ∧ DD.nx ρ (updM μ2 p (.ins C (putD f d fs))) | _ => False) := h2
    cases q : μ2 p with
    | none => rw [q] at h2; exact h2.elim
    | some m =>
      rw [q] at h2
      cases m with
      | lst _ => exact h2.elim
      | tab _ => exact h2.elim
      | dk _ => exact h2.elim
      | dct _ _ => exact h2.elim
      | ins C' fs =>
        obtain ⟨rfl, hl, h2⟩ := h2
        obtain ⟨hS, dx, vfs, e1, r3⟩ := k2.mts p _ q
        refine ⟨p, C', dx, vfs, rfl, e1, c, n, by rw [r3.length]; exact hl, ?_⟩
        have k3 : OK X.K S2 (updM μ2 p (.ins C' (putD f d fs))) (upd H2 p (.ins C' dx (putF f v vfs))) := k2.put hS ⟨dx, _, upd_same, r3.put (r1.mono s2.same) f⟩
        have s3 : Stp S2 μ2 H2 S2 (updM μ2 p (.ins C' (putD f d fs))) (upd H2 p (.ins C' dx (putF f v vfs))) := .put q
        exact l.nx _ _ _ _ _ k3 ((s1.trans s2).trans s3) ((e.mono s1.same).mono s2.same) h2
  | _ => exact False.elim h2
/-- xs.append(e) -/
def rMut (fo : RX) (fa : RA) (g : List L3.D → List L3.D → (L3.D → List L3.D → Prop) → Prop) : RX := fun ρ μ R => fo ρ μ fun d μ1 => match d with
  | .ref p => (match μ1 p with
    | some (.lst _) => fa ρ μ1 fun ds μ2 => (match μ2 p with
      | some (.lst xs) => g xs ds fun z ys => R z (updM μ2 p (.lst ys))
      | _ => False)
    | _ => False)
  | _ => False
def gAppend : List L3.D → List L3.D → (L3.D → List L3.D → Prop) → Prop := fun xs ds R => match ds with
  | [d] => xs.length < sizeLine ∧ R .non (xs ++ [d])
  | _ => False
def gPopAt : List L3.D → List L3.D → (L3.D → List L3.D → Prop) → Prop := fun xs ds R => match ds with
  | [.int i] => -(2 ^ 63) ≤ i ∧ i < 2 ^ 63 ∧ (match seqIndex? i xs.length with
    | some k => (match xs[k]? with
      | some d => R d (xs.eraseIdx k)
      | none => False)
    | none => False)
  | _ => False
def SndM (K : PySem.W.Frag) (r : V → List V → Hp → VK → Prop) (g : List L3.D → List L3.D → (L3.D → List L3.D → Prop) → Prop) : Prop :=
  ∀ S μ H p vs xs ws ds (R : L3.D → List L3.D → Prop) (Q : VK), OK K S μ H → H p = some (.lst vs) → Reps K S vs xs → Reps K S ws ds → g xs ds R → (∀ z ys v us, Rep K S v z → Reps K S us ys → R z ys → Q v (upd H p (.lst us))) → r (.ref p) ws H Q
theorem snd_append : SndM K rAppend gAppend := by
  intro S μ H p vs xs ws ds R Q k h r rs q post
  unfold gAppend at q
  split at q
  · obtain ⟨v, rfl, r1⟩ := reps1 rs
    exact ⟨p, vs, v, rfl, rfl, h, by rw [r.length]; exact q.1, post _ _ _ _ .non (r.append (.cons r1 .nil)) q.2⟩
  · exact q.elim
theorem snd_popAt : SndM K rPopAt gPopAt := by
  intro S μ H p vs xs ws ds R Q k h r rs q post
  unfold gPopAt at q
  split at q
  · rename_i i
    obtain ⟨v, rfl, r1⟩ := reps1 rs
    cases r1.toInt
    obtain ⟨q1, q2, q⟩ := q
    cases e1 : seqIndex? i xs.length with
    | none => rw [e1] at q; exact q.elim
    | some j =>
      rw [e1] at q
      dsimp only at q
      cases e2 : xs[j]? with
      | none => rw [e2] at q; exact q.elim
      | some d =>
        rw [e2] at q
        obtain ⟨v, hv, rv⟩ := r.get e2
        exact ⟨p, vs, i, j, v, rfl, rfl, h, q1, q2, by rw [r.length]; exact e1, hv, post _ _ _ _ rv (r.eraseIdx j) q⟩
  · exact q.elim
section
variable {T : String} {name id : Str} {idS : String} {r : V → List V → Hp → VK → Prop} {g : List L3.D → List L3.D → (L3.D → List L3.D → Prop) → Prop} {e : Expr} {es : List Expr} {fa : RA}
theorem up_mut (s : SndM K r g) : ∀ σ H Q, up K (rMut fo fa g) σ H Q → tBM K "list" r (up K fo) (upA K fa) σ H Q := fun σ H Q ⟨S, μ, ρ, R, k, e, h, post⟩ => by
  refine ⟨S, μ, ρ, _, k, e, h, fun S1 μ1 H1 v d k1 s1 r1 h1 => ?_⟩
  cases d with
  | ref p =>
    cases r1.toRef
    have h1 : (match μ1 p with | some (.lst _) => fa ρ μ1 fun ds μ2 => (match μ2 p with | some (.lst xs) => g xs ds fun z ys => R z (updM μ2 p (.lst ys)) | _ => False) | _ => False) := h1
    cases q : μ1 p with
    | none => rw [q] at h1; exact h1.elim
    | some m =>
      rw [q] at h1
      cases m with
      | ins _ _ => exact h1.elim
      | tab _ => exact h1.elim
      | dk _ => exact h1.elim
      | dct _ _ => exact h1.elim
      | lst xs0 =>
        obtain ⟨_, vs0, e0, _⟩ := k1.mts p _ q
        refine ⟨.inl ⟨rfl, _, .inl (.inl e0)⟩, S1, μ1, ρ, _, k1, e.mono s1.same, h1, fun S2 μ2 H2 ws ds k2 s2 r2 h2 => ?_⟩
        cases q2 : μ2 p with
        | none => rw [q2] at h2; exact h2.elim
        | some m2 =>
          rw [q2] at h2
          cases m2 with
          | ins _ _ => exact h2.elim
          | tab _ => exact h2.elim
          | dk _ => exact h2.elim
          | dct _ _ => exact h2.elim
          | lst xs =>
            obtain ⟨hS, vs, e3, r3⟩ := k2.mts p _ q2
            refine s S2 μ2 H2 p vs xs ws ds _ Q k2 e3 r3 r2 h2 fun z ys w us rz ry h3 => ?_
            exact post S2 _ _ _ _ (k2.put (m := .lst ys) hS ⟨us, upd_same, ry⟩) ((s1.trans s2).trans (.put q2)) rz h3
  | _ => exact False.elim h1
end
end
end L3

/-! ## L3f -/
set_option Elab.async false
set_option linter.all false
set_option maxRecDepth 100000
set_option maxHeartbeats 4000000
namespace L3
open PySem PySem.Spec PyProof.Rows L2

section
variable {X : Cx} {o e i : Expr} {fo fe fi : RX} {fa : RA} {pos apos : Pos}
theorem de_append (ho : DE X o fo) (ha : DA X [e] fa) (hbase : attributeBase o "append" X.env (eval o X.env) = eval o X.env := by rfl)
    (hfew : ((backTo pos (starEach [e] X.env)).all (fun x => !x.1) && (backToKw pos (keywordEach [] X.env)).all (fun x => x.1.isSome)
      && decide ([e].length + ([] : List Keyword).length + (if ([] : List Keyword).isEmpty then 0 else 1) < 30)) = true := by rfl)
    (hline : (apos.endLine == pos.line) = true := by rfl) (hst : starEach [e] X.env = (false, eval e X.env) :: starEach [] X.env := by rfl) : DE X (.Call (.Attribute o "append" apos) [e] [] pos) (rMut fo fa gAppend) :=
  pe_imp (pe_bm PySem.F.plainAttrs_list PySem.F.slot_list_append PySem.F.type_list_append mt_append ho ha hbase hfew hline hst) (up_mut snd_append)
theorem de_popAt (ho : DE X o fo) (ha : DA X [e] fa) (hbase : attributeBase o "pop" X.env (eval o X.env) = eval o X.env := by rfl)
    (hfew : ((backTo pos (starEach [e] X.env)).all (fun x => !x.1) && (backToKw pos (keywordEach [] X.env)).all (fun x => x.1.isSome)
      && decide ([e].length + ([] : List Keyword).length + (if ([] : List Keyword).isEmpty then 0 else 1) < 30)) = true := by rfl)
    (hline : (apos.endLine == pos.line) = true := by rfl) (hst : starEach [e] X.env = (false, eval e X.env) :: starEach [] X.env := by rfl) : DE X (.Call (.Attribute o "pop" apos) [e] [] pos) (rMut fo fa gPopAt) :=
  pe_imp (pe_bm PySem.F.plainAttrs_list PySem.F.slot_list_pop PySem.F.type_list_pop mt_popAt ho ha hbase hfew hline hst) (up_mut snd_popAt)
/-- o[i] = e -/
def rSetIx (fe fo fi : RX) : RS := fun D ρ μ => fe ρ μ fun v μ1 => fo ρ μ1 fun d μ2 => fi ρ μ2 fun j μ3 => match d, j with
  | .ref p, .int k => (match μ3 p with
    | some (.lst xs) => (match ixN xs.length k with
      | some n => D.nx ρ (updM μ3 p (.lst (xs.set n v)))
      | none => False)
    | _ => False)
  | _, _ => False
theorem ds_setIx (he : DE X e fe) (ho : DE X o fo) (hi : DE X i fi) (hs : swapsWithSole [.Subscript o i apos] e pos.line X.env = pure false := by rfl) (hw : swappedStores [.Subscript o i apos] e X.env = pure none := by rfl)
    (h1 : (assignEach [.Subscript o i apos] X.env).map (·.2) = [assign (.Subscript o i apos) X.env] := by rfl)
    (ha : ∀ v, assign (.Subscript o i apos) X.env v = (do
      let ov ← holding [v] (eval o X.env)
      let iv ← holding [v, ov] (eval i X.env)
      standAt apos
      holding [v, ov, iv] (setItem ov iv v)
      release [v, ov, iv] []) := by intro _; rfl) : DS X (.Assign [.Subscript o i apos] e pos) (rSetIx fe fo fi) := ps_imp (ps_asg he (pg_sub ho hi set_list ha) hs hw h1) fun D σ H ⟨S, μ, ρ, DD, k, e, h, l⟩ => by
  refine ⟨S, μ, ρ, _, k, e, h, fun S1 μ1 H1 v d k1 s1 r1 h1 => ?_⟩
  refine ⟨S1, μ1, ρ, _, k1, e.mono s1.same, h1, fun S2 μ2 H2 w d2 k2 s2 r2 h2 => ?_⟩
  refine ⟨S2, μ2, ρ, _, k2, (e.mono s1.same).mono s2.same, h2, fun S3 μ3 H3 j d3 k3 s3 r3 h3 => ?_⟩
  cases d2 <;> cases d3 <;> first | exact False.elim h3 | skip
  rename_i p z
  cases r2.toRef
  cases r3.toInt
  have h3 : (match μ3 p with | some (.lst xs) => (match ixN xs.length z with | some n => DD.nx ρ (updM μ3 p (.lst (xs.set n d))) | none => False) | _ => False) := h3
  cases q : μ3 p with
  | none => rw [q] at h3; exact h3.elim
  | some m =>
    rw [q] at h3
    cases m with
    | ins _ _ => exact h3.elim
    | tab _ => exact h3.elim
    | dk _ => exact h3.elim
    | dct _ _ => exact h3.elim
    | lst xs =>
      dsimp only at h3
      cases q2 : ixN xs.length z with
      | none => rw [q2] at h3; exact h3.elim
      | some n =>
        rw [q2] at h3
        obtain ⟨hS, vs, e1, r4⟩ := k3.mts p _ q
        refine ⟨p, vs, z, n, rfl, rfl, e1, by rw [r4.length]; exact q2, ?_⟩
        exact l.nx _ _ _ _ _ (k3.put (m := .lst (xs.set n d)) hS ⟨_, upd_same, r4.set (r1.mono (s2.trans s3).same) n⟩) (((s1.trans s2).trans s3).trans (.put q)) (((e.mono s1.same).mono s2.same).mono s3.same) h3
end

/-! ### a def keeps its promise -/
section
variable {P : Program} {w : World} {K : PySem.W.Frag} {mg : Str → Option Value} {base : Heap}
theorem fnD {x qual : Str} {params : Arguments} {bd : List Stmt} {scope : Scope} {dvs : List V} {kws : List (Str × V)} {f : Addr} {fd : FuncData} {N ps : List Str} {k : Nat} {s : GN} {body : RS} (F : FunD K x qual params bd scope dvs kws f fd) (Sc : FnScope N ps scope)
    (len : ∀ ds μ R, s ds μ R → ds.length = ps.length)
    (hb : ∀ (cdv : Value) (A : Around) (outer : List Env) (s0 : Shared) (H : Hp) (E : XK), Room k (A.deeper (envOfC qual scope s0.heap.objs.size f cdv)) → DSs (cxOf CX0 P w K mg base N qual scope f cdv A outer s0 H E).nox bd body)
    (hv : ∀ ds μ R, s ds μ R → body { nx := fun _ μ' => R .non μ', rt := R } (startD N.length ds) μ) : FnOk P w K mg base CX0 (k + 1) f fd ps (spD K s) := by
  refine F.ok Sc (fun vs H Q E h => ?_) fun cdv A outer s0 H vs Q E hr h => ⟨upS K body, PSs.nox (hb cdv A outer s0 H E hr), ?_⟩
  · obtain ⟨S, μ, ds, R, a, b, c, d⟩ := h
    rw [b.length]
    exact len ds μ R c
  · obtain ⟨S, μ, ds, R, a, b, c, d⟩ := h
    exact ⟨S, μ, _, _, a, repE_start b, hv ds μ R c, ⟨fun S' μ' H' σ' ρ' k' s' e' q' => d S' μ' H' _ _ k' s' .non q', fun S' μ' H' v z k' s' r' q' => d S' μ' H' v z k' s' r' q', fun _ _ _ _ _ _ _ _ q' => False.elim q', fun _ _ _ _ _ _ _ _ q' => False.elim q'⟩⟩
end

/-! ### the law -/
theorem reps_ints {K : PySem.W.Frag} {S : Hp} : ∀ ns : List Int, Reps K S (ns.map V.int) (ns.map D.int)
  | [] => .nil
  | n :: r => .cons (.int n) (reps_ints r)
/-- all but the tables -/
def noT (H : Hp) : Hp := fun b => match H b with
  | some (.tbl _) => none
  | x => x
theorem noT_sub {H : Hp} : Same (noT H) H := fun b o e => by
  unfold noT at e
  split at e
  · cases e
  · exact e
theorem noT_at {H : Hp} {b : Addr} {o : HO} (h : H b = some o) (n : ∀ ps, o ≠ .tbl ps) : noT H b = some o := by
  unfold noT
  rw [h]
  split
  · rename_i ps e
    exact absurd (Option.some.inj e) (n _)
  · rfl
theorem noT_nst {H : Hp} (b : Addr) (ps : Array Value) : noT H b ≠ some (.tbl ps) := fun e => by
  unfold noT at e
  split at e
  · cases e
  · rename_i n
    exact n ps e
theorem noT_seq {K : PySem.W.Frag} {H : Hp} {a : Addr} {xs : List V} (h : SqL K H a xs) : SqL K (noT H) a xs := by
  rcases h with (h | ⟨o, h⟩) | h
  · exact .inl (.inl (noT_at h fun _ z => by cases z))
  · exact .inl (.inr ⟨o, noT_at h fun _ z => by cases z⟩)
  · exact .inr h
end L3

/-! ## L3g -/
set_option Elab.async false
set_option linter.all false
set_option maxRecDepth 100000
set_option maxHeartbeats 4000000
namespace L3
open PySem PySem.Spec PyProof.Rows L2

/-! ### further rules -/
/-- a module's constant -/
structure ConstOk (K : PySem.W.Frag) (mg : Str → Option Value) (x : Str) (d : D) : Prop where
  ex : ∃ u v, mg x = some u ∧ RelV v u ∧ ∀ S, Rep K S v d
theorem ConstOk.de {X : Cx} {x : Str} {d : D} {pos : Pos} (c : ConstOk X.K X.mg x d) (hg : Gl X x := by rfl) (hd : (x == ("__debug__" : Str)) = false := by decide) : DE X (.Name x pos) (rC d) := by
  obtain ⟨u, v, a, b, r⟩ := c.ex
  exact de_glob hg a b r hd
theorem FnG.raw {P : Program} {w : World} {K : PySem.W.Frag} {mg : Str → Option Value} {base : Heap} {k : Nat} {x : Str} {s : GN} (F : FnG P w K mg base k x s) : ∃ f, FnR P w K mg base CX0 k f (spD K s) ∧ mg x = some (.ref f) ∧ PySem.W.keepIn K (.ref f) = true := by
  obtain ⟨f, fd, ps, a, b, c, d⟩ := F.ex
  have z := a.raw d (dvs := []) .nil
  simp only [List.append_nil] at z
  exact ⟨f, z, b, c⟩
section
variable {X : Cx} {k : Nat} {x : Str} {s : GN} {e : Expr} {es : List Expr} {fa : RA} {fe : RX} {p pos p2 : Pos}
/-- f(*xs) -/
theorem de_callS1 (F : FnG X.prog X.w X.K X.mg X.base k x s) (hr : Room k X.A) (hg : Gl X x) (he : DE X e fe) (hd : (x == ("__debug__" : Str)) = false := by decide)
    (hst : starEach [.Starred e p2] X.env = [(true, eval e X.env)] := by rfl) : DE X (.Call (.Name x p) [.Starred e p2] [] pos) (rCl s (rStar fe rNil)) := by
  obtain ⟨f, a, b, c⟩ := F.raw
  refine pe_imp (StX.pe_callS1 a hr c hg b pass0 he hd hst) fun σ H Q ⟨S, μ, ρ, R, k, e, h, post⟩ => ?_
  refine ⟨S, μ, ρ, _, k, e, h, fun S1 μ1 H1 v1 d1 k1 s1 r1 h1 => ?_⟩
  cases q : seqD (res μ1 d1) with
  | none => rw [q] at h1; exact h1.elim
  | some xs =>
    rw [q] at h1
    obtain ⟨y, vs, e1, h2, r2⟩ := seq_rep k1 r1 q
    have h1 : s (xs ++ []) μ1 R := h1
    rw [List.append_nil] at h1
    exact ⟨y, vs, e1, h2.symm, S1, μ1, xs, R, k1, r2, h1, fun S3 μ3 H3 v d k3 s3 r3 h3 => post S3 μ3 H3 v d k3 (s1.trans s3) r3 h3⟩
end
/-- C(e, ..) where the keyword-only defaults fill up: their data at the end -/
structure MkD (P : Program) (w : World) (K : PySem.W.Frag) (mg : Str → Option Value) (base : Heap) (k : Nat) (x : Str) (C : Addr) (s : GN) (dd : List D) : Prop where
  ex : ∃ f fd ps ds dvs, FnOk P w K mg base CX0 k f fd ps (spD K s) ∧ mg x = some (.ref C) ∧ Mk K C f ∧ Binds K fd ps ds ∧ Vals dvs ds ∧ ∀ S, Reps K S dvs dd
def rMakeD (g : GN) (dd : List D) (fa : RA) : RX := fun ρ μ R => fa ρ μ fun ds μ1 => g (ds ++ dd) μ1 R
section
variable {X : Cx} {k : Nat} {C : Addr} {x : Str} {s : GN} {dd : List D} {e : Expr} {es : List Expr} {fa : RA} {p pos : Pos}
end
def rPar3 (i j l : Nat) (fa : RA) : RS := fun D ρ μ => fa ρ μ fun ds μ1 => match ds with
  | [a, b, c] => D.nx (st (st (st ρ i a) j b) l c) μ1
  | _ => False
/-! ### isinstance of an own class -/
structure IsiO (K : PySem.W.Frag) (C : Addr) : Prop where
  cls : Cls K C
  ha : PySem.W.findIn K (.ref C) "__class__" = some (some (.builtin "object.__class__"))
  hn : PySem.W.specialIn K (.builtin "object.__class__") "__get__" = some (some (.builtin "getset_descriptor.__get__"))
  ht : PySem.W.takesIn K (.builtin "object.__class__") = some true
  hm : PySem.W.mroIn K C (.type "object") = some true
  own : PySem.W.kitOne K (.ref C) (.ref C) = some true
  oth : ∀ t : String, t ∈ ["NoneType", "bool", "int", "str", "tuple", "list"] → PySem.W.kitOne K (.type t) (.ref C) = some false
section
variable {X : Cx} {C : Addr} {x : Str} {e : Expr} {fe : RX} {p p2 pos : Pos}
end
end L3

/-! ## L3h -/
set_option Elab.async false
set_option linter.all false
set_option maxRecDepth 100000
set_option maxHeartbeats 4000000
/-! What the head reads besides: properties' getters, own calls. -/
namespace L3
open PySem PySem.Spec PyProof.Rows L2

/-- a def at an address of one's own -/
structure FnX where
  at_ : PySem.W.Frag → Addr
  name : Str
  qual : Str
  params : Arguments
  body : List Stmt
  scope : Scope
abbrev FxV : Type := Option ((Str × Str × Scope) × (Arguments × FuncBody) × (Addr × Addr) × List (Str × Addr) × Value)
def fxOf (fd : FuncData) : FxV := some ((fd.name, fd.qualname, fd.scope), (fd.params, fd.body), (fd.globals, fd.builtins), fd.closure, fd.defaults)
def FnX.obs (K : PySem.W.Frag) (d : FnX) : FxV := (K.lookup (d.at_ K)).bind fun o => match o with
  | ⟨_, _, .func fd, _⟩ => fxOf fd
  | _ => none
def FnX.val (d : FnX) : FxV := some ((d.name, d.qual, d.scope), (d.params, .stmts d.body), (mainGlobals, builtinsNs), [], .none)
def FnX.ok (K : PySem.W.Frag) (d : FnX) : Bool := PySem.W.keepIn K (.ref (d.at_ K)) && ((K.lookup (d.at_ K)).any fun o => match o with
  | ⟨_, _, .func fd, _⟩ => PySem.W.codeIn K fd.code d.qual
  | _ => false)
/-! ### the hook: facts, defs, checks of one's own, getters -/
abbrev AlX : Type := (Bool × Bool) × He.AlD × List FxV
def obsX (xb : List (PySem.W.Frag → Bool)) (fa : List He.Fa) (fn : List He.DefD) (fx : List FnX) (K : PySem.W.Frag) : AlX := ((xb.all fun b => b K, fx.all fun d => d.ok K), He.obsD fa fn K, fx.map fun d => d.obs K)
def valX (fn : List He.DefD) (fx : List FnX) : AlX := ((true, true), He.valD fn, fx.map FnX.val)
section
variable {xb : List (PySem.W.Frag → Bool)} {fa : List He.Fa} {fn : List He.DefD} {fx : List FnX} {K : PySem.W.Frag}
theorem says_d (c : obsX xb fa fn fx K = valX fn fx) : He.SaysD fa fn K := congrArg (fun z : AlX => z.2.1) c
theorem says_b (c : obsX xb fa fn fx K = valX fn fx) (i : Nat) {b : PySem.W.Frag → Bool} (h : xb[i]? = some b := by rfl) : b K = true :=
  List.all_eq_true.mp (congrArg (fun z : AlX => z.1.1) c) b (List.mem_of_getElem? h)
end
/-- a def that promises nothing -/
theorem FnOk.none {P : Program} {w : World} {K : PySem.W.Frag} {mg : Str → Option Value} {base : Heap} {f : Addr} {fd : FuncData} {ps : List Str} {k : Nat} : FnOk P w K mg base CX0 k f fd ps (spD K fun _ _ _ => False) :=
  ⟨fun _ _ _ _ ⟨_, _, _, _, _, _, h, _⟩ => h.elim, fun _ _ _ _ _ _ _ _ _ _ _ _ _ ⟨_, _, _, _, _, _, h, _⟩ => h.elim⟩
/-- a module's tuple -/
theorem constTup {K : PySem.W.Frag} {mg : Str → Option Value} {x : Str} {vs : List He.Dv} {ds : List D} (g : mg x = some (.ref (He.ga K x))) (h : He.tupB K x vs = true) (r : ∀ S, Reps K S (vs.map (He.Dv.v K)) ds) : ConstOk K mg x (.tup ds) :=
  ⟨.ref (He.ga K x), .ref (He.ga K x), g, rfl, fun S => .tup (He.tupB_ok h S) (r S)⟩
end L3

/-! ## L3i -/
set_option Elab.async false
set_option linter.all false
set_option maxRecDepth 100000
set_option maxHeartbeats 4000000
/-! More readings. -/
namespace L3
open PySem PySem.Spec PyProof.Rows L2
def rChain (g g' : G2) (fa fb fc : RX) : RX := fun ρ μ R => fa ρ μ fun x μ1 => fb ρ μ1 fun y μ2 => g x y μ2 fun d μ3 => match d with
  | .bl b => if b = true then fc ρ μ3 fun z μ4 => g' y z μ4 R else R (.bl false) μ3
  | _ => False
section
variable {K : PySem.W.Frag} {X : Cx} {a b c : Expr} {fa fb fc : RX} {pos : Pos}
theorem up_chain {r r' : R2} {g g' : G2} (s : Snd2 K r g) (s' : Snd2 K r' g') : ∀ σ H Q, up K (rChain g g' fa fb fc) σ H Q → tChain r r' (up K fa) (up K fb) (up K fc) σ H Q := by
  rintro σ H Q ⟨S, μ, ρ, R, k, e, h, post⟩
  refine ⟨S, μ, ρ, _, k, e, h, fun S1 μ1 H1 v1 d1 k1 s1 r1 h1 => ?_⟩
  refine ⟨S1, μ1, ρ, _, k1, e.mono s1.same, h1, fun S2 μ2 H2 v2 d2 k2 s2 r2 h2 => ?_⟩
  refine s S2 μ2 H2 v1 v2 d1 d2 _ _ k2 (r1.mono s2.same) r2 h2 fun S3 μ3 H3 v d k3 s3 r3 h3 => ?_
  cases d with
  | bl b =>
    refine ⟨b, r3.toBl, ?_⟩
    have h3 : (if b = true then fc ρ μ3 fun z μ4 => g' d2 z μ4 R else R (.bl false) μ3) := h3
    have s13 := (s1.trans s2).trans s3
    cases b with
    | true =>
      rw [if_pos rfl] at h3 ⊢
      refine ⟨S3, μ3, ρ, _, k3, e.mono s13.same, h3, fun S4 μ4 H4 v4 d4 k4 s4 r4 h4 => ?_⟩
      exact s' S4 μ4 H4 v2 v4 d2 d4 R Q k4 (r2.mono (s3.trans s4).same) r4 h4 fun S5 μ5 H5 v5 d5 k5 s5 r5 h5 => post S5 μ5 H5 v5 d5 k5 ((s13.trans s4).trans s5) r5 h5
    | false =>
      rw [if_neg Bool.false_ne_true] at h3 ⊢
      exact post S3 μ3 H3 _ _ k3 s13 (.bl _) h3
  | _ => exact False.elim h3
theorem de_chain {op op' : CmpOp} {r r' : R2} {g g' : G2} (ho : OpR X (compareOp op) r) (ho' : OpR X (compareOp op') r') (s : Snd2 X.K r g) (s' : Snd2 X.K r' g') (ha : DE X a fa) (hb : DE X b fb) (hc : DE X c fc)
    (hm : lastMarks [op, op'] [b, c] = false := by with_unfolding_all rfl) : DE X (.Compare a [op, op'] [b, c] pos) (rChain g g' fa fb fc) := pe_imp (pe_chain ho ho' ha hb hc hm) (up_chain s s')
theorem de_chain_le_le (ha : DE X a fa) (hb : DE X b fb) (hc : DE X c fc) (hm : lastMarks [.LtE, .LtE] [b, c] = false := by with_unfolding_all rfl) : DE X (.Compare a [.LtE, .LtE] [b, c] pos) (rChain gLe gLe fa fb fc) :=
  de_chain op_le op_le (snd_I0 fun i j S => .bl _) (snd_I0 fun i j S => .bl _) ha hb hc hm
theorem dt_chain {op op' : CmpOp} {r r' : R2} {g g' : G2} (ho : OpR X (compareOp op) r) (ho' : OpR X (compareOp op') r') (s : Snd2 X.K r g) (s' : Snd2 X.K r' g') (ha : DE X a fa) (hb : DE X b fb) (hc : DE X c fc)
    (hm : lastMarks [op, op'] [b, c] = false := by with_unfolding_all rfl) : DT X (.Compare a [op, op'] [b, c] pos) (rB (rChain g g' fa fb fc)) := pt_imp (pt_chain ho ho' ha hb hc hm) fun σ H Q ⟨S, μ, ρ, R, k, e, h, post⟩ => by
  refine up_chain s s' σ H (fun x H' => ∃ k, x = .bl k ∧ Q k H') ⟨S, μ, ρ, _, k, e, h, fun S1 μ1 H1 v1 d1 k1 s1 r1 h1 => ?_⟩
  cases d1 <;> first | exact False.elim h1 | skip
  cases r1.toBl
  exact ⟨_, rfl, post S1 μ1 H1 _ k1 s1 h1⟩
theorem dt_chain_le_le (ha : DE X a fa) (hb : DE X b fb) (hc : DE X c fc) (hm : lastMarks [.LtE, .LtE] [b, c] = false := by with_unfolding_all rfl) : DT X (.Compare a [.LtE, .LtE] [b, c] pos) (rB (rChain gLe gLe fa fb fc)) :=
  dt_chain op_le op_le (snd_I0 fun i j S => .bl _) (snd_I0 fun i j S => .bl _) ha hb hc hm
end
end L3

/-! ## L3j -/
set_option Elab.async false
set_option linter.all false
set_option maxRecDepth 100000
set_option maxHeartbeats 4000000
/-! Classes whose __init__ takes a star parameter. -/
namespace L3
open PySem PySem.Spec PyProof.Rows L2 StX
def starSp (sp : Sp) : Sp := fun vs H Q E => ∃ ws rest, vs = ws ++ rest ∧ ws.length = ([""] : List Str).length ∧ rest.length ≤ sizeLine ∧ ∀ p, H p = Option.none → sp (ws ++ [V.ref p]) (upd H p (.tup rest)) Q E
/-- the class x, its __init__(self, *v): s speaks of [self, the tuple] -/
structure MkS (P : Program) (w : World) (K : PySem.W.Frag) (mg : Str → Option Value) (base : Heap) (k : Nat) (x : Str) (C : Addr) (s : GN) : Prop where
  ex : ∃ f, FnR P w K mg base CX0 k f (starSp (spD K s)) ∧ mg x = some (.ref C) ∧ Mk K C f
def starG (s : GN) : GN := fun es μ R => match es with
  | d :: r => s [d, .tup r] μ R
  | [] => False
def gMakeS (C : Addr) (s : GN) : GN := fun ds μ R => ds.length ≤ sizeLine ∧ gMake C (starG s) ds μ R
section
variable {P : Program} {w : World} {K : PySem.W.Frag} {mg : Str → Option Value} {base : Heap}
theorem fnS {x qual : Str} {params : Arguments} {bd : List Stmt} {scope : Scope} {f : Addr} {fd : FuncData} {N : List Str} {p1 pv : Str} {k : Nat} {s : GN} {body : RS} (F : FunD K x qual params bd scope [] [] f fd) (Sc : FnScope N [p1, pv] scope)
    (hbind : ∀ (kV doc pm : Value) (an : Option Addr) (cdv ct : Value), (∀ a : Value, bindArgs (PySem.W.fnOf x qual params bd scope .none kV doc pm an cdv ct) ⟨[a], []⟩ = (newTuple [] >>= fun t => pure [(p1, a), (pv, t)])) ∧ (∀ (a r : Value) (rs : List Value), bindArgs (PySem.W.fnOf x qual params bd scope .none kV doc pm an cdv ct) ⟨a :: r :: rs, []⟩ = (newTuple (r :: rs) >>= fun t => pure [(p1, a), (pv, t)])))
    (hb : ∀ (cdv : Value) (A : Around) (outer : List Env) (s0 : Shared) (H : Hp) (E : XK), Room k (A.deeper (envOfC qual scope s0.heap.objs.size f cdv)) → DSs (cxOf CX0 P w K mg base N qual scope f cdv A outer s0 H E).nox bd body)
    (hv : ∀ ds μ R, s ds μ R → body { nx := fun _ μ' => R .non μ', rt := R } (startD N.length ds) μ) : FnR P w K mg base CX0 (k + 1) f (starSp (spD K s)) := by
  obtain ⟨oc, od, dV, kV, doc, pm, an, cdv, ct, osl, rfl, lk, hcd, hD, _⟩ := F.ex
  rcases hD with ⟨_, rfl⟩ | ⟨e, _⟩
  · have q := fn_star (ps := [p1]) (pv := pv) (P := P) (w := w) (mg := mg) (base := base) (sp := spD K s) lk hcd Sc cxUp_none (bind_star1 (B := fun us => bindArgs (PySem.W.fnOf x qual params bd scope .none kV doc pm an cdv ct) ⟨us, []⟩) (hbind kV doc pm an cdv ct).1 (hbind kV doc pm an cdv ct).2)
      (fun A outer s0 H vs Q E hr h => ⟨upS K body, PSs.nox (hb cdv A outer s0 H E hr), by
        obtain ⟨S, μ, ds, R, a, b, c, d⟩ := h
        exact ⟨S, μ, _, _, a, repE_start b, hv ds μ R c, ⟨fun S' μ' H' σ' ρ' k' s' e' q' => d S' μ' H' _ _ k' s' .non q', fun S' μ' H' v z k' s' r' q' => d S' μ' H' v z k' s' r' q', fun _ _ _ _ _ _ _ _ q' => False.elim q', fun _ _ _ _ _ _ _ _ q' => False.elim q'⟩⟩⟩)
    exact q
  · exact absurd rfl e
end
section
variable {K : PySem.W.Frag} {S H : Hp} {μ : MH} {C : Addr} {s : GN}
theorem make_sndS {R : D → MH → Prop} {Q : VK} {vs : List V} {ds : List D} {x dx : Addr} {E : XK} (k : OK K S μ H) (r : Reps K S vs ds) (q : gMakeS C s ds μ R) (post : Pst K S μ H R Q) (hx : H x = none) (hd : H dx = none) (hn : dx ≠ x) :
    starSp (spD K s) (.ref x :: vs) (upd (upd H dx (.own x)) x (.ins C dx [])) (fun v H2 => v = .non ∧ Q (.ref x) H2) E := by
  obtain ⟨hl, q⟩ := q
  obtain ⟨k1, s1⟩ := k.newI (C := C) hx hd hn
  refine ⟨[.ref x], vs, rfl, rfl, by rw [r.length]; exact hl, fun p hp => ?_⟩
  obtain ⟨k0, s0⟩ := k1.alloc (o := .tup vs) hp
  refine ⟨_, _, [.ref x, .tup ds], _, k0, .cons (.ref x) (.cons (.tup (.inl (.inl upd_same)) (r.mono s0.same)) .nil), q x (k.free hx).2, fun S2 μ2 H2 v d k2 s2 r2 h2 => ?_⟩
  obtain ⟨rfl, h2⟩ := h2
  refine ⟨r2.toNon, ?_⟩
  cases e : μ2 x with
  | none => rw [e] at h2; exact h2.elim
  | some m =>
    cases m with
    | lst _ => rw [e] at h2; exact h2.elim
    | tab _ => rw [e] at h2; exact h2.elim
    | dk _ => rw [e] at h2; exact h2.elim
    | dct _ _ => rw [e] at h2; exact h2.elim
    | ins C' fs =>
      rw [e] at h2
      obtain ⟨_, dx', vfs, e2, r3⟩ := k2.mts x _ e
      obtain ⟨k3, s3⟩ := k2.freeze e e2
      exact post _ _ _ _ _ k3 (((s1.trans s0).trans s2).trans s3) (.ins upd_same (r3.mono s3.same)) h2
end
section
variable {X : Cx} {k : Nat} {C : Addr} {x : Str} {s : GN} {e : Expr} {es : List Expr} {fe : RX} {fa : RA} {p pos sp_ : Pos}
theorem de_makeS (F : MkS X.prog X.w X.K X.mg X.base k x C s) (hr : Room (k + 1) X.A) (hg : Gl X x) (ha : DA X (e :: es) fa) (hdb : (x == ("__debug__" : Str)) = false := by decide)
    (he : starEach (e :: es) X.env = (false, eval e X.env) :: starEach es X.env := by rfl) (hpl : (backTo pos (starEach es X.env)).any (·.1) = false := by rfl) : DE X (.Call (.Name x p) (e :: es) [] pos) (rCl (gMakeS C s) fa) := by
  obtain ⟨f, a, b, c⟩ := F.ex
  refine pe_imp (pe_makeR c a hr hg b pass0 ha hdb he hpl) fun σ H Q ⟨S, μ, ρ, R, k, e, h, post⟩ => ?_
  refine ⟨S, μ, ρ, _, k, e, h, fun S1 μ1 H1 vs ds k1 s1 r1 h1 y dx hx hd hn => ?_⟩
  exact make_sndS k1 r1 h1 (fun S3 μ3 H3 v d k3 s3 r3 h3 => post S3 μ3 H3 v d k3 (s1.trans s3) r3 h3) hx hd hn
theorem pe_makeR0 {CX : CXT} {sp : Sp} {E : XK} {f : Addr} (M : Mk X.K C f) (F : FnR X.prog X.w X.K X.mg X.base CX k f sp) (hr : Room (k + 1) X.A) (hg : Gl X x) (hm : X.mg x = some (.ref C)) (hx : Passes CX X E) (hdb : (x == ("__debug__" : Str)) = false := by decide) :
    PE X (.Call (.Name x p) [] [] pos) (fun σ H Q => ∀ x dx, H x = Option.none → H dx = Option.none → dx ≠ x → sp [V.ref x] (upd (upd H dx (.own x)) x (.ins C dx [])) (fun v H2 => v = .non ∧ Q (.ref x) H2) E) := by
  refine ⟨fun pins s σ H Q I h => ?_⟩
  refine wpAny_Call_Name_kw (ld_glob I hg hm ?_ hdb)
  exact PySem.W.callWith_K0 I.kIn M.kp (run_makeR M F hr hx I .nil h)
theorem de_makeS0 (F : MkS X.prog X.w X.K X.mg X.base k x C s) (hr : Room (k + 1) X.A) (hg : Gl X x) (hdb : (x == ("__debug__" : Str)) = false := by decide) : DE X (.Call (.Name x p) [] [] pos) (rCl (gMakeS C s) rNil) := by
  obtain ⟨f, a, b, c⟩ := F.ex
  refine pe_imp (pe_makeR0 c a hr hg b pass0 hdb) fun σ H Q ⟨S, μ, ρ, R, k, e, h, post⟩ y dx hx hd hn => ?_
  exact make_sndS k .nil h (fun S3 μ3 H3 v d k3 s3 r3 h3 => post S3 μ3 H3 v d k3 s3 r3 h3) hx hd hn
theorem pe_makeR1 {CX : CXT} {sp : Sp} {E : XK} {f : Addr} {te : TE} (M : Mk X.K C f) (F : FnR X.prog X.w X.K X.mg X.base CX k f sp) (hr : Room (k + 1) X.A) (hg : Gl X x) (hm : X.mg x = some (.ref C)) (hx : Passes CX X E) (he : PE X e te) (hdb : (x == ("__debug__" : Str)) = false := by decide)
    (hst : starEach [.Starred e sp_] X.env = [(true, eval e X.env)] := by rfl) :
    PE X (.Call (.Name x p) [.Starred e sp_] [] pos) (fun σ H Q => te σ H fun y H1 => ∃ a xs, y = V.ref a ∧ (SqT X.K H1 a xs ∨ SqL X.K H1 a xs) ∧ ∀ x dx, H1 x = Option.none → H1 dx = Option.none → dx ≠ x → sp (V.ref x :: xs) (upd (upd H1 dx (.own x)) x (.ins C dx [])) (fun v H2 => v = .non ∧ Q (.ref x) H2) E) := by
  refine ⟨fun pins s σ H Q I h => ?_⟩
  refine wpAny_Call_Name_kw (ld_glob I hg hm ?_ hdb)
  refine PySem.W.callWith_S (h₀ := X.base) I.ok.mod.kin M.kp (thn (he.run pins s σ H _ I h) fun v s1 ⟨y, H1, I1, ry, a, xs, ey, hxs, q⟩ => ?_) hst
  subst ey
  obtain rfl : v = Value.ref a := ry
  exact star_any I1 hxs fun us s2 I2 rv => ⟨I2.kIn, run_makeR M F hr hx I2 rv q⟩
theorem de_makeS1 (F : MkS X.prog X.w X.K X.mg X.base k x C s) (hr : Room (k + 1) X.A) (hg : Gl X x) (ha : DE X e fe) (hdb : (x == ("__debug__" : Str)) = false := by decide)
    (hst : starEach [.Starred e sp_] X.env = [(true, eval e X.env)] := by rfl) : DE X (.Call (.Name x p) [.Starred e sp_] [] pos) (rCl (gMakeS C s) (rStar fe rNil)) := by
  obtain ⟨f, a, b, c⟩ := F.ex
  refine pe_imp (pe_makeR1 c a hr hg b pass0 ha hdb hst) fun σ H Q ⟨S, μ, ρ, R, k, e, h, post⟩ => ?_
  refine ⟨S, μ, ρ, _, k, e, h, fun S1 μ1 H1 v d k1 s1 r1 h1 => ?_⟩
  cases e1 : seqD (res μ1 d) with
  | none => rw [e1] at h1; exact h1.elim
  | some ds =>
    rw [e1] at h1
    obtain ⟨a, xs, rfl, h2, r2⟩ := seq_rep k1 r1 e1
    have h1 : gMakeS C s (ds ++ []) μ1 R := h1
    rw [List.append_nil] at h1
    exact ⟨a, xs, rfl, h2.symm, fun y dx hx hd hn => make_sndS k1 r2 h1 (fun S3 μ3 H3 v d k3 s3 r3 h3 => post S3 μ3 H3 v d k3 (s1.trans s3) r3 h3) hx hd hn⟩
end
end L3

/-! ## L3k -/
set_option Elab.async false
set_option linter.all false
set_option maxRecDepth 100000
set_option maxHeartbeats 4000000
/-! zip of two rows, each a list or a tuple. -/
namespace L3
open PySem PySem.Spec PyProof.Rows L2
/-- a list (true) or a tuple (false) at a -/
def SqB (K : PySem.W.Frag) : Bool → Hp → Addr → List V → Prop
  | true, H, a, xs => SqL K H a xs
  | false, H, a, xs => SqT K H a xs
def ItIs (h : Heap) : Bool → Addr → Addr → Nat → Prop
  | true => h.IsListIter
  | false => h.IsTupleIter
def SqIs (h : Heap) : Bool → Addr → Array Value → Prop
  | true => h.IsList
  | false => h.IsTuple
theorem inv_sq {X : Cx} {pins : List (Addr × Obj)} {σ : L2.St} {H : Hp} {s : Shared} {a : Addr} {xs : List V} (I : Inv X pins σ H s) : ∀ (b : Bool), SqB X.K b H a xs → ∃ its : List Value, Vals xs its ∧ SqIs s.heap b a its.toArray
  | true, h => let ⟨its, rv, p, _⟩ := I.list h; ⟨its, rv, p.isList⟩
  | false, h => let ⟨its, rv, p, _⟩ := I.tuple h; ⟨its, rv, p⟩
theorem inj_sq {X : Cx} {pins : List (Addr × Obj)} {σ : L2.St} {H : Hp} {s : Shared} {a : Addr} {xs ys : List V} (I : Inv X pins σ H s) : ∀ (b : Bool), SqB X.K b H a xs → SqB X.K b H a ys → xs = ys
  | true, h, h' => I.list_inj h h'
  | false, h, h' => I.tuple_inj h h'
theorem sq_lt {h : Heap} {a : Addr} {its : Array Value} : ∀ (b : Bool), SqIs h b a its → a < h.objs.size
  | true, p => let ⟨_, e, _⟩ := p; Heap.lt_size e
  | false, p => let ⟨_, e, _⟩ := p; Heap.lt_size e
theorem it_obj {h : Heap} {i l : Addr} {k : Nat} : ∀ (b : Bool), ItIs h b i l k → ∃ o, h.get? i = some o ∧ ∀ v, o.data ≠ .cell v
  | true, ⟨o, e, _, d⟩ => ⟨o, e, fun v q => by rw [d] at q; cases q⟩
  | false, ⟨o, e, _, d⟩ => ⟨o, e, fun v q => by rw [d] at q; cases q⟩
theorem it_at {h h' : Heap} {i l : Addr} {k : Nat} : ∀ (b : Bool), ItIs h b i l k → (∀ o, h.get? i = some o → h'.get? i = some o) → ItIs h' b i l k
  | true, p, e => Heap.IsListIter.at p e
  | false, p, e => Heap.IsTupleIter.at p e
theorem draws_sq {prog : Program} {w : World} {A : Around} (hh : A.handled = none) (it l : Addr) (ne : l ≠ it) (its : Array Value) : ∀ b : Bool, Draws prog w A it [it, l] its.size (fun i v => its[i]? = some v) (fun i h => ItIs h b it l i ∧ SqIs h b l its)
  | true => Draws.list hh it l ne its
  | false => Draws.tuple hh it l ne its
theorem zip_sep {z TI TO i1 i2 a b : Addr} (D : ZipApart z TI TO i1 i2 a b) : ZipSep2 z TI TO i1 i2 [i1, a] [i2, b] := by
  refine ⟨D.TIz, D.TOz, D.TITO, D.TIi1, by simp, ?_, ?_, D.TIi2, by simp, ?_, ?_, ?_, ?_⟩ <;> simp
  · exact ⟨D.i1z.symm, D.l1z.symm⟩
  · exact ⟨D.TOi1, D.l1TO.symm⟩
  · exact ⟨D.i2z.symm, D.l2z.symm⟩
  · exact ⟨D.TOi2, D.l2TO.symm⟩
  · exact ⟨D.i12, D.l2i1.symm⟩
  · exact ⟨D.i12.symm, D.l1i2.symm⟩
/-- the rows at a and b as they stand at each turn, the items in new pairs -/
def ItzB (K : PySem.W.Frag) (ka kb : Bool) (a b : Addr) : It :=
  ⟨fun i H => ∃ (xs ys : List V) (x y : V), SqB K ka H a xs ∧ SqB K kb H b ys ∧ xs[i]? = some x ∧ ys[i]? = some y,
   fun i H v H' => ∃ T x y, v = .ref T ∧ H T = none ∧ H' = upd H T (.tup [x, y]) ∧ (∀ xs, SqB K ka H a xs → xs[i]? = some x) ∧ ∀ ys, SqB K kb H b ys → ys[i]? = some y,
   fun i H => ∃ xs ys : List V, SqB K ka H a xs ∧ SqB K kb H b ys ∧ i ≤ xs.length ∧ i ≤ ys.length ∧ (i = xs.length ∨ i = ys.length)⟩
theorem turn_zipB {P : Program} {w : World} {K : PySem.W.Frag} {elts : List Expr} {kk : Nat} {tpos : Pos} {ka kb : Bool} {a b z TI TO i1 i2 : Addr} (D : ZipApart z TI TO i1 i2 a b) :
    Turn P w K (.Tuple elts kk tpos) (ItzB K ka kb a b) [z, TI, TO, i1, i2] z (fun i h => IsZip h z TI TO .none ∧ IsPair h TI (.ref i1) (.ref i2) ∧ (∃ x y, IsPair h TO x y) ∧ ItIs h ka i1 a i ∧ ItIs h kb i2 b i) := by
  have five : ∀ {c : Addr}, c ∈ [z, TI, TO, i1, i2] → c = z ∨ c = TI ∨ c = TO ∨ c = i1 ∨ c = i2 := fun hc => by simpa using hc
  refine ⟨by simp, ?_, ?_, ?_, ?_, fun A i s Q E st h => wpAny_pyIter_zip st.1 h⟩
  · rintro i h ⟨sz, sI, ⟨x, y, sO⟩, j1, j2⟩ c hc
    rcases five hc with rfl | rfl | rfl | rfl | rfl
    · exact ⟨_, sz, fun v q => nomatch q⟩
    · exact ⟨_, sI, fun v q => nomatch q⟩
    · exact ⟨_, sO, fun v q => nomatch q⟩
    · exact it_obj ka j1
    · exact it_obj kb j2
  · rintro i h h' ⟨sz, sI, ⟨x, y, sO⟩, j1, j2⟩ kp
    exact ⟨kp z (by simp) _ sz, kp TI (by simp) _ sI, ⟨x, y, kp TO (by simp) _ sO⟩, it_at ka j1 fun o q => kp i1 (by simp) o q, it_at kb j2 fun o q => kp i2 (by simp) o q⟩
  · intro X hP hw hK hc i pins s σ H E I hf st hg
    subst hP hw hK
    obtain ⟨sz, sI, ⟨x0, y0, sO⟩, j1, j2⟩ := st
    obtain ⟨xs, ys, x, y, qa, qb, hx, hy⟩ := hg
    obtain ⟨its, rv, p⟩ := inv_sq I ka qa
    obtain ⟨jts, rw', p2⟩ := inv_sq I kb qb
    obtain ⟨u, hu, ru⟩ := rv.get hx
    obtain ⟨u2, hu2, ru2⟩ := rw'.get hy
    have hh : X.A.in1.handled = none := I.ok.hd hc
    have lz : z < s.heap.objs.size := Heap.lt_size sz
    have n1 : i < its.toArray.size := by
      have := (List.getElem?_eq_some_iff.mp hu).1
      simpa using this
    have n2 : i < jts.toArray.size := by
      have := (List.getElem?_eq_some_iff.mp hu2).1
      simpa using this
    refine wpAny_pyNext_zipD2_item (zip_sep D) (draws_sq hh i1 a D.l1i1 its.toArray ka) (draws_sq hh i2 b D.l2i2 jts.toArray kb) sz sI sO ⟨j1, p⟩ ⟨j2, p2⟩ n1 n2 fun w1 w2 h' tk b1 b2 z' o' k1 k2 hT hsz hk => ?_
    have eu : w1 = u := by
      have : its[i]? = some w1 := by simpa using b1
      exact Option.some.inj (this.symm.trans hu)
    have eu2 : w2 = u2 := by
      have : jts[i]? = some w2 := by simpa using b2
      exact Option.some.inj (this.symm.trans hu2)
    subst eu eu2
    refine ⟨_, rfl, wpAny_letOwnedTupleGo_zip (s := { s with heap := h', toks := tk }) z' fun h2 z2 sb => ?_⟩
    have hT2 : h2.get? s.heap.objs.size = some { cls := .type "tuple", data := .seq #[w1, w2] } := by rw [sb.2 _ (Nat.ne_of_gt lz)]; exact hT
    have hk2 : ∀ c o, c ≠ z → c ≠ TO → c ≠ i1 → c ≠ i2 → s.heap.get? c = some o → h2.get? c = some o := fun c o c1 c2 c3 c4 q => by rw [sb.2 _ c1]; exact hk c o c1 c2 c3 c4 q
    have fresh : ObjOk X.prog X.w (upd H s.heap.objs.size (.tup [x, y])) h2 s.heap.objs.size (.tup [x, y]) := ⟨(by decide : 2 ≤ sizeLine), [w1, w2], .cons ru (.cons ru2 .nil), ⟨_, hT2, rfl, _, rfl⟩⟩
    have J : Inv X pins σ (upd H s.heap.objs.size (.tup [x, y])) { s with heap := h2, toks := tk } :=
      I.turnedNew (t' := tk) (ch := [z, TI, TO, i1, i2]) (fun c o hb q => hk2 c o (fun e => hb (by simp [e])) (fun e => hb (by simp [e])) (fun e => hb (by simp [e])) (fun e => hb (by simp [e])) q) hf (Nat.le_refl _) fresh
    refine ⟨.ref s.heap.objs.size, _, J, rfl, ⟨_, x, y, rfl, I.hok.fresh (Nat.le_refl _), rfl, fun l hl => by rw [inj_sq I ka hl qa]; exact hx, fun l hl => by rw [inj_sq I kb hl qb]; exact hy⟩, ⟨z2, hk2 _ _ D.TIz D.TITO D.TIi1 D.TIi2 sI, ⟨w1, w2, ?_⟩, ?_, ?_⟩, fun c hcm => ?_⟩
    · show h2.get? TO = _
      rw [sb.2 _ D.TOz]
      exact o'
    · exact it_at ka k1.1 fun o q => by rw [sb.2 _ D.i1z]; exact q
    · exact it_at kb k2.1 fun o q => by rw [sb.2 _ D.i2z]; exact q
    · have lt : c < s.heap.objs.size := by
        rcases five hcm with rfl | rfl | rfl | rfl | rfl
        · exact lz
        · exact Heap.lt_size sI
        · exact Heap.lt_size sO
        · obtain ⟨_, e, _⟩ := it_obj ka j1; exact Heap.lt_size e
        · obtain ⟨_, e, _⟩ := it_obj kb j2; exact Heap.lt_size e
      rw [upd_ne (Nat.ne_of_lt lt)]
      exact (hf c hcm).1
  · intro X hP hw hK hc i pins s σ H E I hf st hg
    subst hP hw hK
    obtain ⟨sz, sI, ⟨x0, y0, sO⟩, j1, j2⟩ := st
    obtain ⟨xs, ys, qa, qb, l1, l2, hend⟩ := hg
    obtain ⟨its, rv, p⟩ := inv_sq I ka qa
    obtain ⟨jts, rw', p2⟩ := inv_sq I kb qb
    have hh : X.A.in1.handled = none := I.ok.hd hc
    have e1 := rv.length
    have e2 := rw'.length
    refine wpAny_pyNext_zipD2_end (zip_sep D) (draws_sq hh i1 a D.l1i1 its.toArray ka) (draws_sq hh i2 b D.l2i2 jts.toArray kb) sz sI sO ⟨j1, p⟩ ⟨j2, p2⟩ (by simp; omega) (by simp; omega) (by simp; omega) fun h' tk hk => ⟨rfl, ?_⟩
    exact I.turnedL (t' := tk) (ch := [z, TI, TO, i1, i2]) (fun c o hb q => hk c o (fun e => hb (by simp [e])) (fun e => hb (by simp [e])) (fun e => hb (by simp [e])) (fun e => hb (by simp [e])) q) hf
def itO : Bool → Addr → Obj
  | true, l => { cls := .type "list_iterator", data := .fields #[.ref l, .int 0 0] }
  | false, l => { cls := .type "tuple_iterator", data := .fields #[.ref l, .int 0 0] }
theorem begins_sq (l : Addr) (its : Array Value) : ∀ b : Bool, Begins (.ref l) (itO b l) fun h => SqIs h b l its
  | true => begins_list l its
  | false => begins_tuple l its
theorem it_of {h : Heap} {i l : Addr} : ∀ b : Bool, h.get? i = some (itO b l) → ItIs h b i l 0
  | true, e => ⟨_, e, rfl, rfl⟩
  | false, e => ⟨_, e, rfl, rfl⟩
def iZipB (K : PySem.W.Frag) (ta : TA) : TI := fun σ H R => ta σ H fun vs H1 => ∃ a b xs ys ka kb, vs = [.ref a, .ref b] ∧ SqB K ka H1 a xs ∧ SqB K kb H1 b ys ∧ R (ItzB K ka kb a b) H1
theorem pi_zipB {X : Cx} {e e2 : Expr} {ta : TA} {p pos tpos : Pos} {elts : List Expr} {kk : Nat} (hg : Gl X "zip") (hm : X.mg "zip" = none) (ha : PA X [e, e2] ta)
    (hs : starEach [e, e2] X.env = (false, eval e X.env) :: starEach [e2] X.env := by rfl) (hpl : (backTo pos (starEach [e2] X.env)).any (·.1) = false := by rfl) :
    PI X (.Tuple elts kk tpos) (.Call (.Name "zip" p) [e, e2] [] pos) (iZipB X.K ta) := by
  refine ⟨fun pins s σ H R I h => Call_ (ld_blt I hg hm PyProof.Rows.boot_zip (PyProof.Rows.callWith_type1 (thn (ha.run pos pins s σ H _ I h) ?_) hs hpl))⟩
  rintro us s1 ⟨vs, H1, I1, r1, a, b, xs, ys, ka, kb, rfl, qa, qb, q⟩
  cases r1 with
  | cons r rr =>
    cases rr with
    | cons r' rr =>
      cases rr
      cases r
      cases r'
      obtain ⟨its, rv, p1⟩ := inv_sq I1 ka qa
      obtain ⟨jts, rw', p2⟩ := inv_sq I1 kb qb
      refine zip_begins2 (begins_sq a its.toArray ka) (begins_sq b jts.toArray kb) p1 p2 fun h' sz sI sO j1 j2 hsz hk => wpAny_pyIter_zip sz ?_
      refine ⟨s1.heap.objs.size + 4, [s1.heap.objs.size + 4, s1.heap.objs.size + 2, s1.heap.objs.size + 3, s1.heap.objs.size, s1.heap.objs.size + 1], _, _, H1, rfl, (I1.kept (t' := s1.toks) hk), turn_zipB (PySem.W.ktu_apart s1.heap.objs.size a b (sq_lt ka p1) (sq_lt kb p2)), ⟨sz, sI, ⟨_, _, sO⟩, it_of ka j1, it_of kb j2⟩, fun c hcm => ?_, q⟩
      have ge : s1.heap.objs.size ≤ c := by
        have : c = s1.heap.objs.size + 4 ∨ c = s1.heap.objs.size + 2 ∨ c = s1.heap.objs.size + 3 ∨ c = s1.heap.objs.size ∨ c = s1.heap.objs.size + 1 := by simpa using hcm
        rcases this with rfl | rfl | rfl | rfl | rfl <;> simp
      exact I1.fpOk ge (I1.hok.fresh ge)
/-! ### as a reading -/
def rowD : D → Option (List D)
  | .lst ds => some ds
  | .tup ds => some ds
  | _ => none
def zipD : List D → List D → List D
  | x :: xs, y :: ys => .tup [x, y] :: zipD xs ys
  | _, _ => []
theorem zipD_len : ∀ (xs ys : List D), (zipD xs ys).length = min xs.length ys.length
  | [], ys => by simp [zipD]
  | x :: xs, [] => by simp [zipD]
  | x :: xs, y :: ys => by
    show (zipD xs ys).length + 1 = _
    rw [zipD_len xs ys, List.length_cons, List.length_cons]
    omega
theorem zipD_get : ∀ {xs ys : List D} {i : Nat} {d : D}, (zipD xs ys)[i]? = some d → ∃ x y, xs[i]? = some x ∧ ys[i]? = some y ∧ d = .tup [x, y]
  | [], ys, i, d, h => by simp [zipD] at h
  | x :: xs, [], i, d, h => by simp [zipD] at h
  | x :: xs, y :: ys, 0, d, h => ⟨x, y, rfl, rfl, by
    have : some (D.tup [x, y]) = some d := h
    exact (Option.some.inj this).symm⟩
  | x :: xs, y :: ys, i + 1, d, h => by
    have h : (zipD xs ys)[i]? = some d := h
    obtain ⟨u, v, h1, h2, h3⟩ := zipD_get h
    exact ⟨u, v, h1, h2, h3⟩
theorem row_rep {K : PySem.W.Frag} {S : Hp} {v : V} {d : D} {ds : List D} (r : Rep K S v d) (e : rowD d = some ds) : ∃ a vs b, v = .ref a ∧ Reps K S vs ds ∧ ∀ S1 μ1 H1, OK K S1 μ1 H1 → Same S S1 → SqB K b H1 a vs := by
  cases r with
  | lst h r =>
    cases e
    exact ⟨_, _, true, rfl, r, fun S1 μ1 H1 k1 e1 => SqL.of (k1.sub _ _ (e1 _ _ h))⟩
  | tup h r =>
    cases e
    exact ⟨_, _, false, rfl, r, fun S1 μ1 H1 k1 e1 => sqT_same k1.sub (sqT_same e1 h)⟩
  | _ => cases e
def rIZip (fa : RA) : RI := fun ρ μ R => fa ρ μ fun ds μ1 => match ds with
  | [x, y] => (match rowD x, rowD y with
    | some xs, some ys => R (zipD xs ys) tru μ1
    | _, _ => False)
  | _ => False
theorem itok_zip {K : PySem.W.Frag} {S : Hp} {a b : Addr} {ka kb : Bool} {us vs : List V} {xs ys : List D} {C : MH → Prop} (ra : Reps K S us xs) (rb : Reps K S vs ys)
    (ha : ∀ S1 μ1 H1, OK K S1 μ1 H1 → Same S S1 → SqB K ka H1 a us) (hb : ∀ S1 μ1 H1, OK K S1 μ1 H1 → Same S S1 → SqB K kb H1 b vs) : ItOk K S (ItzB K ka kb a b) (zipD xs ys) C := fun S1 μ1 H1 k1 e1 c1 i => by
  have qa := ha S1 μ1 H1 k1 e1
  have qb := hb S1 μ1 H1 k1 e1
  refine ⟨fun d hd => ?_, fun hi => ⟨us, vs, qa, qb, ?_⟩⟩
  · obtain ⟨x, y, h1, h2, rfl⟩ := zipD_get hd
    obtain ⟨u, hu, ru⟩ := ra.get h1
    obtain ⟨v, hv, rv⟩ := rb.get h2
    refine ⟨⟨us, vs, u, v, qa, qb, hu, hv⟩, fun z H' ⟨T, u', v', ez, hT, eH, f1, f2⟩ => ?_⟩
    have eu : u' = u := Option.some.inj ((f1 us qa).symm.trans hu)
    have ev : v' = v := Option.some.inj ((f2 vs qb).symm.trans hv)
    subst ez eH eu ev
    obtain ⟨k2, s2⟩ := k1.alloc (o := .tup [u', v']) hT
    exact ⟨_, k2, s2, .tup (.inl (.inl upd_same)) (.cons ((ru.mono e1).mono s2.same) (.cons ((rv.mono e1).mono s2.same) .nil))⟩
  · rw [zipD_len, ← ra.length, ← rb.length] at hi
    omega
theorem di_zip {X : Cx} {a b : Expr} {fa : RA} {p pos tpos : Pos} {elts : List Expr} {kk : Nat} (hg : Gl X "zip") (hm : X.mg "zip" = none) (ha : DA X [a, b] fa)
    (hs : starEach [a, b] X.env = (false, eval a X.env) :: starEach [b] X.env := by rfl) (hpl : (backTo pos (starEach [b] X.env)).any (·.1) = false := by rfl) : DI X (.Tuple elts kk tpos) (.Call (.Name "zip" p) [a, b] [] pos) (rIZip fa) :=
  pi_imp (pi_zipB hg hm ha hs hpl) fun σ H R ⟨S, μ, ρ, RR, k, e, h, post⟩ => by
    refine ⟨S, μ, ρ, _, k, e, h, fun S1 μ1 H1 ws ds k1 s1 r1 q1 => ?_⟩
    unfold rIZip at q1
    cases r1 with
    | nil => exact False.elim q1
    | cons rx r2 =>
      cases r2 with
      | nil => exact False.elim q1
      | cons ry r3 =>
        cases r3 with
        | cons _ _ => exact False.elim q1
        | nil =>
          rename_i x dx y dy
          dsimp only at q1
          cases e1 : rowD dx with
          | none => rw [e1] at q1; exact False.elim q1
          | some xs =>
            cases e2 : rowD dy with
            | none => rw [e1, e2] at q1; exact False.elim q1
            | some ys =>
              rw [e1, e2] at q1
              obtain ⟨a', us, ka, rfl, ra, fa'⟩ := row_rep rx e1
              obtain ⟨b', vs, kb, rfl, rb, fb'⟩ := row_rep ry e2
              exact ⟨a', b', us, vs, ka, kb, rfl, fa' _ _ _ k1 (fun _ _ h => h), fb' _ _ _ k1 (fun _ _ h => h), post S1 μ1 H1 _ _ tru k1 s1 (itok_zip ra rb fa' fb') q1⟩
end L3

/-! ## L3l -/
set_option Elab.async false
set_option linter.all false
set_option maxRecDepth 100000
set_option maxHeartbeats 4000000
/-! t[::-1], t a tuple. -/
namespace L3
open PySem PySem.Spec PyProof.Rows L2
section
variable {prog : Program} {w : World} {A : Around} {E : Value → Shared → Prop} {s : Shared}
end
theorem Reps.reverse {K : PySem.W.Frag} {S : Hp} : ∀ {vs : List V} {ds : List D}, Reps K S vs ds → Reps K S vs.reverse ds.reverse
  | _, _, .nil => .nil
  | _, _, .cons h r => by
    rw [List.reverse_cons, List.reverse_cons]
    exact Reps.append (Reps.reverse r) (.cons h .nil)
/-! ### f(e, .., k = v, ..), f a def of the module -/
structure FnK (P : Program) (w : World) (K : PySem.W.Frag) (mg : Str → Option Value) (base : Heap) (k : Nat) (x : Str) (s : GN) (n : Nat) (ks : List Str) (gD : List D → List D → List D) : Prop where
  ex : ∃ f fd ps g gV, FnOk P w K mg base CX0 k f fd ps (spD K s) ∧ mg x = some (.ref f) ∧ PySem.W.keepIn K (.ref f) = true ∧ KBn K fd ps n ks g gV ∧
    ∀ (vs zs : List V) (ds es : List D) (S : Hp), Reps K S vs ds → Reps K S zs es → Reps K S (gV vs zs) (gD ds es)
end L3

/-! ## L3m -/
set_option Elab.async false
set_option linter.all false
set_option maxRecDepth 100000
set_option maxHeartbeats 4000000
/-! enumerate of a row, a list or a tuple. -/
namespace L3
open PySem PySem.Spec PyProof.Rows L2
theorem meets_enum1 {v : Value} {o : Obj} {G : Heap → Prop} (B : Begins v o G) :
    Meets (Builtin.«enumerate.__new__» ⟨[.type "enumerate", v], []⟩) (fun _ R s => G s.heap ∧ R (.ok (.ret (.ref (s.heap.push o).objs.size))) { s with heap := (s.heap.push o).push { cls := .type "enumerate", data := .fields #[.none, .bool false, .ref s.heap.objs.size, rawInt 0, .none, .none] } }) :=
  .of_wp fun prog w A R s h => by
    obtain ⟨hp, gn, dr, tk, os⟩ := s
    obtain ⟨g1, g2⟩ := h
    have sub1 := sub_enumerate
    have q1 : ∀ {A' : Around} {E : Value → Shared → Prop} {Q : Value → Shared → Prop}, Q (.ref hp.objs.size) ⟨hp.push o, gn, dr, tk, os⟩ → wpAny (model prog w) A' (pyIter v) Q E ⟨hp, gn, dr, tk, os⟩ := fun q => B.iter prog w _ _ ⟨hp, gn, dr, tk, os⟩ _ g1 q
    wp_walk using q1
    refine wpAny_stack_any fun st => wpAny_pure ?_
    split
    · rename_i c _ _ _ _ _
      cases (c == Value.type "enumerate") <;> (wp_walk using q1; exact ⟨_, rfl, g2⟩)
    · wp_walk using q1
      exact ⟨_, rfl, g2⟩
theorem call_enum1 {prog : Program} {w : World} {A : Around} {E : Value → Shared → Prop} {s : Shared} {v : Value} {o : Obj} {G : Heap → Prop} {Q : Value → Shared → Prop} (B : Begins v o G) (g1 : G s.heap)
    (h : ∀ h', IsEnum h' (s.heap.objs.size + 1) s.heap.objs.size 0 .none → h'.get? s.heap.objs.size = some o → (∀ b o, s.heap.get? b = some o → h'.get? b = some o) → Q (.ref (s.heap.objs.size + 1)) { s with heap := h' }) :
    wpAny (model prog w) A (call (.type "enumerate") [v]) Q E s := by
  refine callType_new F.called_enumerate (by decide) (F.typeCall_enumerate_1 _) (F.newCall_enumerate_1 _) (fun obj => F.args_object_init_2 obj _) F.entry_enumerate_new (meets_enum1 B) ⟨g1, ?_⟩
  have sz : (s.heap.push o).objs.size = s.heap.objs.size + 1 := Heap.size_push ..
  show _ ∧ _
  rw [sz]
  have he := Heap.get?_push_size (s.heap.push o) (o := { cls := .type "enumerate", data := .fields #[.none, .bool false, .ref s.heap.objs.size, rawInt 0, .none, .none] }) rfl
  rw [sz] at he
  exact ⟨⟨_, he, rfl⟩, h _ he (Heap.get?_push_of_some _ (Heap.get?_push_size _ B.free)) fun b o x => Heap.get?_push_of_some _ (Heap.get?_push_of_some _ x)⟩
/-- the row at a as it stands at each turn, each item behind its number -/
def IteB (K : PySem.W.Frag) (b : Bool) (a : Addr) : It :=
  ⟨fun i H => ∃ (xs : List V) (x : V), SqB K b H a xs ∧ xs[i]? = some x,
   fun i H v H' => ∃ T x, v = .ref T ∧ H T = none ∧ H' = upd H T (.tup [.int (i : Nat), x]) ∧ ∀ xs, SqB K b H a xs → xs[i]? = some x,
   fun i H => ∃ xs : List V, SqB K b H a xs ∧ i = xs.length⟩
theorem turn_enumB {P : Program} {w : World} {K : PySem.W.Frag} {elts : List Expr} {kk : Nat} {tpos : Pos} {b : Bool} {a e it : Addr} (n1 : e ≠ it) (n2 : a ≠ it) (n3 : e ≠ a) :
    Turn P w K (.Tuple elts kk tpos) (IteB K b a) [e, it] e (fun i h => (∃ old, IsEnum h e it ((i : Nat) : Int) old) ∧ ItIs h b it a i) := by
  have two : ∀ {c : Addr}, c ∈ [e, it] → c = e ∨ c = it := fun hc => by simpa using hc
  have hef : e ∉ [it, a] := by simp [n1, n3]
  refine ⟨by simp, ?_, ?_, ?_, ?_, fun A i s Q E st h => let ⟨⟨_, he⟩, _⟩ := st; wpAny_pyIter_enum he h⟩
  · rintro i h ⟨⟨old, he⟩, j1⟩ c hc
    rcases two hc with rfl | rfl
    · exact ⟨_, he, fun v q => nomatch q⟩
    · exact it_obj b j1
  · rintro i h h' ⟨⟨old, he⟩, j1⟩ kp
    exact ⟨⟨old, kp e (by simp) _ he⟩, it_at b j1 fun o q => kp it (by simp) o q⟩
  · intro X hP hw hK hc i pins s σ H E I hf st hg
    subst hP hw hK
    obtain ⟨⟨old, he⟩, j1⟩ := st
    obtain ⟨xs, x, qa, hx⟩ := hg
    obtain ⟨its, rv, p⟩ := inv_sq I b qa
    obtain ⟨u, hu, ru⟩ := rv.get hx
    have hh : X.A.in1.handled = none := I.ok.hd hc
    have le : e < s.heap.objs.size := Heap.lt_size he
    have n : i < its.toArray.size := by
      have := (List.getElem?_eq_some_iff.mp hu).1
      simpa using this
    refine wpAny_pyNext_enum_itemC (draws_sq hh it a n2 its.toArray b) he ⟨j1, p⟩ n n1 hef fun w1 h' tk b1 ho k1 hT hsz hk => ?_
    have eu : w1 = u := by
      have : its[i]? = some w1 := by simpa using b1
      exact Option.some.inj (this.symm.trans hu)
    subst eu
    refine ⟨_, rfl, wpAny_letOwnedTupleGo_enum (s := { s with heap := h', toks := tk + 1 }) ho fun h2 he2 sb => ?_⟩
    have hT2 : h2.get? s.heap.objs.size = some { cls := .type "tuple", data := .seq #[.int i tk, w1] } := by rw [sb.2 _ (Nat.ne_of_gt le)]; exact hT
    have hk2 : ∀ c o, c ≠ e → c ≠ it → s.heap.get? c = some o → h2.get? c = some o := fun c o c1 c2 q => by rw [sb.2 _ c1]; exact hk c o c1 c2 q
    have fresh : ObjOk X.prog X.w (upd H s.heap.objs.size (.tup [.int (i : Nat), x])) h2 s.heap.objs.size (.tup [.int (i : Nat), x]) := ⟨(by decide : 2 ≤ sizeLine), [.int i tk, w1], .cons ⟨_, rfl⟩ (.cons ru .nil), ⟨_, hT2, rfl, _, rfl⟩⟩
    have J : Inv X pins σ (upd H s.heap.objs.size (.tup [.int (i : Nat), x])) { s with heap := h2, toks := tk + 1 } :=
      I.turnedNew (t' := tk + 1) (ch := [e, it]) (fun c o hb q => hk2 c o (fun z => hb (by simp [z])) (fun z => hb (by simp [z])) q) hf (Nat.le_refl _) fresh
    refine ⟨.ref s.heap.objs.size, _, J, rfl, ⟨_, x, rfl, I.hok.fresh (Nat.le_refl _), rfl, fun l hl => by rw [inj_sq I b hl qa]; exact hx⟩, ⟨⟨w1, ?_⟩, ?_⟩, fun c hcm => ?_⟩
    · rw [show ((i + 1 : Nat) : Int) = (i : Int) + 1 by omega]
      exact he2
    · exact it_at b k1.1 fun o q => by rw [sb.2 _ (Ne.symm n1)]; exact q
    · have lt : c < s.heap.objs.size := by
        rcases two hcm with rfl | rfl
        · exact le
        · obtain ⟨_, q, _⟩ := it_obj b j1; exact Heap.lt_size q
      rw [upd_ne (Nat.ne_of_lt lt)]
      exact (hf c hcm).1
  · intro X hP hw hK hc i pins s σ H E I hf st hg
    subst hP hw hK
    obtain ⟨⟨old, he⟩, j1⟩ := st
    obtain ⟨xs, qa, hend⟩ := hg
    obtain ⟨its, rv, p⟩ := inv_sq I b qa
    have hh : X.A.in1.handled = none := I.ok.hd hc
    have e1 := rv.length
    have en : its.toArray.size = i := by simp; omega
    refine wpAny_pyNext_enum_endD (draws_sq hh it a n2 its.toArray b) he (by rw [en]; exact ⟨j1, p⟩) fun h' hk => ⟨rfl, ?_⟩
    exact I.turnedL (t' := s.toks) (ch := [e, it]) (fun c o hb q => hk c o (fun z => hb (by simp [z])) q) hf
def iEnumB (K : PySem.W.Frag) (ta : TA) : TI := fun σ H R => ta σ H fun vs H1 => ∃ a xs b, vs = [.ref a] ∧ SqB K b H1 a xs ∧ R (IteB K b a) H1
theorem pi_enumB {X : Cx} {e : Expr} {ta : TA} {p pos tpos : Pos} {elts : List Expr} {kk : Nat} (hg : Gl X "enumerate") (hm : X.mg "enumerate" = none) (ha : PA X [e] ta) (hs : starEach [e] X.env = [(false, eval e X.env)] := by rfl) :
    PI X (.Tuple elts kk tpos) (.Call (.Name "enumerate" p) [e] [] pos) (iEnumB X.K ta) := by
  refine ⟨fun pins s σ H R I h => Call_ (ld_blt I hg hm boot_enumerate (PyProof.Rows.callWith_type1 (thn (ha.run pos pins s σ H _ I h) ?_) hs rfl))⟩
  rintro us s1 ⟨vs, H1, I1, r1, a, xs, b, rfl, qa, q⟩
  cases r1 with
  | cons r rr =>
    cases rr
    cases r
    obtain ⟨its, rv, p1⟩ := inv_sq I1 b qa
    have la := sq_lt b p1
    refine call_enum1 (begins_sq a its.toArray b) p1 fun h' he j1 hk => wpAny_pyIter_enum he ?_
    refine ⟨s1.heap.objs.size + 1, [s1.heap.objs.size + 1, s1.heap.objs.size], _, _, H1, rfl, (I1.kept (t' := s1.toks) hk), turn_enumB (b := b) (a := a) (it := s1.heap.objs.size) (Nat.succ_ne_self _) (Nat.ne_of_lt la) (Nat.ne_of_gt (Nat.lt_succ_of_lt la)), ⟨⟨.none, he⟩, it_of b j1⟩, fun c hcm => ?_, q⟩
    have ge : s1.heap.objs.size ≤ c := by
      have : c = s1.heap.objs.size + 1 ∨ c = s1.heap.objs.size := by simpa using hcm
      rcases this with rfl | rfl <;> simp
    exact I1.fpOk ge (I1.hok.fresh ge)
/-! ### as a reading -/
def numbered : Nat → List D → List D
  | _, [] => []
  | n, d :: r => .tup [.int (n : Int), d] :: numbered (n + 1) r
theorem numbered_len : ∀ (n : Nat) (ds : List D), (numbered n ds).length = ds.length
  | _, [] => rfl
  | n, d :: r => congrArg Nat.succ (numbered_len (n + 1) r)
theorem numbered_get : ∀ {ds : List D} {n i : Nat} {d : D}, (numbered n ds)[i]? = some d → ∃ x, ds[i]? = some x ∧ d = .tup [.int ((n + i : Nat) : Int), x]
  | [], n, i, d, h => by simp [numbered] at h
  | x :: r, n, 0, d, h => ⟨x, rfl, by
    have : some (D.tup [.int (n : Int), x]) = some d := h
    exact (Option.some.inj this).symm⟩
  | x :: r, n, i + 1, d, h => by
    have h : (numbered (n + 1) r)[i]? = some d := h
    obtain ⟨u, h1, h2⟩ := numbered_get h
    exact ⟨u, h1, by rw [h2, show n + 1 + i = n + (i + 1) by omega]⟩
def rIEnum (fa : RA) : RI := fun ρ μ R => fa ρ μ fun ds μ1 => match ds with
  | [x] => (match rowD x with
    | some xs => R (numbered 0 xs) tru μ1
    | none => False)
  | _ => False
theorem itok_enum {K : PySem.W.Frag} {S : Hp} {a : Addr} {b : Bool} {us : List V} {xs : List D} {C : MH → Prop} (ra : Reps K S us xs) (ha : ∀ S1 μ1 H1, OK K S1 μ1 H1 → Same S S1 → SqB K b H1 a us) : ItOk K S (IteB K b a) (numbered 0 xs) C := fun S1 μ1 H1 k1 e1 c1 i => by
  have qa := ha S1 μ1 H1 k1 e1
  refine ⟨fun d hd => ?_, fun hi => ⟨us, qa, ?_⟩⟩
  · obtain ⟨x, h1, rfl⟩ := numbered_get hd
    obtain ⟨u, hu, ru⟩ := ra.get h1
    refine ⟨⟨us, u, qa, hu⟩, fun z H' ⟨T, u', ez, hT, eH, f1⟩ => ?_⟩
    have eu : u' = u := Option.some.inj ((f1 us qa).symm.trans hu)
    subst ez eH eu
    obtain ⟨k2, s2⟩ := k1.alloc (o := .tup [.int (i : Nat), u']) hT
    refine ⟨_, k2, s2, ?_⟩
    rw [Nat.zero_add]
    exact .tup (.inl (.inl upd_same)) (.cons (.int _) (.cons ((ru.mono e1).mono s2.same) .nil))
  · rw [numbered_len, ← ra.length] at hi
    exact hi
theorem di_enum {X : Cx} {a : Expr} {fa : RA} {p pos tpos : Pos} {elts : List Expr} {kk : Nat} (hg : Gl X "enumerate") (hm : X.mg "enumerate" = none) (ha : DA X [a] fa) (hs : starEach [a] X.env = [(false, eval a X.env)] := by rfl) : DI X (.Tuple elts kk tpos) (.Call (.Name "enumerate" p) [a] [] pos) (rIEnum fa) :=
  pi_imp (pi_enumB hg hm ha hs) fun σ H R ⟨S, μ, ρ, RR, k, e, h, post⟩ => by
    refine ⟨S, μ, ρ, _, k, e, h, fun S1 μ1 H1 ws ds k1 s1 r1 q1 => ?_⟩
    unfold rIEnum at q1
    cases r1 with
    | nil => exact False.elim q1
    | cons rx r2 =>
      cases r2 with
      | cons _ _ => exact False.elim q1
      | nil =>
        rename_i x dx
        dsimp only at q1
        cases e1 : rowD dx with
        | none => rw [e1] at q1; exact False.elim q1
        | some xs =>
          rw [e1] at q1
          obtain ⟨a', us, b, rfl, ra, fa'⟩ := row_rep rx e1
          exact ⟨a', us, b, rfl, fa' _ _ _ k1 (fun _ _ h => h), post S1 μ1 H1 _ _ tru k1 s1 (itok_enum ra fa') q1⟩
/-! ### try: a body that raises nothing -/
theorem ds_thru {X : Cx} {body : List Stmt} {h : ExceptHandler} {hs : List ExceptHandler} {f : RS} {pos : Pos} (hb : DSs X.nox body f) : DS X (.Try body (h :: hs) [] [] pos) f := ps_try_thru0 hb
end L3

/-! ## L3n -/
set_option Elab.async false
set_option linter.all false
set_option maxRecDepth 100000
set_option maxHeartbeats 4000000
/-! len of an instance with its own __len__; more methods of lists; o.f += e; int(x). -/
namespace L3
open PySem PySem.Spec PyProof.Rows L2
section
variable {K : PySem.W.Frag} {X : Cx} {k : Nat} {C g : Addr} {s : GN} {a o value : Expr} {fa fv : RX} {p pos tpos : Pos} {f : Str}
/-- int(x) -/
def gInt : GN := fun ds μ R => match ds with
  | [.int i] => R (.int i) μ
  | [.bl b] => R (.int (if b then 1 else 0)) μ
  | _ => False
theorem snd_int1 : SndN K (fun xs H Q => (∃ i, xs = [.int i] ∧ Q (.int i) H) ∨ ∃ b, xs = [.bl b] ∧ Q (.int (if b then 1 else 0)) H) gInt := by
  intro S μ H xs dxs R Q k r q post
  unfold gInt at q
  split at q
  · obtain ⟨v, rfl, r1⟩ := reps1 r
    cases r1.toInt
    exact .inl ⟨_, rfl, post S μ H _ _ k .refl (.int _) q⟩
  · obtain ⟨v, rfl, r1⟩ := reps1 r
    cases r1.toBl
    exact .inr ⟨_, rfl, post S μ H _ _ k .refl (.int _) q⟩
  · exact q.elim
theorem de_int1 {e : Expr} {fa : RA} (hg : Gl X "int") (hm : X.mg "int" = none) (ha : DA X [e] fa) (he : starEach [e] X.env = (false, eval e X.env) :: starEach [] X.env := by rfl) : DE X (.Call (.Name "int" p) [e] [] pos) (rCl gInt fa) := de_callTy call_int1 snd_int1 hg hm (by decide +kernel) ha (he := he)
/-- xs.extend(ys), ys data -/
def gExtend : List L3.D → List L3.D → (L3.D → List L3.D → Prop) → Prop := fun xs ds R => match ds with
  | [.lst zs] => xs.length + zs.length ≤ sizeLine ∧ R .non (xs ++ zs)
  | _ => False
end
end L3

/-! ## L3p -/
set_option Elab.async false
set_option linter.all false
set_option maxRecDepth 100000
set_option maxHeartbeats 4000000
/-! Errors that leave a def: promises with a second end. -/
namespace L3
open PySem PySem.Spec PyProof.Rows L2
abbrev RE := Addr → List (Str × D) → MH → Prop
/-- an error of the class at C with the attributes fs -/
def XRep (K : PySem.W.Frag) (S : Hp) (cls : Value) (d : Option Addr) (C : Addr) (fs : List (Str × D)) : Prop :=
  cls = .ref C ∧ ((d = none ∧ fs = []) ∨ ∃ dd vfs, d = some dd ∧ S dd = some (.xd vfs) ∧ RepF K S vfs fs ∧ fs ≠ [])
theorem XRep.mono {K : PySem.W.Frag} {S S' : Hp} {cls : Value} {d : Option Addr} {C : Addr} {fs : List (Str × D)} (e : Same S S') (x : XRep K S cls d C fs) : XRep K S' cls d C fs :=
  ⟨x.1, x.2.imp (fun z => z) fun ⟨dd, vfs, a, b, c, n⟩ => ⟨dd, vfs, a, e _ _ b, c.mono e, n⟩⟩
abbrev PstX (K : PySem.W.Frag) (S : Hp) (μ : MH) (H : Hp) (re : RE) (E : XK) : Prop := ∀ S' μ' H' cls d C fs, OK K S' μ' H' → Stp S μ H S' μ' H' → XRep K S' cls d C fs → re C fs μ' → E cls d H'
theorem PstX.stp {K : PySem.W.Frag} {S S' H H' : Hp} {μ μ' : MH} {re : RE} {E : XK} (p : PstX K S μ H re E) (s : Stp S μ H S' μ' H') : PstX K S' μ' H' re E := fun _ _ _ _ _ _ _ k s2 x q => p _ _ _ _ _ _ _ k (s.trans s2) x q
abbrev GX := List D → MH → (D → MH → Prop) → RE → Prop
def spX (K : PySem.W.Frag) (s : GX) : Sp := fun vs H Q E => ∃ S μ ds R re, OK K S μ H ∧ Reps K S vs ds ∧ s ds μ R re ∧ Pst K S μ H R Q ∧ PstX K S μ H re E
abbrev RXX := EV → MH → (D → MH → Prop) → RE → Prop
/-- what a context takes, whatever the slots hold -/
def anyS (W : WX) : XK := fun cls d H' => ∀ σ', W cls d σ' H'
def upX (K : PySem.W.Frag) (W : WX) (f : RXX) : TE := fun σ H Q => ∃ S μ ρ R re, OK K S μ H ∧ RepE K S σ ρ ∧ f ρ μ R re ∧ Pst K S μ H R Q ∧ PstX K S μ H re (anyS W)
abbrev DEX (X : Cx) (W : WX) (e : Expr) (f : RXX) : Prop := PE X e (upX X.K W f)
structure LkX (K : PySem.W.Frag) (W : WX) (S : Hp) (μ : MH) (H : Hp) (D : Ends) (DD : Ed) : Prop where
  l : Lk K S μ H D DD
  ex : PstX K S μ H DD.ex (anyS W)
theorem LkX.stp {K : PySem.W.Frag} {W : WX} {S S' H H' : Hp} {μ μ' : MH} {D : Ends} {DD : Ed} (l : LkX K W S μ H D DD) (s : Stp S μ H S' μ' H') : LkX K W S' μ' H' D DD := ⟨l.l.stp s, l.ex.stp s⟩
def upSX (K : PySem.W.Frag) (W : WX) (f : RS) : TS := fun D σ H => ∃ S μ ρ DD, OK K S μ H ∧ RepE K S σ ρ ∧ f DD ρ μ ∧ LkX K W S μ H D DD
abbrev DSX (X : Cx) (W : WX) (s : Stmt) (f : RS) : Prop := PS X s (upSX X.K W f)
abbrev DSsX (X : Cx) (W : WX) (s : List Stmt) (f : RS) : Prop := PSs X s (upSX X.K W f)
section
variable {X : Cx} {W : WX} {a : Stmt} {as bs rest : List Stmt} {f g : RS} {c e : Expr} {ft : RT} {fx : RXX} {fe : RX} {fa : RA} {pos : Pos}
theorem PS.nox {st : Stmt} {t : TS} (h : PS X.nox st t) : PS X st t := ⟨fun pins s σ H D I hw =>
  wpAny_mono (h.run pins s σ H D (I.wish _) hw) (fun _ _ q => q.unwish) fun _ _ z => z.elim⟩
/-- a statement that raises nothing -/
theorem dsx_nox (h : DS X.nox a f) : DSX X W a f := ps_imp (PS.nox h) fun D σ H ⟨S, μ, ρ, DD, k, e, h, l⟩ => ⟨S, μ, ρ, DD, k, e, h, l.l⟩
theorem dssx_nil : DSsX X W [] rNext := pss_imp pss_nil fun D σ H ⟨S, μ, ρ, DD, k, e, h, l⟩ => l.l.nx S μ H σ ρ k .refl e h
theorem dssx_cons (h1 : DSX X W a f) (h2 : DSsX X W rest g) : DSsX X W (a :: rest) (rSeq f g) := pss_imp (pss_cons h1 h2) fun D σ H ⟨S, μ, ρ, DD, k, e, h, l⟩ =>
  ⟨S, μ, ρ, _, k, e, h, ⟨fun S1 μ1 H1 σ1 ρ1 k1 s1 e1 q1 => ⟨S1, μ1, ρ1, DD, k1, e1, q1, l.stp s1⟩, l.l.rt, l.l.bk, l.l.ct⟩, l.ex⟩
theorem dssx_one (h1 : DSX X W a f) : DSsX X W [a] f := pss_one h1
theorem dsx_if (hc : DT X c ft) (ha : DSsX X W as f) (hb : DSsX X W bs g) : DSX X W (.If c as bs pos) (rIf ft f g) := ps_imp (ps_if hc ha hb) fun D σ H ⟨S, μ, ρ, DD, k, e, h, l⟩ => by
  refine ⟨S, μ, ρ, _, k, e, h, fun S1 μ1 H1 b1 k1 s1 h1 => ?_⟩
  cases b1 with
  | true => rw [if_pos rfl] at h1 ⊢; exact ⟨S1, μ1, ρ, DD, k1, e.mono s1.same, h1, l.stp s1⟩
  | false => rw [if_neg Bool.false_ne_true] at h1 ⊢; exact ⟨S1, μ1, ρ, DD, k1, e.mono s1.same, h1, l.stp s1⟩
/-! statements that are one call -/
/-! ### raise C('..') -/
/-- the class at C, of a base class whose __new__ and __init__ take one text -/
structure ExcG (K : PySem.W.Frag) (mg : Str → Option Value) (x : Str) (C : Addr) : Prop where
  ex : ∃ bmB B newId initId, ExcBaseFacts B newId initId bmB ∧ PySem.W.excIn K C bmB newId = true
  gC : mg x = some (.ref C)
  kC : PySem.W.keepIn K (.ref C) = true
  r1 : PySem.W.subIn K (.ref C) (.type "BaseException") = some true
  r2 : PySem.W.typeIn K (.ref C) = some (.type "type")
def rRaise (C : Addr) : RS := fun D _ μ => D.ex C [] μ
theorem dsx_raise {x m : Str} {C : Addr} {j : Nat} {p p2 cpos : Pos} (G : ExcG X.K X.mg x C) (tk : Takes X W) (hg : Gl X x) (hdb : (x == ("__debug__" : Str)) = false := by decide) (hc : X.calm = true := by rfl) : DSX X W (.Raise (some (.Call (.Name x p) [.Constant (.str m) j p2] [] cpos)) none pos) (rRaise C) := by
  obtain ⟨bmB, B, newId, initId, F, q⟩ := G.ex
  exact ps_imp (ps_raise hc tk (pmk_own F q G.gC G.kC (raises_own G.r1 G.r2) hg hdb)) fun D σ H ⟨S, μ, ρ, DD, k, e, h, l⟩ => l.ex S μ H _ _ C [] k .refl ⟨rfl, .inl ⟨rfl, rfl⟩⟩ h σ
end
/-! ### calls -/
structure FnGX (P : Program) (w : World) (K : PySem.W.Frag) (mg : Str → Option Value) (base : Heap) (k : Nat) (x : Str) (s : GX) : Prop where
  ex : ∃ f fd ps, FnOk P w K mg base (L2.CX P w) k f fd ps (spX K s) ∧ mg x = some (.ref f) ∧ PySem.W.keepIn K (.ref f) = true ∧ Binds K fd ps []
structure MtGX (P : Program) (w : World) (K : PySem.W.Frag) (mg : Str → Option Value) (base : Heap) (k : Nat) (C f : Addr) (s : GX) : Prop where
  ex : ∃ fd ps, FnOk P w K mg base (L2.CX P w) k f fd ps (spX K s) ∧ Binds K fd ps []
def rClX (s : GX) (fa : RA) : RXX := fun ρ μ R re => fa ρ μ fun ds μ1 => s ds μ1 R re
section
variable {X : Cx} {W : WX} {k : Nat} {C g : Addr} {x m : Str} {s : GX} {o e : Expr} {es : List Expr} {fo : RX} {fa : RA} {p pos apos : Pos}
theorem passX (tk : Takes X W) : Passes (L2.CX X.prog X.w) X (anyS W) := passes_call tk fun _ _ σ _ h => h σ
theorem dex_call (F : FnGX X.prog X.w X.K X.mg X.base k x s) (tk : Takes X W) (hr : Room k X.A) (hg : Gl X x) (ha : DA X (e :: es) fa) (hdb : (x == ("__debug__" : Str)) = false := by decide)
    (he : starEach (e :: es) X.env = (false, eval e X.env) :: starEach es X.env := by rfl) (hpl : (backTo pos (starEach es X.env)).any (·.1) = false := by rfl) : DEX X W (.Call (.Name x p) (e :: es) [] pos) (rClX s fa) := by
  obtain ⟨f, fd, ps, a, b, c, d⟩ := F.ex
  refine pe_imp (pe_call a hr hg b c d .nil (passX tk) ha hdb he hpl) fun σ H Q ⟨S, μ, ρ, R, re, k, e, h, post, pex⟩ => ?_
  refine ⟨S, μ, ρ, _, k, e, h, fun S1 μ1 H1 vs ds k1 s1 r1 h1 => ?_⟩
  show spX X.K s (vs ++ []) H1 Q (anyS W)
  rw [List.append_nil]
  exact ⟨S1, μ1, ds, R, re, k1, r1, h1, fun S3 μ3 H3 v d k3 s3 r3 h3 => post S3 μ3 H3 v d k3 (s1.trans s3) r3 h3, pex.stp s1⟩
end
/-! ### a def keeps its promise -/
def finX (R : D → MH → Prop) (re : RE) : Ed := { nx := fun _ μ' => R .non μ', rt := R, ex := re }
section
variable {P : Program} {w : World} {K : PySem.W.Frag} {mg : Str → Option Value} {base : Heap}
theorem fnDX {x qual : Str} {params : Arguments} {bd : List Stmt} {scope : Scope} {dvs : List V} {kws : List (Str × V)} {f : Addr} {fd : FuncData} {N ps : List Str} {k : Nat} {s : GX} {body : RS} (F : FunD K x qual params bd scope dvs kws f fd) (Sc : FnScope N ps scope)
    (len : ∀ ds μ R re, s ds μ R re → ds.length = ps.length)
    (hb : ∀ (cdv : Value) (A : Around) (outer : List Env) (s0 : Shared) (H : Hp) (E : XK), Room k (A.deeper (envOfC qual scope s0.heap.objs.size f cdv)) → Takes (cxOf (L2.CX P w) P w K mg base N qual scope f cdv A outer s0 H E) (fun cls d _ H' => E cls d H') →
      DSsX (cxOf (L2.CX P w) P w K mg base N qual scope f cdv A outer s0 H E) (fun cls d _ H' => E cls d H') bd body)
    (hv : ∀ ds μ R re, s ds μ R re → body (finX R re) (startD N.length ds) μ) : FnOk P w K mg base (L2.CX P w) (k + 1) f fd ps (spX K s) := by
  refine F.ok Sc (fun vs H Q E h => ?_) fun cdv A outer s0 H vs Q E hr h => ⟨upSX K (fun cls d _ H' => E cls d H') body, hb cdv A outer s0 H E hr (takes_of rfl rfl rfl rfl), ?_⟩
  · obtain ⟨S, μ, ds, R, re, a, b, c, _⟩ := h
    rw [b.length]
    exact len ds μ R re c
  · obtain ⟨S, μ, ds, R, re, a, b, c, d, dx⟩ := h
    exact ⟨S, μ, _, _, a, repE_start b, hv ds μ R re c, ⟨fun S' μ' H' σ' ρ' k' s' e' q' => d S' μ' H' _ _ k' s' .non q', fun S' μ' H' v z k' s' r' q' => d S' μ' H' v z k' s' r' q', fun _ _ _ _ _ _ _ _ q' => False.elim q', fun _ _ _ _ _ _ _ _ q' => False.elim q'⟩,
      fun S' μ' H' cls dd C fs k' s' x' q' _ => dx S' μ' H' cls dd C fs k' s' x' q'⟩
end
end L3

/-! ## L3q -/
set_option Elab.async false
set_option linter.all false
set_option maxRecDepth 100000
set_option maxHeartbeats 4000000
/-! What an except suite asks: isinstance of the error, count and index of a list, in; a call with a lambda. -/
namespace L3
open PySem PySem.Spec PyProof.Rows L2
section
variable {X : Cx}
def rCountD (K : PySem.W.Frag) : V → List V → Hp → VK → Prop := fun x xs H Q => ∃ (a : Addr) (y : V) (d : PyData) (ds : List PyData), x = V.ref a ∧ xs = [y] ∧ Dp K H (V.ref a) (.list ds) ∧ Dp K H y d ∧ SeqAt.shaped (.list ds) = true ∧ SeqAt.shaped d = true ∧
  Q (.int ((ds.countP fun z => PyData.eqv z d : Nat) : Int)) H
theorem mt_countD (hu : X.A.units + 65 < cLine) : MtR X "list.count" (rCountD X.K) := by
  rintro pins s σ H x xs v us Q I rx rxs ⟨a, y, d, ds, rfl, rfl, hl, hy, sl, sd, q⟩
  cases rx
  cases rxs with
  | cons ry rt =>
    cases rt
    obtain ⟨bs, rd⟩ := Dp.reads I d y _ hy ry
    have lay : PyData.canLayAll0 ds = true := SeqAt.canLay_of_shaped sl
    have room : X.A.units + 1 + min (PyData.depthAll ds) d.depth < cLine := room_in_shaped sd hu
    cases hl with
    | lst hs ha =>
      obtain ⟨its, rv, ⟨⟨c, dd, dt, sls⟩, n, ho, e1, _, e2⟩, _⟩ := I.list hs
      simp only at e1 e2
      subst e1 e2
      obtain ⟨as, rs⟩ := Dp.readsAll I ds _ its ha rv
      have hm := SeqAt.readsAll_map ds its as lay rs
      refine call_meets PySem.F.slot_list_count ⟨_, ho, rfl⟩ PySem.F.entry_list_count (PySem.F.args_list_count_2 _ _) (SeqAt.list_countAt a its.toArray n dd sls _ (fun u => PyData.eqv (SeqAt.readOf s.heap u) d))
        ⟨ho, SeqAt.items_eqAt (vs := its.toArray) (show ReadsAll s.heap its.toArray.toList ds as from rs) rd lay (SeqAt.canLay_of_shaped sd) room, ?_⟩
      have ec : its.toArray.toList.countP (fun u => PyData.eqv (SeqAt.readOf s.heap u) d) = ds.countP fun z => PyData.eqv z d := by
        rw [← hm, List.countP_map]
        rfl
      exact ⟨.int _, H, I.tok _, ⟨s.toks, by rw [ec]⟩, q⟩
end
/-! ### readings -/
/-- xs.m(e), xs a list of data -/
def rBM (g : List L3.D → List L3.D → MH → (L3.D → MH → Prop) → Prop) (fo : RX) (fa : RA) : RX := fun ρ μ R => fo ρ μ fun d μ1 => match d with
  | .lst xs => fa ρ μ1 fun ds μ2 => g xs ds μ2 R
  | _ => False
def gCount : List L3.D → List L3.D → MH → (L3.D → MH → Prop) → Prop := fun xs ds μ R => match ds with
  | [x] => pureN 20 (.lst xs) = true ∧ pureN 20 x = true ∧ R (.int ((xs.countP fun y => deq y x : Nat) : Int)) μ
  | _ => False
def gIndex : List L3.D → List L3.D → MH → (L3.D → MH → Prop) → Prop := fun xs ds μ R => match ds with
  | [x] => pureN 20 (.lst xs) = true ∧ pureN 20 x = true ∧ ∃ j z, xs[j]? = some z ∧ deq z x = true ∧ (∀ m z', m < j → xs[m]? = some z' → deq z' x = false) ∧ R (.int (j : Nat)) μ
  | _ => False
theorem toPys_map : ∀ xs : List D, toPys xs = xs.map toPy
  | [] => rfl
  | x :: r => congrArg (toPy x :: ·) (toPys_map r)
section
variable {K : PySem.W.Frag} {X : Cx} {o e : Expr} {fo fe : RX} {fa : RA} {apos pos p p2 : Pos}
def SndB (K : PySem.W.Frag) (r : V → List V → Hp → VK → Prop) (g : List L3.D → List L3.D → MH → (L3.D → MH → Prop) → Prop) : Prop :=
  ∀ S μ H x xs vs ds R Q, OK K S μ H → Rep K S x (.lst xs) → Reps K S vs ds → g xs ds μ R → Pst K S μ H R Q → r x vs H Q
theorem up_bm {T : String} {r : V → List V → Hp → VK → Prop} {g : List L3.D → List L3.D → MH → (L3.D → MH → Prop) → Prop} (s : SndB K r g) : ∀ σ H Q, up K (rBM g fo fa) σ H Q → tBM K "list" r (up K fo) (upA K fa) σ H Q := fun σ H Q ⟨S, μ, ρ, R, k, e, h, post⟩ => by
  refine ⟨S, μ, ρ, _, k, e, h, fun S1 μ1 H1 v d k1 s1 r1 h1 => ?_⟩
  cases d with
  | lst xs =>
    obtain ⟨a, vs, rfl, ha, _⟩ := res_lst (ds := xs) k1 r1 rfl
    exact ⟨.inl ⟨rfl, _, .inl (.inl ha)⟩, S1, μ1, ρ, _, k1, e.mono s1.same, h1, fun S2 μ2 H2 ws ds k2 s2 r2 h2 => s S2 μ2 H2 _ xs ws ds R Q k2 (r1.mono s2.same) r2 h2 fun S3 μ3 H3 v d k3 s3 r3 h3 => post S3 μ3 H3 v d k3 ((s1.trans s2).trans s3) r3 h3⟩
  | _ => exact False.elim h1
theorem snd_count : SndB K (rCountD K) gCount := by
  intro S μ H x xs vs ds R Q k rx rs q post
  unfold gCount at q
  split at q
  · rename_i y
    obtain ⟨v, rfl, r1⟩ := reps1 rs
    obtain ⟨p1, p2, q⟩ := q
    obtain ⟨a, ws, rfl, ha, _⟩ := res_lst (ds := xs) k rx rfl
    have dl : Dp K H (.ref a) (.list (toPys xs)) := res_dp (d := .lst xs) (n := 20) k rx p1
    have dv : Dp K H v (toPy y) := Dp.same k.sub (r1.dp p2)
    refine ⟨a, v, toPy y, toPys xs, rfl, rfl, dl, dv, pure_shaped (d := .lst xs) p1 (by decide), pure_shaped p2 (by decide), ?_⟩
    rw [toPys_map, List.countP_map]
    exact post S μ H _ _ k .refl (.int _) q
  · exact q.elim
theorem snd_index : SndB K (rIndexD K) gIndex := by
  intro S μ H x xs vs ds R Q k rx rs q post
  unfold gIndex at q
  split at q
  · rename_i y
    obtain ⟨v, rfl, r1⟩ := reps1 rs
    obtain ⟨p1, p2, j, z, hj, hz, hno, q⟩ := q
    obtain ⟨a, ws, rfl, ha, _⟩ := res_lst (ds := xs) k rx rfl
    have dl : Dp K H (.ref a) (.list (toPys xs)) := res_dp (d := .lst xs) (n := 20) k rx p1
    have dv : Dp K H v (toPy y) := Dp.same k.sub (r1.dp p2)
    refine ⟨a, v, toPy y, toPys xs, j, toPy z, rfl, rfl, dl, dv, pure_shaped (d := .lst xs) p1 (by decide), pure_shaped p2 (by decide), by rw [toPys_map, List.getElem?_map, hj]; rfl, hz, fun m z' hm h => ?_, post S μ H _ _ k .refl (.int _) q⟩
    rw [toPys_map, List.getElem?_map] at h
    cases w : xs[m]? with
    | none => rw [w] at h; cases h
    | some u =>
      rw [w] at h
      have := hno m u hm w
      rw [← Option.some.inj h]
      exact this
  · exact q.elim
theorem de_count (hu : X.A.units + 65 < cLine) (ho : DE X o fo) (ha : DA X [e] fa) (hbase : attributeBase o "count" X.env (eval o X.env) = eval o X.env := by rfl)
    (hfew : ((backTo pos (starEach [e] X.env)).all (fun x => !x.1) && (backToKw pos (keywordEach [] X.env)).all (fun x => x.1.isSome)
      && decide ([e].length + ([] : List Keyword).length + (if ([] : List Keyword).isEmpty then 0 else 1) < 30)) = true := by rfl)
    (hline : (apos.endLine == pos.line) = true := by rfl) (hst : starEach [e] X.env = (false, eval e X.env) :: starEach [] X.env := by rfl) : DE X (.Call (.Attribute o "count" apos) [e] [] pos) (rBM gCount fo fa) :=
  pe_imp (pe_bm PySem.F.plainAttrs_list PySem.F.slot_list_count PySem.F.type_list_count (mt_countD hu) ho ha hbase hfew hline hst) (up_bm (T := "list") snd_count)
theorem de_index (hu : X.A.units + 65 < cLine) (ho : DE X o fo) (ha : DA X [e] fa) (hbase : attributeBase o "index" X.env (eval o X.env) = eval o X.env := by rfl)
    (hfew : ((backTo pos (starEach [e] X.env)).all (fun x => !x.1) && (backToKw pos (keywordEach [] X.env)).all (fun x => x.1.isSome)
      && decide ([e].length + ([] : List Keyword).length + (if ([] : List Keyword).isEmpty then 0 else 1) < 30)) = true := by rfl)
    (hline : (apos.endLine == pos.line) = true := by rfl) (hst : starEach [e] X.env = (false, eval e X.env) :: starEach [] X.env := by rfl) : DE X (.Call (.Attribute o "index" apos) [e] [] pos) (rBM gIndex fo fa) :=
  pe_imp (pe_bm PySem.F.plainAttrs_list PySem.F.slot_list_index PySem.F.type_list_index (mt_indexD hu) ho ha hbase hfew hline hst) (up_bm (T := "list") snd_index)
/-- e in a list of data -/
def gIn : G2 := fun x y μ R => match res μ y with
  | .lst ys => pureN 20 (res μ x) = true ∧ pureN 20 (.lst ys) = true ∧ R (.bl (ys.any fun z => deq z (res μ x))) μ
  | _ => False
theorem snd_in : Snd2 K (rInD K) gIn := by
  intro S μ H x y dx dy R Q k rx ry q post
  unfold gIn at q
  cases w : res μ dy with
  | lst ys =>
    rw [w] at q
    obtain ⟨p1, p2, q⟩ := q
    have dl : Dp K H y (.list (toPys ys)) := by
      have := res_dp (n := 20) k ry (by rw [w]; exact p2)
      rw [w] at this
      exact this
    refine ⟨_, toPys ys, res_dp k rx p1, dl, pure_shaped p1 (by decide), pure_shaped (d := .lst ys) p2 (by decide), ?_⟩
    rw [toPys_map, List.any_map]
    exact post S μ H _ _ k .refl (.bl _) q
  | _ => rw [w] at q; exact q.elim
theorem de_in {a b : Expr} {fa fb : RX} (hu : X.A.units + 65 < cLine) (ha : DE X a fa) (hb : DE X b fb) (hm : behindInMarks .In b = false := by rfl) : DE X (.Compare a [.In] [b] pos) (rOp gIn fa fb) := de_cmp (op_inD hu) snd_in ha hb hm
theorem dt_in {a b : Expr} {fa fb : RX} (hu : X.A.units + 65 < cLine) (ha : DE X a fa) (hb : DE X b fb) (hm : behindInMarks .In b = false := by rfl) : DT X (.Compare a [.In] [b] pos) (rB (rOp gIn fa fb)) := dt_cmp (op_inD hu) snd_in ha hb hm
end
/-! ### isinstance of the error that a suite holds -/
def rIsEx (a : Addr) (b : Bool) (fe : RX) : RX := fun ρ μ R => fe ρ μ fun x μ1 => x = .ref a ∧ R (.bl b) μ1
section
variable {X : Cx} {a Dc c : Addr} {oe : Obj} {pn : List (Addr × Obj)} {x : Str} {e : Expr} {fe : RX} {b : Bool} {p p2 pos : Pos}
end
end L3

/-! ## L3r -/
set_option Elab.async false
set_option linter.all false
set_option maxRecDepth 100000
set_option maxHeartbeats 4000000
/-! A def that tells the error that a lambda raises. -/
namespace L3
open PySem PySem.Spec PyProof.Rows L2
theorem repE_any {K : PySem.W.Frag} {S : Hp} : ∀ σ : L2.St, RepE K S σ (List.replicate σ.length none)
  | [] => .nil
  | o :: r => .no (repE_any r)
theorem takes_len {X : Cx} {W : WX} (t : Takes X W) : Takes X (fun cls d σ H => σ.length = X.N.length → W cls d σ H) := fun u s' ⟨a, B, sI, pins, σ, H, cls, d, e, I, nb, up, sky, na, os, ag, w⟩ => t u s' ⟨a, B, sI, pins, σ, H, cls, d, e, I, nb, up, sky, na, os, ag, w I.len⟩
/-- res: what is told of an error -/
def TErr (K : PySem.W.Frag) (res : Addr → List (Str × D) → D → Prop) : (XK → Hp → VK → Prop) → Hp → VK → Prop := fun tl H Q => ∃ S μ R, OK K S μ H ∧ Pst K S μ H R Q ∧
  tl (fun cls d H' => ∃ S' μ' C fs v, OK K S' μ' H' ∧ Stp S μ H S' μ' H' ∧ XRep K S' cls d C fs ∧ res C fs v ∧ R v μ') H (fun _ H' => Q .non H')
/-- the suite, for an error of the class C with the attributes fs: v is told -/
def SuOk (Z : Cx) (i n : Nat) (suite : List Stmt) (C : Addr) (fs : List (Str × D)) (v : D) : Prop := ∀ (a : Addr) (oe : Obj) (d : Option Addr) (pn : List (Addr × Obj)), Zc (.ref C) d oe → (∃ vs, oe.data = .fields vs) → (d = none ↔ fs = []) →
  PSs (Z.suite a ((a, oe) :: pn)) suite fun D σ H => ∃ S μ DD, OK Z.K S μ H ∧ RepE Z.K S σ (st (List.replicate n none) i (.ref a)) ∧ XRep Z.K S (.ref C) d C fs ∧ DD.rt v μ ∧ Lk Z.K S μ H D DD
/-! ### x(lambda: e) -/
/-- what the def at x that tells errors keeps -/
structure ErrD (P : Program) (w : World) (K : PySem.W.Frag) (mg : Str → Option Value) (base : Heap) (x : Str) (res : Addr → List (Str × D) → D → Prop) : Prop where
  ex : ∃ (g : Addr) (pg : Arguments) (bg : List Stmt) (sg : Scope) (dV kV doc pm cdv ct oc : Value) (an od : Option Addr) (osl : Array (Option Value)) (Ng : List Str) (a : Str),
    mg x = some (.ref g) ∧ PySem.W.keepIn K (.ref g) = true ∧ K.lookup g = some ⟨oc, od, .func (PySem.W.fnOf x x pg bg sg dV kV doc pm an cdv ct), osl⟩ ∧ PySem.W.codeIn K cdv x = true ∧ L2.Binds K (PySem.W.fnOf x x pg bg sg dV kV doc pm an cdv ct) [a] [] ∧
    FnScope Ng [a] sg ∧ Ng[0]? = some a ∧ Vis sg a ∧ (a == ("__debug__" : Str)) = false ∧ (a == ("__classdict__" : Str)) = false ∧
    ∀ (X : Cx) (q : Str), X.prog = P → X.w = w → X.K = K → X.mg = mg → X.base = base → X.A.units + 200 < cLine → LamX.GivesTo X Ng x sg g cdv bg a q (TErr K res)
/-- Pt: the table of the maker's code object -/
def rErrOf (Pt : Addr) (q : Str) (res : Addr → List (Str × D) → D → Prop) (f : RXX) : RX := fun ρ μ R => μ Pt = some (.tab q) ∧ f ρ μ (fun _ μ1 => R .non μ1) fun C fs μ1 => ∃ v, res C fs v ∧ R v μ1
open Classical in
/-- the code objects that are known now are data from now on -/
noncomputable def grow (S H1 : Hp) : Hp := fun b => match S b with
  | some o => some o
  | none => if ∃ q, H1 b = some (LamX.CodeO b q) then H1 b else none
theorem grow_sub {S H1 : Hp} {b : Addr} {o : HO} (h : S b = some o) : grow S H1 b = some o := by
  unfold grow
  rw [h]
theorem grow_code {S H1 : Hp} {c : Addr} {q : Str} (h : H1 c = some (LamX.CodeO c q)) (k : ∀ o, S c = some o → H1 c = some o) : grow S H1 c = some (LamX.CodeO c q) := by
  cases w : S c with
  | some o => rw [grow_sub w, ← k o w, h]
  | none =>
    unfold grow
    rw [w]
    dsimp only
    rw [if_pos ⟨q, h⟩, h]
theorem grow_inv {S H1 : Hp} {b : Addr} {o : HO} (h : grow S H1 b = some o) : S b = some o ∨ (S b = none ∧ ∃ q, H1 b = some (LamX.CodeO b q) ∧ o = LamX.CodeO b q) := by
  cases w : S b with
  | some o' => rw [grow_sub w] at h; exact .inl h
  | none =>
    unfold grow at h
    rw [w] at h
    dsimp only at h
    by_cases c : ∃ q, H1 b = some (LamX.CodeO b q)
    · rw [if_pos c] at h
      obtain ⟨q, e⟩ := c
      rw [e] at h
      exact .inr ⟨rfl, q, e, (Option.some.inj h).symm⟩
    · rw [if_neg c] at h; cases h
/-- a lambda is made: the table has grown -/
theorem OK.lam {K : PySem.W.Frag} {S H H1 : Hp} {μ : MH} {Pt : Addr} {q : Str} (k : OK K S μ H) (hm : μ Pt = some (.tab q)) (e : LamX.ExtN H H1) (t : LamX.TabS H1 Pt q) : OK K (grow S H1) μ H1 ∧ Stp S μ H (grow S H1) μ H1 := by
  have keepS : ∀ b o, S b = some o → H1 b = some o := fun b o h => e b o (k.sub b o h) fun ps z => k.nst b ps (by rw [h, z])
  have sm : Same S (grow S H1) := fun b o h => grow_sub h
  refine ⟨⟨fun b o h => ?_, fun a m h => ?_, fun b ps h => ?_, k.one⟩, sm, fun b o h => ?_, fun b o h _ n => e b o h n, fun b m h => .inr ⟨m, h⟩⟩
  · rcases grow_inv h with z | ⟨_, q', z1, z2⟩
    · exact keepS b o z
    · rw [z1, z2]
  · obtain ⟨z1, z2⟩ := k.mts a m h
    have nc : (∀ q', H1 a ≠ some (LamX.CodeO a q')) → grow S H1 a = none := fun n => by
      cases w : grow S H1 a with
      | none => rfl
      | some o =>
        rcases grow_inv w with z | ⟨_, q', y, _⟩
        · rw [z1] at z; cases z
        · exact absurd y (n q')
    cases m with
    | lst ds =>
      obtain ⟨vs, y1, y2⟩ := z2
      have h1 := e a _ y1 (fun _ z => by cases z)
      exact ⟨nc fun q' z => (by rw [h1] at z; unfold LamX.CodeO at z; cases z), vs, h1, y2.mono sm⟩
    | ins C fs =>
      obtain ⟨dx, vfs, y1, y2⟩ := z2
      have h1 := e a _ y1 (fun _ z => by cases z)
      exact ⟨nc fun q' z => (by rw [h1] at z; unfold LamX.CodeO at z; cases z), dx, vfs, h1, y2.mono sm⟩
    | dk kvs =>
      obtain ⟨vs, y1, y2⟩ := z2
      have h1 := e a _ y1 (fun _ z => by cases z)
      exact ⟨nc fun q' z => (by rw [h1] at z; unfold LamX.CodeO at z; cases z), vs, h1, y2.mono sm⟩
    | dct o kvs =>
      obtain ⟨vs, y1, y2⟩ := z2
      have h1 := e a _ y1 (fun _ z => by unfold DctO at z; cases z)
      exact ⟨nc fun q' z => (by rw [h1] at z; exact dctO_ne_code (Option.some.inj z)), vs, h1, y2.mono sm⟩
    | tab q' =>
      have ea := k.one a Pt q' q h hm
      subst ea
      have eq : q' = q := by
        have := h.symm.trans hm
        cases this
        rfl
      subst eq
      obtain ⟨ps, t1, t2, t3⟩ := t
      refine ⟨nc fun q2 z => (by rw [t1] at z; unfold LamX.CodeO at z; cases z), ps, t1, t2, fun pos cv hc => ?_⟩
      obtain ⟨c, c1, c2⟩ := t3 pos cv hc
      exact ⟨c, c1, grow_code c2 (keepS c)⟩
  · rcases grow_inv h with z | ⟨_, q', _, z⟩
    · exact k.nst b ps z
    · unfold LamX.CodeO at z; cases z
  · rcases grow_inv h with z | ⟨_, q', z1, z2⟩
    · exact .inl z
    · exact .inr (.inr ⟨q', z2⟩)
section
variable {X : Cx} {x : Str} {Pt c : Addr} {k : Nat} {res : Addr → List (Str × D) → D → Prop} {f : RXX} {params : Arguments} {body : Expr} {scope : Scope} {p lpos pos : Pos}
theorem de_errOf (F : ErrD X.prog X.w X.K X.mg X.base x res) (hr : Room (k + 2) X.A) (hg : Gl X x) (TB : LamX.TabB X.base X.mg c Pt) (hcode : X.env.code = .ref c) (L : LamX.LamS X.env.scope scope) (hdef : defaultsOf params X.env = ([], []))
    (hbind : ∀ (q : Str) (cl : List (Str × Addr)) (pm cv ctv : Value), bindArgs (PySem.W.kla_fn "<lambda>" q params body scope cl pm cv ctv) ⟨[], []⟩ = pure [])
    (hbody : ∀ (A : Around) (outer : List Env) (s : Shared) (H : Hp) (E : XK) (f0 c' : Addr), Room k (A.deeper (LamX.lamEnv X scope s.heap.objs.size f0 c')) → Takes (LamX.lamCx X A outer s H E scope f0 c') (fun cls d _ H' => E cls d H') → DEX (LamX.lamCx X A outer s H E scope f0 c') (fun cls d _ H' => E cls d H') body f)
    {q : Str} (hq : X.env.qual ++ "<lambda>" = q) (hdb : (x == ("__debug__" : Str)) = false := by decide) : DE X (.Call (.Name x p) [.Lambda params body scope lpos] [] pos) (rErrOf Pt q res f) := by
  subst hq
  obtain ⟨g, pg, bg, sg, dV, kV, doc, pm, cdv, ct, oc, an, od, osl, Ng, a, h1, h2, h3, h4, h5, h6, h7, h8, h9, h10, gv⟩ := F.ex
  refine pe_imp (LamX.pe_lamcall (T := [(Pt, X.env.qual ++ "<lambda>")]) (TT := TErr X.K res) (t := fun E => upX X.K (fun cls d _ H' => E cls d H') f) (k := k) hg h1 h2 h3 h4 h5 h6 h7 h8 (gv X _ rfl rfl rfl rfl rfl (by have := hr.un; omega)) TB hcode (by simp) (fun p hp _ => by
    rcases List.mem_cons.mp hp with rfl | hp
    · rfl
    · exact nomatch hp) hr L hdef hbind (fun A outer s H E f0 c' hr' => hbody A outer s H E f0 c' hr' (takes_of rfl rfl rfl rfl)) hdb h9 h10) fun σ H Q ⟨S, μ, ρ, R, k, e, ⟨hm, h⟩, post⟩ => ?_
  refine ⟨fun p hp => ?_, fun H1 eN T1 => ?_⟩
  · rcases List.mem_cons.mp hp with rfl | hp
    · obtain ⟨_, ps, t1, t2, t3⟩ := k.mts _ _ hm
      refine ⟨ps, t1, t2, fun pos cv hc => ?_⟩
      obtain ⟨c, c1, c2⟩ := t3 pos cv hc
      exact ⟨c, c1, k.sub _ _ c2⟩
    · exact nomatch hp
  · obtain ⟨k1, s1⟩ := k.lam hm eN (T1 (Pt, X.env.qual ++ "<lambda>") (by simp))
    refine ⟨grow S H1, μ, R, k1, fun S2 μ2 H2 v d k2 s2 r2 q2 => post S2 μ2 H2 v d k2 (s1.trans s2) r2 q2, ?_⟩
    refine ⟨grow S H1, μ, ρ, _, _, k1, e.mono s1.same, h, fun S2 μ2 H2 v d k2 s2 r2 q2 => ?_, fun S2 μ2 H2 cls d C fs k2 s2 x2 q2 _ => ?_⟩
    · exact post S2 μ2 H2 .non .non k2 (s1.trans s2) .non q2
    · obtain ⟨v, v1, v2⟩ := q2
      exact ⟨S2, μ2, C, fs, v, k2, s2, x2, v1, v2⟩
end
end L3

/-! ## L3s -/
set_option Elab.async false
set_option linter.all false
set_option maxRecDepth 100000
set_option maxHeartbeats 4000000
/-! The head and the end of a law that makes lambdas: its table of code objects. -/
namespace L3
open PySem PySem.Spec PyProof.Rows L2
/-! ### a def that is one try -/
section
variable {X : Cx} {Ng : List Str} {x a n xe q : Str} {sg : Scope} {g CE : Addr} {cdg : Value} {res : Addr → List (Str × D) → D → Prop} {i : Nat} {s2 b0 : Stmt} {suite : List Stmt} {p1 p2 p3 np pos' pos : Pos}
theorem err_gives (hN : Ng.Nodup) (hi : Ng[i]? = some n) (hln : sg.names.lookup n = some .local) (hge : sg.names.lookup xe = some .globalImplicit) (hme : X.mg xe = some (.ref CE)) (hde : (xe == ("__debug__" : Str)) = false) (h0 : ∀ f : Addr, (L2.start Ng [V.ref f])[0]? = some (some (V.ref f)))
    (exm : ∀ C fs v, res C fs v → PySem.W.exmOne X.K (.ref C) (.ref CE) = some true)
    (d2 : ∀ s H, PS (cxOf C8.CX0 X.prog X.w X.K X.mg X.base Ng x sg g cdg X.A X.stack s H C8.E0).nox s2 (fun D _ H => D.rt .non H))
    (su : ∀ s H C fs v, res C fs v → SuOk (cxOf C8.CX0 X.prog X.w X.K X.mg X.base Ng x sg g cdg X.A X.stack s H C8.E0).nox i Ng.length (b0 :: suite) C fs v) :
    LamX.GivesTo X Ng x sg g cdg [.Try [.Expr (.Call (.Name a p1) [] [] p2) p3] [.ExceptHandler (some (.Name xe np)) (some n) (b0 :: suite) pos'] [] [] pos, s2] a q (TErr X.K res) := by
  rintro f c' s H Q tl act hc ⟨S, μ, R, k, post, h⟩
  have hgl : Gl (cxOf C8.CX0 X.prog X.w X.K X.mg X.base Ng x sg g cdg X.A X.stack s H C8.E0).nox xe := hge
  refine ⟨_, pss_cons (ps_try_as (X := (cxOf C8.CX0 X.prog X.w X.K X.mg X.base Ng x sg g cdg X.A X.stack s H C8.E0).nox) (c := .ref CE) (i := i)
      (tb := fun W D σ H => ∃ Ech : XK, (∀ cls d σ' H', Ech cls d H' → σ'.length = Ng.length → W cls d σ' H') ∧ σ[0]? = some (some (.ref f)) ∧ H c' = some (LamX.CodeO c' q) ∧ tl Ech H (fun _ H' => D.nx σ H'))
      (ts := fun a cls d D σ H => ∃ S μ DD C fs v, OK X.K S μ H ∧ RepE X.K S σ (st (List.replicate Ng.length none) i (.ref a)) ∧ XRep X.K S cls d C fs ∧ res C fs v ∧ DD.rt v μ ∧ Lk X.K S μ H D DD)
      rfl rfl hN hi hln ⟨hgl, hde, .inl hme⟩ LamX.takes0 (fun W pn ex tk _ => ?_) (fun a oe cls d pn hz hf => ?_)) (pss_one (d2 s H)), ?_⟩
  · refine ⟨fun pins s' σ H' D I h' => ?_⟩
    obtain ⟨Ech, hW, h1, h2, h3⟩ := h'
    have hp := act _ pn ex Ech p1 p2 (takes_len tk) fun cls d σ' H' e hl => hW cls d σ' H' e hl
    exact (pss_one (ps_expr (pos := p3) hp)).run pins s' σ H' D I ⟨h1, h2, h3⟩
  · refine ⟨fun pins s' σ H' D I h' => ?_⟩
    obtain ⟨S', μ', DD, C, fs, v, k', e', x', r', q', l'⟩ := h'
    have x2 := x'
    obtain ⟨rfl, hd⟩ := x'
    have hd2 : d = none ↔ fs = [] := by
      rcases hd with ⟨e1, e2⟩ | ⟨dd, vfs, e1, _, _, e2⟩
      · exact ⟨fun _ => e2, fun _ => e1⟩
      · exact ⟨fun z => absurd (e1.symm.trans z) (by simp), fun z => absurd z e2⟩
    exact (su s H C fs v r' a oe d pn hz hf hd2).run pins s' σ H' D I ⟨S', μ', DD, k', e', x2, q', l'⟩
  · refine ⟨fun cls d H' => ∃ S' μ' C fs v, OK X.K S' μ' H' ∧ Stp S μ H S' μ' H' ∧ XRep X.K S' cls d C fs ∧ res C fs v ∧ R v μ', fun cls d σ' H' z hlen => ?_, h0 f, hc, h⟩
    obtain ⟨S', μ', C, fs, v, k', s', x', r', q'⟩ := z
    have x2 := x'
    obtain ⟨rfl, _⟩ := x'
    refine ⟨true, exm C fs v r', fun _ a ha => ?_, fun z => nomatch z⟩
    have re := (repE_any (K := X.K) (S := S') σ').set (.ref a) i
    rw [hlen] at re
    refine ⟨S', μ', ⟨fun _ _ => False, R, fun _ _ => False, fun _ _ => False, fun _ _ _ => False⟩, C, fs, v, k', re, x2, r', q', ⟨fun _ _ _ _ _ _ _ _ z => z.elim, fun S3 μ3 H3 v3 d3 k3 s3 r3 q3 => post S3 μ3 H3 v3 d3 k3 (s'.trans s3) r3 q3, fun _ _ _ _ _ _ _ _ z => z.elim, fun _ _ _ _ _ _ _ _ z => z.elim⟩⟩
end
abbrev lawDf : He.Defn := ("law", none)
/-- the law's code object, its table -/
def lawC (K : PySem.W.Frag) : Addr := (He.cT K lawDf).1
def lawP (K : PySem.W.Frag) : Addr := (He.cT K lawDf).2
theorem codeIn_ref {K : PySem.W.Frag} {v : Value} {q : Str} (h : PySem.W.codeIn K v q = true) : ∃ c, v = .ref c := by
  cases v <;> first | exact ⟨_, rfl⟩ | (exfalso; simp [PySem.W.codeIn] at h)
section
variable {P : Program} {w : World} {K : PySem.W.Frag} {mg : Str → Option Value} {base : Heap}
/-- the law's def: its code object is known -/
theorem fnDL {x qual : Str} {params : Arguments} {bd : List Stmt} {scope : Scope} {dvs : List V} {kws : List (Str × V)} {f : Addr} {fd : FuncData} {N ps : List Str} {k : Nat} {s : GN} {body : RS} (F : FunD K x qual params bd scope dvs kws f fd) (hf : He.fAd K lawDf = f) (Sc : FnScope N ps scope)
    (len : ∀ ds μ R, s ds μ R → ds.length = ps.length)
    (hb : ∀ (A : Around) (outer : List Env) (s0 : Shared) (H : Hp) (E : XK), Room k (A.deeper (envOfC qual scope s0.heap.objs.size f (.ref (lawC K)))) → DSs (cxOf CX0 P w K mg base N qual scope f (.ref (lawC K)) A outer s0 H E).nox bd body)
    (hv : ∀ ds μ R, s ds μ R → body { nx := fun _ μ' => R .non μ', rt := R } (startD N.length ds) μ) : FnOk P w K mg base CX0 (k + 1) f fd ps (spD K s) := by
  obtain ⟨oc, od, dV, kV, doc, pm, an, cdv, ct, osl, rfl, lk, hcd, _, _⟩ := F.ex
  obtain ⟨c, rfl⟩ := codeIn_ref hcd
  have ec : lawC K = c := He.codeOf_eq (by rw [hf]; exact lk) rfl
  rw [ec] at hb
  refine fn_of lk hcd Sc (fun vs H Q E h => ?_) fun A outer s0 H vs Q E hr h => ⟨upS K body, PSs.nox (hb A outer s0 H E hr), ?_⟩
  · obtain ⟨S, μ, ds, R, a, b, c, d⟩ := h
    rw [b.length]
    exact len ds μ R c
  · obtain ⟨S, μ, ds, R, a, b, c, d⟩ := h
    exact ⟨S, μ, _, _, a, repE_start b, hv ds μ R c, ⟨fun S' μ' H' σ' ρ' k' s' e' q' => d S' μ' H' _ _ k' s' .non q', fun S' μ' H' v z k' s' r' q' => d S' μ' H' v z k' s' r' q', fun _ _ _ _ _ _ _ _ q' => False.elim q', fun _ _ _ _ _ _ _ _ q' => False.elim q'⟩⟩
end
/-! ### the law's promise -/
def lawT (Pt : Addr) (q : Str) : GN := fun ds μ R => ∃ ns : List Int, ds = [.scr (ns.map D.int)] ∧ ns.length ≤ 63 ∧ μ Pt = some (.tab q) ∧ ∀ μ', R (.bl true) μ'
def spLawT (K : PySem.W.Frag) (Pt : Addr) : Sp := fun vs H Q _ => ∃ (a : Addr) (ns : List Int), vs = [.ref a] ∧ SqL K H a (ns.map V.int) ∧ ns.length ≤ 63 ∧ H Pt = some (.tbl #[]) ∧ ∀ H', Q (.bl true) H'
theorem law_impT {K : PySem.W.Frag} {Pt : Addr} {qn : Str} : ∀ vs H Q E, spLawT K Pt vs H Q E → spD K (lawT Pt qn) vs H Q E := fun vs H Q E ⟨a, ns, e, h, hl, ht, q⟩ => by
  subst e
  have one : ∀ b m, (if b = Pt then some (MO.tab qn) else none) = some m → b = Pt ∧ m = .tab qn := fun b m z => by
    by_cases w : b = Pt
    · rw [if_pos w] at z
      exact ⟨w, (Option.some.inj z).symm⟩
    · rw [if_neg w] at z; cases z
  refine ⟨noT H, fun b => if b = Pt then some (.tab qn) else none, [.scr (ns.map D.int)], fun d _ => d = .bl true, ⟨noT_sub, fun b m z => ?_, noT_nst, fun a b q r y z => ?_⟩, .cons (.scr (noT_seq h) (reps_ints ns)) .nil, ⟨ns, rfl, hl, if_pos rfl, fun _ => rfl⟩, fun S' μ' H' v d k s r h => ?_⟩
  · obtain ⟨rfl, rfl⟩ := one b m z
    refine ⟨?_, #[], ht, trivial, fun pos cv hc => ?_⟩
    · unfold noT
      rw [ht]
    · obtain ⟨ps, e1, _, e3⟩ := LamX.TabS.nil (q := qn) ht
      have : ps = #[] := by
        rw [ht] at e1
        cases e1
        rfl
      subst this
      obtain ⟨c, e4, e5⟩ := e3 pos cv hc
      have z : codeAmong pos [] = some cv := hc
      simp [codeAmong] at z
  · exact (one a _ y).1.trans (one b _ z).1.symm
  · subst h
    cases r.toBl
    exact q H'
/-! ### the hook -/
/-! ### the end -/
theorem walk_ofTE {l : PySem.W.OpenLaw} {n k : Nat} {q : Program} {loose : List Str} {XP : (Str → Option Value) → Heap → Prop} {YP : World → Heap → Prop} {d : DefRec} {CX : CXT} {x : Str}
    (hn : l.most = some n) (hn2 : n ≤ sizeLine) (hdf : d.params.defaults = []) (hr : Room k callerA)
    (F : ∀ (w : World) (mg : Str → Option Value) (fa : Addr) (h : Heap), YP w h → h.Ns mainGlobals mg → mg d.name = some (.ref fa) →
      ∃ (K : PySem.W.Frag) (fd : FuncData) (c Pt : Addr) (sp : Sp), K.In h ∧ h.get? Pt = some { cls := .none, data := .fields #[] } ∧ K.lookup Pt = none ∧ PySem.W.CodeHd h c Pt ∧ (∀ (s : Shared) (u : Value), BindsTo s fd ⟨[u], []⟩ [(x, u)]) ∧
        (∀ (H : Hp) (a : Addr) (ns : List Int), ns.length ≤ n → H Pt = some (.tbl #[]) → SqL K H a (ns.map V.int) → sp [.ref a] H (fun v _ => v = .bl true) fun _ _ _ => False) ∧
        ∀ base : Heap, K.In base → base.Ns mainGlobals mg → LamX.TabB base mg c Pt → FnOk l.prog w K mg base CX k fa fd [x] sp)
    (hCX : ∀ (H : Hp) (s : Shared) (e : Value) (s' : Shared), CX [] H s (fun _ _ _ => False) e s' → False) :
    PySem.W.WalkO q loose XP YP l.row.toRowW d [] (fun f vs => PySem.call f vs) := by
  refine Att.attach_callB hn hdf fun w s₀ s₁ mg mb fa o pm cd doc a vs ns G Y ho hd hcd hmg hobj hints hlen hbits hg => ?_
  obtain ⟨K, fd, c, Pt, sp, KX, hT, nT, hC, hb, hsp, hF⟩ := F w mg fa _ Y G.T.g hmg
  have all1 : ∀ {Z : Addr × Addr → Prop}, Z (c, Pt) → ∀ p ∈ [(c, Pt)], Z p := fun z p hp => by
    rcases List.mem_cons.mp hp with rfl | hp
    · exact z
    · exact nomatch hp
  exact LamX.law_callTs (cs := [(c, Pt)]) KX G.T.g G.T.b G.T.builtins G.T.nolimit hg (all1 hT) (all1 nT) (all1 hC) G.T.bmain hobj hints (Nat.le_trans hlen hn2) hr (fun base kb nb tb => hF base kb nb (tb (c, Pt) (by simp))) hb (fun H hH hS => hsp H a ns hlen (hH (c, Pt) (by simp)) hS) fun H e s' => hCX H s₁ e s'
/-! ### what K says of an error's class -/
/-- the classes that the law asks for, in its order -/
def errNs : List Str := ["InvalidSpot", "InvalidTurn", "InvalidTimes", "TooFew", "InvalidStroke", "OpenStroke", "InvalidReach", "OutOfReach", "TooMany", "InvalidSize", "InvalidBox", "Contradiction", "BadText", "BadRow", "UnknownName", "InvalidName", "InvalidCode", "UnknownArm", "NotFree", "InvalidOperation"]
def errN (j : Nat) : Str := errNs.getD j ""
/-- C: the j-th of the classes; CE: the base class -/
structure ErrK (K : PySem.W.Frag) (C CE : Addr) (gx : Str → Addr) (m : Nat) : Prop where
  xc : ExcC K C
  ce : PySem.W.exmOne K (.ref C) (.ref CE) = some true
  ve : PySem.W.kitOne K (.ref C) (.type "ValueError") = some true
  ks : ∀ j, j < 20 → PySem.W.kitOne K (.ref C) (.ref (gx (errN j))) = some (decide (j = m))
def errB (K : PySem.W.Frag) (C CE : Addr) (gx : Str → Addr) (m : Nat) : Bool :=
  decide (PySem.W.findIn K (.ref C) "__getattribute__" = some (some (.builtin "BaseException.__getattribute__"))) && (decide (PySem.W.findIn K (.ref C) "__getattr__" = some none) && (decide (PySem.W.subIn K (.ref C) (.type "BaseException") = some true) && (PySem.W.hasDictIn K C &&
  (decide (PySem.W.findIn K (.ref C) "__class__" = some (some (.builtin "object.__class__"))) && (decide (PySem.W.specialIn K (.builtin "object.__class__") "__get__" = some (some (.builtin "getset_descriptor.__get__"))) && (decide (PySem.W.takesIn K (.builtin "object.__class__") = some true) &&
  (decide (PySem.W.mroIn K C (.type "object") = some true) && (decide (PySem.W.exmOne K (.ref C) (.ref CE) = some true) && (decide (PySem.W.kitOne K (.ref C) (.type "ValueError") = some true) &&
  (List.range 20).all fun j => decide (PySem.W.kitOne K (.ref C) (.ref (gx (errN j))) = some (decide (j = m))))))))))))
theorem errB_ok {K : PySem.W.Frag} {C CE : Addr} {gx : Str → Addr} {m : Nat} (h : errB K C CE gx m = true) : ErrK K C CE gx m := by
  unfold errB at h
  simp only [Bool.and_eq_true, decide_eq_true_eq] at h
  obtain ⟨h1, h2, h3, h4, h5, h6, h7, h8, h9, h10, h11⟩ := h
  exact ⟨⟨h1, h2, h3, h4, h5, h6, h7, h8⟩, h9, h10, fun j hj => of_decide_eq_true (List.all_eq_true.mp h11 j (List.mem_range.mpr hj))⟩
def lamQ : Str := "law.<locals>.<lambda>"
structure UR (n : Nat) : Prop where
  units : n + 64 < cLine
  u65 : n + 65 < cLine
/-! ### calls with keywords or defaults that may raise -/
structure FnKX (P : Program) (w : World) (K : PySem.W.Frag) (mg : Str → Option Value) (base : Heap) (k : Nat) (x : Str) (s : GX) (n : Nat) (ks : List Str) (gD : List D → List D → List D) : Prop where
  ex : ∃ f fd ps g gV, FnOk P w K mg base (L2.CX P w) k f fd ps (spX K s) ∧ mg x = some (.ref f) ∧ PySem.W.keepIn K (.ref f) = true ∧ KBn K fd ps n ks g gV ∧
    ∀ (vs zs : List V) (ds es : List D) (S : Hp), Reps K S vs ds → Reps K S zs es → Reps K S (gV vs zs) (gD ds es)
structure FnDX (P : Program) (w : World) (K : PySem.W.Frag) (mg : Str → Option Value) (base : Heap) (k : Nat) (x : Str) (s : GX) (dd : List D) : Prop where
  ex : ∃ f fd ps du dv, FnOk P w K mg base (L2.CX P w) k f fd ps (spX K s) ∧ mg x = some (.ref f) ∧ PySem.W.keepIn K (.ref f) = true ∧ Binds K fd ps du ∧ Vals dv du ∧ ∀ S, Reps K S dv dd
section
variable {X : Cx} {W : WX} {k n m : Nat} {x : Str} {s : GX} {ks : List Str} {gD : List D → List D → List D} {dd : List D} {e : Expr} {es : List Expr} {kws : List Keyword} {fa fk : RA} {p pos : Pos}
end
end L3

/-! ## L3t -/
set_option Elab.async false
set_option linter.all false
set_option maxRecDepth 100000
set_option maxHeartbeats 4000000
/-! list(zip(a, b)), a and b rows. -/
namespace L3
open PySem PySem.Spec PyProof.Rows L2
section
variable {prog : Program} {w : World} {A : Around} {E : Value → Shared → Prop} {s : Shared} {z TI TO i1 i2 T : Addr} {fp1 fp2 : List Addr} {n1 n2 i : Nat} {P1 P2 : Nat → Value → Prop} {St1 St2 : Nat → Heap → Prop} {f : Bool} {oT : Obj}
end
/-! ### the zip as it stands between two turns, the list at L beside it -/
structure ZSt (z TI TO i1 i2 : Addr) (St1 St2 : Nat → Heap → Prop) (L : Addr) (i : Nat) (h : Heap) : Prop where
  pI : IsTupOf2 h TI (.ref i1) (.ref i2)
  b1 : St1 i h
  b2 : St2 i h
  zo : (IsZip h z TI TO .none ∧ ∃ a1 a2, IsTupOf2 h TO a1 a2) ∨ ∃ T f oT, IsZipHeld h z TI TO T f ∧ h.get? T = some oT ∧ T ≠ L ∧ T ≠ z ∧ T ≠ i1 ∧ T ≠ i2
structure ZAp (z TI TO i1 i2 L : Addr) (fp1 fp2 : List Addr) : Prop where
  s : ZipSep2 z TI TO i1 i2 fp1 fp2
  Lz : L ≠ z
  LI : L ≠ TI
  LO : L ≠ TO
  L1 : L ∉ fp1
  L2 : L ∉ fp2
section
variable {prog : Program} {w : World} {A : Around} {E : Value → Shared → Prop} {s : Shared} {z TI TO i1 i2 L : Addr} {fp1 fp2 : List Addr} {n1 n2 i : Nat} {P1 P2 : Nat → Value → Prop} {St1 St2 : Nat → Heap → Prop} {h h' : Heap}
theorem ZSt.kept (a : ZAp z TI TO i1 i2 L fp1 fp2) (D1 : Draws prog w A i1 fp1 n1 P1 St1) (D2 : Draws prog w A i2 fp2 n2 P2 St2) (t : ZSt z TI TO i1 i2 St1 St2 L i h) (k : ∀ c o, c ≠ L → h.get? c = some o → h'.get? c = some o) : ZSt z TI TO i1 i2 St1 St2 L i h' := by
  refine ⟨k _ _ a.LI.symm t.pI, D1.frame _ _ _ t.b1 fun b hb o q => k b o (fun e => a.L1 (e ▸ hb)) q, D2.frame _ _ _ t.b2 fun b hb o q => k b o (fun e => a.L2 (e ▸ hb)) q, ?_⟩
  rcases t.zo with ⟨q1, a1, a2, q2⟩ | ⟨T, f, oT, q1, q2, q3, q4⟩
  · exact .inl ⟨k _ _ a.Lz.symm q1, a1, a2, k _ _ a.LO.symm q2⟩
  · exact .inr ⟨T, f, oT, k _ _ a.Lz.symm q1, k _ _ q3 q2, q3, q4⟩
end
/-- the pairs given out so far, at rising places behind lo -/
structure ZGot (P1 P2 : Nat → Value → Prop) (lo : Addr) (h : Heap) (as : List Addr) : Prop where
  rise : as.Pairwise (· < ·)
  over : ∀ a ∈ as, lo < a
  pair : ∀ (j : Nat) (a : Addr), as[j]? = some a → ∃ x y, P1 j x ∧ P2 j y ∧ IsTupOf2 h a x y
theorem ZGot.there {P1 P2 : Nat → Value → Prop} {lo : Addr} {h : Heap} {as : List Addr} (g : ZGot P1 P2 lo h as) {a : Addr} (m : a ∈ as) : a < h.objs.size := by
  obtain ⟨j, e⟩ := List.mem_iff_getElem?.mp m
  obtain ⟨_, _, _, _, q⟩ := g.pair j a e
  exact Heap.lt_size q
section
variable {prog : Program} {w : World} {A : Around} {s : Shared} {R : Result → Shared → Prop} {z TI TO i1 i2 L : Addr} {fp1 fp2 : List Addr} {n1 n2 : Nat} {P1 P2 : Nat → Value → Prop} {St1 St2 : Nat → Heap → Prop}
end
section
variable {prog : Program} {w : World} {A : Around} {E : Value → Shared → Prop} {s : Shared} {z TI TO i1 i2 L : Addr} {fp1 fp2 : List Addr} {n1 n2 : Nat} {P1 P2 : Nat → Value → Prop} {St1 St2 : Nat → Heap → Prop}
end
/-! ### over the layer -/
def putP : Hp → List Addr → List (V × V) → Hp
  | H, a :: as, p :: ps => putP (upd H a (.tup [p.1, p.2])) as ps
  | H, _, _ => H
section
variable {X : Cx} {e e2 : Expr} {ta : TA} {p p2 zpos pos : Pos}
end
/-! ### as a reading -/
end L3

/-! ## L3v -/
set_option Elab.async false
set_option linter.all false
set_option maxRecDepth 100000
set_option maxHeartbeats 4000000
/-! Errors with attributes: a def that begins with super().__init__(text). -/
namespace L3
open PySem PySem.Spec PyProof.Rows L2
structure ScK (N ps : List Str) (scope : Scope) : Prop where
  nd : N.Nodup
  pre : N.take ps.length = ps
  par : ∀ x ∈ ps, scope.names.lookup x = some .local
  kind : scope.kind = .function
  co : scope.isCoroutine = false
  gen : scope.isGenerator = false
  own : ∀ p ∈ scope.names, p.2 ≠ .cell
  fre : ∀ p ∈ scope.names, p.2 = .free → p.1 = "__class__"
section
variable {CX : CXT} {P : Program} {w : World} {K : PySem.W.Frag} {mg : Str → Option Value} {base : Heap} {N ps : List Str} {qual : Str} {scope : Scope} {f cc : Addr} {cd : Value} {A : Around} {outer : List Env} {s : Shared} {H : Hp} {E : XK} {us : List Value} {vs : List V}
end

/-- what the program and its written part say of a class's __init__ that begins with super().__init__(..): f, the def; cc, its cell -/
structure SupK (P : Program) (K : PySem.W.Frag) (mg : Str → Option Value) (f cc C : Addr) (cd : Value) (x0 : Str) : Prop where
  cell : ∃ cl cld csl, K.lookup cc = some ⟨cl, cld, .cell (some (.ref C)), csl⟩
  code : ∃ cda ccl cdd vs ccs file tf, cd = .ref cda ∧ K.lookup cda = some ⟨ccl, cdd, .fields vs, ccs⟩ ∧ vs[2]? = some (.str file tf) ∧ ((P.main.file : Str) == file) = true
  cls : ∃ cdD, PySem.W.clsIn K C = some cdD
  sub : PySem.W.mroIn K C (.ref C) = some true
  top : (P.main.scope.names.lookup ("super" : Str)).isSome = false
  ms : mg "super" = none
  up : PySem.W.ks_superIn K C C "__init__" = some (some (.builtin "ValueError.__init__"))
  ve : PySem.W.subIn K (.ref C) (.type "ValueError") = some true
  opq : PySem.W.nsIn K cStatics "thirdparty.any" = some none
  oex : OexC K C
section
variable {CX : CXT} {P : Program} {w : World} {K : PySem.W.Frag} {mg : Str → Option Value} {base : Heap} {N : List Str} {qual : Str} {scope : Scope} {f cc C a : Addr} {cd : Value} {A : Around} {outer : List Env} {s : Shared} {H0 H : Hp} {E : XK} {σ : L2.St} {x0 m : Str} {body : List Stmt} {p0 p1 p2 p3 p4 : Pos} {j : Nat} {oc : Value} {od : Option Addr} {osl : Array (Option Value)} {fd : FuncData} {ar : Arg} {E' : Value → Shared → Prop}
end
end L3

/-! ## L3w -/
set_option Elab.async false
set_option linter.all false
set_option maxRecDepth 100000
set_option maxHeartbeats 4000000
/-! Errors with attributes: made, raised, their attributes read in a suite. -/
namespace L3
open PySem PySem.Spec PyProof.Rows L2
section
variable {K : PySem.W.Frag} {C a dx : Addr} {σ : L2.St} {D : Ends}
end
/-- the __init__ of the errors of the class at C: behind it stand the attributes -/
def spI (C : Addr) (names : List Str) : Sp := fun vs H Q _ => ∃ (a : Addr) (ws : List V), vs = .ref a :: ws ∧ ws.length = names.length ∧ H a = some (exo a C none) ∧ ∀ dx, H dx = none → dx ≠ a → Q .non (upd (upd H a (exo a C (some dx))) dx (exd dx (names.zip ws).reverse))
section
variable {CX : CXT} {P : Program} {w : World} {K : PySem.W.Frag} {mg : Str → Option Value} {base : Heap} {N : List Str} {qual : Str} {scope : Scope} {f cc C : Addr} {cd : Value} {x0 m : Str} {p0 p1 p2 p3 p4 p5 : Pos} {j : Nat} {oc : Value} {od : Option Addr} {osl : Array (Option Value)} {ar : Arg}
end
/-! ### raise C(e, ..) -/
structure ExcA (P : Program) (w : World) (K : PySem.W.Frag) (mg : Str → Option Value) (base : Heap) (k : Nat) (x : Str) (C : Addr) (names : List Str) : Prop where
  ex : ∃ fI fd ps, OexC K C ∧ PySem.W.findIn K (.ref C) "__init__" = some (some (.ref fI)) ∧ PySem.W.typeIn K (.ref fI) = some (.type "function") ∧ FnOk P w K mg base CX0 k fI fd ps (spI C names) ∧ Binds K fd ps [] ∧ mg x = some (.ref C)
section
variable {X : Cx} {W : WX} {k : Nat} {x : Str} {C : Addr} {names : List Str} {e : Expr} {es : List Expr} {fa : RA} {p cpos pos : Pos}
end
/-! ### a suite that reads attributes -/
/-- what is known of the error's attributes -/
def XF (K : PySem.W.Frag) (d : Option Addr) (fs : List (Str × D)) (S : Hp) : Prop := fs = [] ∨ ∃ dd vfs, d = some dd ∧ S dd = some (.xd vfs) ∧ RepF K S vfs fs
theorem XF.mono {K : PySem.W.Frag} {d : Option Addr} {fs : List (Str × D)} {S S' : Hp} (e : Same S S') (x : XF K d fs S) : XF K d fs S' := x.imp (fun z => z) fun ⟨dd, vfs, a, b, c⟩ => ⟨dd, vfs, a, e _ _ b, c.mono e⟩
def upSF (K : PySem.W.Frag) (d : Option Addr) (fs : List (Str × D)) (f : RS) : TS := fun D σ H => ∃ S μ ρ DD, XF K d fs S ∧ OK K S μ H ∧ RepE K S σ ρ ∧ f DD ρ μ ∧ Lk K S μ H D DD
abbrev DSF (X : Cx) (d : Option Addr) (fs : List (Str × D)) (s : Stmt) (f : RS) : Prop := PS X s (upSF X.K d fs f)
abbrev DSsF (X : Cx) (d : Option Addr) (fs : List (Str × D)) (s : List Stmt) (f : RS) : Prop := PSs X s (upSF X.K d fs f)
section
variable {X : Cx} {d : Option Addr} {fs : List (Str × D)} {a : Stmt} {as bs rest : List Stmt} {f g : RS} {c : Expr} {ft : RT} {pos : Pos}
theorem dsf_no (h : DS X a f) : DSF X d fs a f := ps_imp h fun D σ H ⟨S, μ, ρ, DD, _, k, e, h, l⟩ => ⟨S, μ, ρ, DD, k, e, h, l⟩
theorem dssf_nil : DSsF X d fs [] rNext := pss_imp pss_nil fun D σ H ⟨S, μ, ρ, DD, _, k, e, h, l⟩ => l.nx S μ H σ ρ k .refl e h
theorem dssf_cons (h1 : DSF X d fs a f) (h2 : DSsF X d fs rest g) : DSsF X d fs (a :: rest) (rSeq f g) := pss_imp (pss_cons h1 h2) fun D σ H ⟨S, μ, ρ, DD, x, k, e, h, l⟩ =>
  ⟨S, μ, ρ, _, x, k, e, h, ⟨fun S1 μ1 H1 σ1 ρ1 k1 s1 e1 q1 => ⟨S1, μ1, ρ1, DD, x.mono s1.same, k1, e1, q1, l.stp s1⟩, l.rt, l.bk, l.ct⟩⟩
theorem dssf_one (h1 : DSF X d fs a f) : DSsF X d fs [a] f := pss_one h1
end
theorem xf_i {K : PySem.W.Frag} {d : Option Addr} {fs : List (Str × D)} {S H : Hp} {μ : MH} {σ : L2.St} {ρ : EV} {i : Nat} {a C : Addr} {f : Str} {z : D} (x : XF K d fs S) (k : OK K S μ H) (e : RepE K S σ ρ) (hi : gt ρ i = some (.ref a)) (hl : fs.lookup f = some z) :
    ∃ v, Rep K S v z ∧ ∀ Q : VK, Q v H → tXf a (.ref C) d C f (tVar i) σ H Q := by
  rcases x with rfl | ⟨dd, vfs, rfl, h1, h2⟩
  · cases hl
  · obtain ⟨v, e1, e2⟩ := h2.lookup hl
    obtain ⟨w, g1, g2⟩ := e.get hi
    cases g2.toRef
    exact ⟨v, e2, fun Q q => ⟨.ref a, g1, rfl, rfl, dd, vfs, v, rfl, k.sub _ _ h1, e1, q⟩⟩
/-- return (x, e.f) -/
def rRetA1 (a : Addr) (fs : List (Str × D)) (i : Nat) (f : Str) (fn : RX) : RS := fun D ρ μ => fn ρ μ fun d μ1 => gt ρ i = some (.ref a) ∧ ∃ z, fs.lookup f = some z ∧ D.rt (.tup [d, z]) μ1
/-- return (x, (e.f, e.g)) -/
def rRetA2 (a : Addr) (fs : List (Str × D)) (i : Nat) (f g : Str) (fn : RX) : RS := fun D ρ μ => fn ρ μ fun d μ1 => gt ρ i = some (.ref a) ∧ ∃ z y, fs.lookup f = some z ∧ fs.lookup g = some y ∧ D.rt (.tup [d, .tup [z, y]]) μ1
/-- return (x, (e.f, e.g, e.h)) -/
def rRetA3 (a : Addr) (fs : List (Str × D)) (i : Nat) (f g h : Str) (fn : RX) : RS := fun D ρ μ => fn ρ μ fun d μ1 => gt ρ i = some (.ref a) ∧ ∃ z y x, fs.lookup f = some z ∧ fs.lookup g = some y ∧ fs.lookup h = some x ∧ D.rt (.tup [d, .tup [z, y, x]]) μ1
/-- return (x, e.f if t else y) -/
def rRetAI (a : Addr) (fs : List (Str × D)) (i : Nat) (f : Str) (ft : RT) (fn fy : RX) : RS := fun D ρ μ => fn ρ μ fun d μ1 => ft ρ μ1 fun b μ2 => if b = true then gt ρ i = some (.ref a) ∧ ∃ z, fs.lookup f = some z ∧ D.rt (.tup [d, z]) μ2 else fy ρ μ2 fun z μ3 => D.rt (.tup [d, z]) μ3
/-- what an error's class must have for its attributes to be read -/
structure XfA (K : PySem.W.Frag) (C : Addr) (f : Str) : Prop where
  c : XfC K C
  no : PySem.W.findIn K (.ref C) f = some none
section
variable {X : Cx} {a C : Addr} {oe : Obj} {d : Option Addr} {fs : List (Str × D)} {pn : List (Addr × Obj)} {en ex ex2 ex3 c y : Expr} {fn fy : RX} {ft : RT} {i : Nat} {f g h xe : Str} {tp tp2 : ExprContext → Pos} {pe pe2 pe3 p1 p2 p3 t1 t2 pos : Pos} {k1 k2 : Nat}
theorem two_fit : 2 ≤ sizeLine := by decide
theorem three_fit : 3 ≤ sizeLine := by decide
theorem dsf_A1 (T : XfA X.K C f) (hz : Zc (.ref C) d oe) (hf : ∃ vs, oe.data = .fields vs) (hn : DE (X.suite a ((a, oe) :: pn)) en fn) (hN : X.N[i]? = some xe := by rfl) (hv : Vis X.env.scope xe := by first | exact Or.inl rfl | exact Or.inr (Or.inl rfl))
    (hb : attributeBase (.Name xe pe) f X.env (eval (.Name xe pe) X.env) = eval (.Name xe pe) X.env := by rfl)
    (hs1 : starEach [en, .Attribute (.Name xe pe) f p1] X.env = (false, eval en X.env) :: starEach [.Attribute (.Name xe pe) f p1] X.env := by rfl) (hs2 : starEach [.Attribute (.Name xe pe) f p1] X.env = (false, eval (.Attribute (.Name xe pe) f p1) X.env) :: starEach [] X.env := by rfl)
    (hd1 : (xe == ("__debug__" : Str)) = false := by decide) (hd2 : (xe == ("__classdict__" : Str)) = false := by decide) :
    DSF (X.suite a ((a, oe) :: pn)) d fs (.Return (some (.Tuple [en, .Attribute (.Name xe pe) f p1] k1 t1)) pos) (rRetA1 a fs i f fn) :=
  ps_imp (ps_ret (pe_tup (pa_cons (X := X.suite a ((a, oe) :: pn)) hn (pa_cons (X := X.suite a ((a, oe) :: pn)) (pe_xf T.c T.no hz hf (pe_var (X := X.suite a ((a, oe) :: pn)) (i := i) hN hv hd1 hd2) hb) pa_nil hs2) hs1))) fun D σ H ⟨S, μ, ρ, DD, x, k, e, q, l⟩ => by
    refine ⟨S, μ, ρ, _, k, e, q, fun S1 μ1 H1 v1 d1 k1 s1 r1 q1 => ?_⟩
    obtain ⟨hi, z, hl, q1⟩ := q1
    obtain ⟨v, rv, tx⟩ := xf_i (C := C) (x.mono s1.same) k1 (e.mono s1.same) hi hl
    refine tx _ ⟨two_fit, fun p hp => ?_⟩
    obtain ⟨k2, s2⟩ := k1.alloc (o := .tup [v1, v]) hp
    exact l.rt _ _ _ _ _ k2 (s1.trans s2) (.tup (.of upd_same) (.cons (r1.mono s2.same) (.cons (rv.mono s2.same) .nil))) q1
theorem dsf_A2 (T : XfA X.K C f) (T2 : XfA X.K C g) (hz : Zc (.ref C) d oe) (hf : ∃ vs, oe.data = .fields vs) (hn : DE (X.suite a ((a, oe) :: pn)) en fn) (hN : X.N[i]? = some xe := by rfl) (hv : Vis X.env.scope xe := by first | exact Or.inl rfl | exact Or.inr (Or.inl rfl))
    (hb : attributeBase (.Name xe pe) f X.env (eval (.Name xe pe) X.env) = eval (.Name xe pe) X.env := by rfl) (hb2 : attributeBase (.Name xe pe2) g X.env (eval (.Name xe pe2) X.env) = eval (.Name xe pe2) X.env := by rfl)
    (hs1 : starEach [en, .Tuple [.Attribute (.Name xe pe) f p1, .Attribute (.Name xe pe2) g p2] k2 t2] X.env = (false, eval en X.env) :: starEach [.Tuple [.Attribute (.Name xe pe) f p1, .Attribute (.Name xe pe2) g p2] k2 t2] X.env := by rfl)
    (hs2 : starEach [.Tuple [.Attribute (.Name xe pe) f p1, .Attribute (.Name xe pe2) g p2] k2 t2] X.env = (false, eval (.Tuple [.Attribute (.Name xe pe) f p1, .Attribute (.Name xe pe2) g p2] k2 t2) X.env) :: starEach [] X.env := by rfl)
    (hs3 : starEach [.Attribute (.Name xe pe) f p1, .Attribute (.Name xe pe2) g p2] X.env = (false, eval (.Attribute (.Name xe pe) f p1) X.env) :: starEach [.Attribute (.Name xe pe2) g p2] X.env := by rfl) (hs4 : starEach [.Attribute (.Name xe pe2) g p2] X.env = (false, eval (.Attribute (.Name xe pe2) g p2) X.env) :: starEach [] X.env := by rfl)
    (hd1 : (xe == ("__debug__" : Str)) = false := by decide) (hd2 : (xe == ("__classdict__" : Str)) = false := by decide) :
    DSF (X.suite a ((a, oe) :: pn)) d fs (.Return (some (.Tuple [en, .Tuple [.Attribute (.Name xe pe) f p1, .Attribute (.Name xe pe2) g p2] k2 t2] k1 t1)) pos) (rRetA2 a fs i f g fn) :=
  ps_imp (ps_ret (pe_tup (pa_cons (X := X.suite a ((a, oe) :: pn)) hn (pa_cons (X := X.suite a ((a, oe) :: pn)) (pe_tup (pa_cons (X := X.suite a ((a, oe) :: pn)) (pe_xf T.c T.no hz hf (pe_var (X := X.suite a ((a, oe) :: pn)) (i := i) hN hv hd1 hd2) hb) (pa_cons (X := X.suite a ((a, oe) :: pn)) (pe_xf T2.c T2.no hz hf (pe_var (X := X.suite a ((a, oe) :: pn)) (i := i) hN hv hd1 hd2) hb2) pa_nil hs4) hs3)) pa_nil hs2) hs1))) fun D σ H ⟨S, μ, ρ, DD, x, k, e, q, l⟩ => by
    refine ⟨S, μ, ρ, _, k, e, q, fun S1 μ1 H1 v1 d1 k1 s1 r1 q1 => ?_⟩
    obtain ⟨hi, z, y, hl, hl2, q1⟩ := q1
    obtain ⟨v, rv, tx⟩ := xf_i (C := C) (x.mono s1.same) k1 (e.mono s1.same) hi hl
    obtain ⟨v2, rv2, tx2⟩ := xf_i (C := C) (x.mono s1.same) k1 (e.mono s1.same) hi hl2
    dsimp only [tCons, tTup, tNil]
    refine tx _ ?_
    refine tx2 _ ?_
    refine ⟨two_fit, fun p hp => ⟨two_fit, fun p2 hp2 => ?_⟩⟩
    obtain ⟨k2, s2⟩ := k1.alloc (o := .tup [v, v2]) hp
    obtain ⟨k3, s3⟩ := k2.alloc (o := .tup [v1, .ref p]) hp2
    have s23 := s2.same.trans s3.same
    exact l.rt _ _ _ _ _ k3 ((s1.trans s2).trans s3) (.tup (.of upd_same) (.cons (r1.mono s23) (.cons (.tup (.of (s3.same _ _ upd_same)) (.cons (rv.mono s23) (.cons (rv2.mono s23) .nil))) .nil))) q1
theorem dsf_A3 (T : XfA X.K C f) (T2 : XfA X.K C g) (T3 : XfA X.K C h) (hz : Zc (.ref C) d oe) (hf : ∃ vs, oe.data = .fields vs) (hn : DE (X.suite a ((a, oe) :: pn)) en fn) (hN : X.N[i]? = some xe := by rfl) (hv : Vis X.env.scope xe := by first | exact Or.inl rfl | exact Or.inr (Or.inl rfl))
    (hb : attributeBase (.Name xe pe) f X.env (eval (.Name xe pe) X.env) = eval (.Name xe pe) X.env := by rfl) (hb2 : attributeBase (.Name xe pe2) g X.env (eval (.Name xe pe2) X.env) = eval (.Name xe pe2) X.env := by rfl) (hb3 : attributeBase (.Name xe pe3) h X.env (eval (.Name xe pe3) X.env) = eval (.Name xe pe3) X.env := by rfl)
    (hs1 : starEach [en, .Tuple [.Attribute (.Name xe pe) f p1, .Attribute (.Name xe pe2) g p2, .Attribute (.Name xe pe3) h p3] k2 t2] X.env = (false, eval en X.env) :: starEach [.Tuple [.Attribute (.Name xe pe) f p1, .Attribute (.Name xe pe2) g p2, .Attribute (.Name xe pe3) h p3] k2 t2] X.env := by rfl)
    (hs2 : starEach [.Tuple [.Attribute (.Name xe pe) f p1, .Attribute (.Name xe pe2) g p2, .Attribute (.Name xe pe3) h p3] k2 t2] X.env = (false, eval (.Tuple [.Attribute (.Name xe pe) f p1, .Attribute (.Name xe pe2) g p2, .Attribute (.Name xe pe3) h p3] k2 t2) X.env) :: starEach [] X.env := by rfl)
    (hs3 : starEach [.Attribute (.Name xe pe) f p1, .Attribute (.Name xe pe2) g p2, .Attribute (.Name xe pe3) h p3] X.env = (false, eval (.Attribute (.Name xe pe) f p1) X.env) :: starEach [.Attribute (.Name xe pe2) g p2, .Attribute (.Name xe pe3) h p3] X.env := by rfl)
    (hs4 : starEach [.Attribute (.Name xe pe2) g p2, .Attribute (.Name xe pe3) h p3] X.env = (false, eval (.Attribute (.Name xe pe2) g p2) X.env) :: starEach [.Attribute (.Name xe pe3) h p3] X.env := by rfl) (hs5 : starEach [.Attribute (.Name xe pe3) h p3] X.env = (false, eval (.Attribute (.Name xe pe3) h p3) X.env) :: starEach [] X.env := by rfl)
    (hd1 : (xe == ("__debug__" : Str)) = false := by decide) (hd2 : (xe == ("__classdict__" : Str)) = false := by decide) :
    DSF (X.suite a ((a, oe) :: pn)) d fs (.Return (some (.Tuple [en, .Tuple [.Attribute (.Name xe pe) f p1, .Attribute (.Name xe pe2) g p2, .Attribute (.Name xe pe3) h p3] k2 t2] k1 t1)) pos) (rRetA3 a fs i f g h fn) :=
  ps_imp (ps_ret (pe_tup (pa_cons (X := X.suite a ((a, oe) :: pn)) hn (pa_cons (X := X.suite a ((a, oe) :: pn)) (pe_tup (pa_cons (X := X.suite a ((a, oe) :: pn)) (pe_xf T.c T.no hz hf (pe_var (X := X.suite a ((a, oe) :: pn)) (i := i) hN hv hd1 hd2) hb) (pa_cons (X := X.suite a ((a, oe) :: pn)) (pe_xf T2.c T2.no hz hf (pe_var (X := X.suite a ((a, oe) :: pn)) (i := i) hN hv hd1 hd2) hb2) (pa_cons (X := X.suite a ((a, oe) :: pn)) (pe_xf T3.c T3.no hz hf (pe_var (X := X.suite a ((a, oe) :: pn)) (i := i) hN hv hd1 hd2) hb3) pa_nil hs5) hs4) hs3)) pa_nil hs2) hs1))) fun D σ H ⟨S, μ, ρ, DD, x, k, e, q, l⟩ => by
    refine ⟨S, μ, ρ, _, k, e, q, fun S1 μ1 H1 v1 d1 k1 s1 r1 q1 => ?_⟩
    obtain ⟨hi, z, y, w, hl, hl2, hl3, q1⟩ := q1
    obtain ⟨v, rv, tx⟩ := xf_i (C := C) (x.mono s1.same) k1 (e.mono s1.same) hi hl
    obtain ⟨v2, rv2, tx2⟩ := xf_i (C := C) (x.mono s1.same) k1 (e.mono s1.same) hi hl2
    obtain ⟨v3, rv3, tx3⟩ := xf_i (C := C) (x.mono s1.same) k1 (e.mono s1.same) hi hl3
    dsimp only [tCons, tTup, tNil]
    refine tx _ ?_
    refine tx2 _ ?_
    refine tx3 _ ?_
    refine ⟨three_fit, fun p hp => ⟨two_fit, fun p2 hp2 => ?_⟩⟩
    obtain ⟨k2, s2⟩ := k1.alloc (o := .tup [v, v2, v3]) hp
    obtain ⟨k3, s3⟩ := k2.alloc (o := .tup [v1, .ref p]) hp2
    have s23 := s2.same.trans s3.same
    exact l.rt _ _ _ _ _ k3 ((s1.trans s2).trans s3) (.tup (.of upd_same) (.cons (r1.mono s23) (.cons (.tup (.of (s3.same _ _ upd_same)) (.cons (rv.mono s23) (.cons (rv2.mono s23) (.cons (rv3.mono s23) .nil)))) .nil))) q1
theorem dsf_AI (T : XfA X.K C f) (hz : Zc (.ref C) d oe) (hf : ∃ vs, oe.data = .fields vs) (hn : DE (X.suite a ((a, oe) :: pn)) en fn) (hc : DT (X.suite a ((a, oe) :: pn)) c ft) (hy : DE (X.suite a ((a, oe) :: pn)) y fy) (hN : X.N[i]? = some xe := by rfl) (hv : Vis X.env.scope xe := by first | exact Or.inl rfl | exact Or.inr (Or.inl rfl))
    (hb : attributeBase (.Name xe pe) f X.env (eval (.Name xe pe) X.env) = eval (.Name xe pe) X.env := by rfl)
    (hs1 : starEach [en, .IfExp c (.Attribute (.Name xe pe) f p1) y p2] X.env = (false, eval en X.env) :: starEach [.IfExp c (.Attribute (.Name xe pe) f p1) y p2] X.env := by rfl)
    (hs2 : starEach [.IfExp c (.Attribute (.Name xe pe) f p1) y p2] X.env = (false, eval (.IfExp c (.Attribute (.Name xe pe) f p1) y p2) X.env) :: starEach [] X.env := by rfl)
    (hd1 : (xe == ("__debug__" : Str)) = false := by decide) (hd2 : (xe == ("__classdict__" : Str)) = false := by decide) :
    DSF (X.suite a ((a, oe) :: pn)) d fs (.Return (some (.Tuple [en, .IfExp c (.Attribute (.Name xe pe) f p1) y p2] k1 t1)) pos) (rRetAI a fs i f ft fn fy) :=
  ps_imp (ps_ret (pe_tup (pa_cons (X := X.suite a ((a, oe) :: pn)) hn (pa_cons (X := X.suite a ((a, oe) :: pn)) (pe_ifExp (X := X.suite a ((a, oe) :: pn)) hc (pe_xf T.c T.no hz hf (pe_var (X := X.suite a ((a, oe) :: pn)) (i := i) hN hv hd1 hd2) hb) hy) pa_nil hs2) hs1))) fun D σ H ⟨S, μ, ρ, DD, x, k, e, q, l⟩ => by
    refine ⟨S, μ, ρ, _, k, e, q, fun S1 μ1 H1 v1 d1 k1 s1 r1 q1 => ?_⟩
    refine ⟨S1, μ1, ρ, _, k1, e.mono s1.same, q1, fun S2 μ2 H2 b k2 s2 q2 => ?_⟩
    have fin : ∀ {S3 H3 : Hp} {μ3 : MH} {v : V} {z : L3.D}, OK X.K S3 μ3 H3 → Stp S2 μ2 H2 S3 μ3 H3 → Rep X.K S3 v z → DD.rt (.tup [d1, z]) μ3 → (2 ≤ sizeLine ∧ ∀ p, H3 p = none → D.rt (.ref p) (upd H3 p (.tup [v1, v]))) := fun {S3 H3 μ3 v z} k3 s3 rv q3 => ⟨two_fit, fun p hp => by
      obtain ⟨k4, s4⟩ := k3.alloc (o := .tup [v1, v]) hp
      exact l.rt _ _ _ _ _ k4 (((s1.trans s2).trans s3).trans s4) (.tup (.of upd_same) (.cons ((r1.mono (s2.same.trans s3.same)).mono s4.same) (.cons (rv.mono s4.same) .nil))) q3⟩
    cases b with
    | true =>
      rw [if_pos rfl] at q2
      obtain ⟨hi, z, hl, q2⟩ := q2
      obtain ⟨v, rv, tx⟩ := xf_i (C := C) (x.mono (s1.same.trans s2.same)) k2 (e.mono (s1.same.trans s2.same)) hi hl
      show tXf a (.ref C) d C f (tVar i) σ H2 _
      refine tx _ ?_
      exact fin k2 .refl rv q2
    | false =>
      rw [if_neg Bool.false_ne_true] at q2
      show up X.K fy σ H2 _
      exact ⟨S2, μ2, ρ, _, k2, e.mono (s1.same.trans s2.same), q2, fun S3 μ3 H3 v z k3 s3 rv q3 => fin k3 s3 rv q3⟩
end
/-- the suite of a def that tells errors, the error's attributes known -/
theorem suOk_ofF {Z : Cx} {i n : Nat} {suite : List Stmt} {C : Addr} {fs : List (Str × D)} {v : D} {rd : Addr → RS} (h : ∀ (a : Addr) (oe : Obj) (d : Option Addr) (pn : List (Addr × Obj)), Zc (.ref C) d oe → (∃ vs, oe.data = .fields vs) → (d = none ↔ fs = []) → DSsF (Z.suite a ((a, oe) :: pn)) d fs suite (rd a))
    (hv : ∀ (a : Addr) (μ : MH) (DD : Ed), DD.rt v μ → rd a DD (st (List.replicate n none) i (.ref a)) μ) : SuOk Z i n suite C fs v := fun a oe d pn hz hf hd =>
  pss_imp (h a oe d pn hz hf hd) fun D σ H ⟨S, μ, DD, k, e, x, q, l⟩ => ⟨S, μ, _, DD, x.2.imp (fun z => z.2) fun ⟨dd, vfs, a1, a2, a3, _⟩ => ⟨dd, vfs, a1, a2, a3⟩, k, e, hv a μ DD q, l⟩
end L3

/-! ## L3x -/
set_option Elab.async false
set_option linter.all false
set_option maxRecDepth 100000
set_option maxHeartbeats 4000000
/-! isinstance of an error that has attributes, and the rules of a suite that asks it. -/
namespace PySem.W
open PySem PySem.Spec PySem.Calls PyProof.Rows
section
variable {prog : Program} {w : World} {A : Around} {E : Value → Shared → Prop} {s : Shared} {K : Frag} {x D : Addr} {ox : Obj} {od : Option Obj}
theorem findObj_dataD {C : Addr} {name : Str} {a g : Value} (hc : (clsIn K C).isSome = true) (ha : findIn K (.ref C) name = some (some a)) (hg : specialIn K a "__get__" = some (some g)) (ht : takesIn K a = some true) : findObj K C od name = some (.bind g a) := by
  obtain ⟨cd, hc⟩ := Option.isSome_iff_exists.mp hc
  unfold findObj
  rw [hc, Option.bind_some, ha, Option.bind_some]
  simp [hg, ht]
theorem kin_classD {Q : Option Value → Shared → Prop} (C : L2.ExcC K D) (X : K.In s.heap) (I : InstAt s.heap x ox D od) (h : Q (some (.ref D)) { s with toks := s.toks + 1 }) : wpAny (model prog w) A (getAttr? (.ref x) "__class__") Q E s := by
  obtain ⟨hga, hgt, hsub, hdct, ha, hn, htk, hm⟩ := C
  have hf : findObj K D od "__class__" = some (.bind (.builtin "getset_descriptor.__get__") (.builtin "object.__class__")) := findObj_dataD (by obtain ⟨cd, hc, _⟩ := any_some hdct; rw [hc]; rfl) ha hn htk
  obtain ⟨hp, gg, dd, tk, os⟩ := s
  have T0 := I.type (M := model prog w)
  have T1 := looks_findIn (M := model prog w) X hga
  have T2 := looks_findIn (M := model prog w) X hgt
  have T3 := looks_find (M := model prog w) X I hf
  have sub : Looks (model prog w) hp (isInstance (.ref x) (.type "BaseException")) true := T0.andThen (looks_subIn X hsub)
  have y0 : (false && onTheHeap (Value.builtin "BaseException.__getattribute__")) = false := rfl
  have y2 : (Value.builtin "BaseException.__getattribute__" == Value.builtin "object.__getattribute__") = false := by decide +kernel
  have y1 : (onTheHeap (Value.ref D) && Value.builtin "BaseException.__getattribute__" == Value.builtin "object.__getattribute__") = false := by rw [y2]; rfl
  unfold getAttr? getAttrBy? getAttrBy
  refine wpAny_bind (wpAny_mkText (wpAny_bind (wpAny_attempt (wpAny_holding (wpAny_bind (T0.at (wpAny_bind (T1.at ?_))))))))
  show wpAny _ _ (if (onTheHeap (Value.ref D) && Value.builtin "BaseException.__getattribute__" == Value.builtin "object.__getattribute__") = true then _ else _) _ _ _
  rw [y1, if_neg Bool.false_ne_true]
  unfold getAttrByItsOwn hookBefore
  refine wpAny_bind ?_
  rw [if_pos (show onTheHeap (Value.ref D) = true from rfl)]
  refine T2.at ?_
  refine wpAny_bind (wpAny_attempt (wpAny_holding ?_))
  unfold callGetattribute
  rw [y0, if_neg Bool.false_ne_true]
  unfold boundAndCalled
  rw [PySem.F.excAttr_ValueError.ga.bind (.ref x)]
  refine wpAny_bind (wpAny_pure ?_)
  show wpAny _ _ (call (.builtin "BaseException.__getattribute__") [.ref x, .str "__class__" tk]) _ _ _
  refine wpAny_call (codeAny_call_builtin PySem.F.excAttr_ValueError.ga.plain PySem.F.entry_bexc_ga ?_)
  refine @check_slot (model prog w) _ _ ⟨hp, gg, dd, tk + 1, os⟩ "BaseException.__getattribute__" "BaseException" "__getattribute__" (.ref x) [.str "__class__" tk] [] _ (by decide +kernel) (by decide +kernel) sub (PySem.F.args_bexc_ga (.ref x) (.str "__class__" tk)) ?_
  unfold Builtin.«object.__getattribute__»
  refine wpAny_bind (wpAny_of_eq (a := ((Value.ref x : Value), [Value.str "__class__" tk])) (by first | rfl | (simp only [slotArgs]; rfl)) ?_)
  refine wpAny_bind (wpAny_pure (wpAny_bind (T0.at (wpAny_bind (T3.at ?_)))))
  show wpAny _ _ (holding [Value.builtin "object.__class__"] (call (.builtin "getset_descriptor.__get__") [.builtin "object.__class__", .ref x, .ref D]) >>= ret) _ _ _
  refine wpAny_bind (wpAny_holding (wpAny_call (class_get (s := ⟨hp, gg, dd, tk + 1, os⟩) (ox := ox) (od := od) X I hm ?_)))
  refine wpAny_pure ?_
  show wpAny _ _ (handedOut (.ref D)) _ _ _
  rw [handedOut_of (v := .ref D) rfl]
  first
    | exact wpAny_pure (wpAny_pure h)
    | exact wpAny_pure h
    | exact wpAny_pure (wpAny_bind (wpAny_pure (wpAny_pure h)))
theorem kitx_excD (C : L2.ExcC K D) : KitX K (.ref x) (.ref D) (fun h => ∃ od, InstAt h x ox D od) where
  ty := fun _ _ _ ⟨_, I⟩ => I.type
  it := fun _ _ X _ => by
    obtain ⟨cdD, hcD, _⟩ := any_some C.hd
    unfold clsIn at hcD
    split at hcD
    · rename_i c' d' cd' sl' ho
      intro A' Q' E' s' k q
      unfold isType loadHead
      exact wpAny_bind (wpAny_loadPart (k _ _ (X _ _ ho)) (wpAny_pure q))
    · cases hcD
  ne := fun h tp dd its n sl X htp => by
    obtain ⟨cdD, hcD, _⟩ := any_some C.hd
    refine Bool.eq_false_iff.mpr fun q => ?_
    have e : D = tp := Value.ref.inj (beq_iff_eq.mp q)
    subst e
    unfold clsIn at hcD
    split at hcD
    · rename_i c' d' cd' sl' ho
      have z := (X _ _ ho).symm.trans htp
      cases z
    · cases hcD
  ca := fun X ⟨_, I⟩ k => kin_classD C X I k
end
end PySem.W
namespace L3
open PySem PySem.Spec PyProof.Rows L2
/-- isinstance(e, c), the error's attributes known to be there -/
def rIsEd (K : PySem.W.Frag) (Dc a : Addr) (d : Option Addr) : List V → Hp → VK → Prop := fun xs H Q => ∃ (c : V) (cv : Value) (b : Bool), xs = [.ref a, c] ∧ (∀ u, L2.RelV c u → u = cv) ∧ PySem.W.kitOne K (.ref Dc) cv = some b ∧ (∀ dd, d = some dd → ∃ fs, H dd = some (.xd fs)) ∧ Q (.bl b) H
theorem call_isEd {X : Cx} {a Dc : Addr} {oe : Obj} {d : Option Addr} {pn : List (Addr × Obj)} (C : ExcC X.K Dc) (hz : Zc (.ref Dc) d oe) (hf : ∃ vs, oe.data = .fields vs) : CallR (X.suite a ((a, oe) :: pn)) (.builtin "isinstance") (rIsEd X.K Dc a d) := by
  intro pins s σ H xs us Q I r h
  obtain ⟨c, cv, b, rfl, hcv, e, hd, q⟩ := h
  cases r with
  | cons rx rr =>
    cases rr with
    | cons rt rr =>
      cases rr
      cases rx
      have ec := hcv _ rt
      subst ec
      obtain ⟨hget, _⟩ := I.pin (a, oe) (List.mem_append.mpr (.inl List.mem_cons_self))
      obtain ⟨vs, hv⟩ := hf
      have J : ∃ od, PySem.W.InstAt s.heap a oe Dc od := by
        obtain ⟨oc, ods, oda, osl⟩ := oe
        obtain ⟨h1, h2⟩ := hz
        dsimp only at h1 h2 hv
        subst h1 h2 hv
        cases ods with
        | none => exact ⟨none, hget, rfl, rfl, trivial⟩
        | some dd =>
          obtain ⟨fs, hx⟩ := hd dd rfl
          have y : ObjOk X.prog X.w H s.heap dd (.xd fs) := I.hok dd _ hx
          obtain ⟨mA, ⟨o, _, _, ho, _⟩, _⟩ := y
          exact ⟨some o, hget, rfl, rfl, ho⟩
      exact PySem.W.kia_one (PySem.W.kitx_excD C) I.kIn J e (fun z => nomatch z) fun tk => ⟨.bl b, H, I.kept (t' := tk) fun _ _ z => z, rfl, q⟩
/-! ### expressions that lean on the attributes -/
def upF (K : PySem.W.Frag) (d : Option Addr) (fs : List (Str × D)) (f : RX) : TE := fun σ H Q => ∃ S μ ρ R, XF K d fs S ∧ OK K S μ H ∧ RepE K S σ ρ ∧ f ρ μ R ∧ Pst K S μ H R Q
def upTF (K : PySem.W.Frag) (d : Option Addr) (fs : List (Str × D)) (f : RT) : TT := fun σ H Q => ∃ S μ ρ R, XF K d fs S ∧ OK K S μ H ∧ RepE K S σ ρ ∧ f ρ μ R ∧ ∀ S' μ' H' b, OK K S' μ' H' → Stp S μ H S' μ' H' → R b μ' → Q b H'
def upAF (K : PySem.W.Frag) (d : Option Addr) (fs : List (Str × D)) (f : RA) : TA := fun σ H Q => ∃ S μ ρ R, XF K d fs S ∧ OK K S μ H ∧ RepE K S σ ρ ∧ f ρ μ R ∧ ∀ S' μ' H' vs ds, OK K S' μ' H' → Stp S μ H S' μ' H' → Reps K S' vs ds → R ds μ' → Q vs H'
abbrev DEF (X : Cx) (d : Option Addr) (fs : List (Str × D)) (e : Expr) (f : RX) : Prop := PE X e (upF X.K d fs f)
abbrev DTF (X : Cx) (d : Option Addr) (fs : List (Str × D)) (e : Expr) (f : RT) : Prop := PT X e (upTF X.K d fs f)
abbrev DWF (X : Cx) (d : Option Addr) (fs : List (Str × D)) (e : Expr) (f : RT) : Prop := PW X e (upTF X.K d fs f)
abbrev DAF (X : Cx) (d : Option Addr) (fs : List (Str × D)) (es : List Expr) (f : RA) : Prop := PA X es (upAF X.K d fs f)
section
variable {X : Cx} {d : Option Addr} {fs : List (Str × D)} {e a b c : Expr} {es rest : List Expr} {fe fa fb : RX} {fr : RA} {ta tb ft : RT} {st0 : Stmt} {as bs : List Stmt} {f g : RS} {pos p p2 : Pos}
theorem def_no (h : DE X e fe) : DEF X d fs e fe := pe_imp h fun σ H Q ⟨S, μ, ρ, R, _, k, e, h, post⟩ => ⟨S, μ, ρ, R, k, e, h, post⟩
theorem dtf_no (h : DT X e ft) : DTF X d fs e ft := pt_imp h fun σ H Q ⟨S, μ, ρ, R, _, k, e, h, post⟩ => ⟨S, μ, ρ, R, k, e, h, post⟩
theorem daf_nil : DAF X d fs [] rNil := pa_imp pa_nil fun σ H Q ⟨S, μ, ρ, R, _, k, e, h, post⟩ => post S μ H [] [] k .refl .nil h
theorem daf_cons (ha : DEF X d fs e fe) (hr : DAF X d fs es fr) (hs : starEach (e :: es) X.env = (false, eval e X.env) :: starEach es X.env := by rfl) : DAF X d fs (e :: es) (rCons fe fr) := pa_imp (pa_cons ha hr hs) fun σ H Q ⟨S, μ, ρ, R, x, k, e, h, post⟩ => by
  refine ⟨S, μ, ρ, _, x, k, e, h, fun S1 μ1 H1 v1 d1 k1 s1 r1 h1 => ?_⟩
  exact ⟨S1, μ1, ρ, _, x.mono s1.same, k1, e.mono s1.same, h1, fun S2 μ2 H2 vs ds k2 s2 r2 h2 => post S2 μ2 H2 _ _ k2 (s1.trans s2) (.cons (r1.mono s2.same) r2) h2⟩
theorem def_lst (h : DAF X d fs es fr) : DEF X d fs (.List es pos) (rLst fr) := pe_imp (pe_lst h) fun σ H Q ⟨S, μ, ρ, R, x, k, e, h, post⟩ => by
  refine ⟨S, μ, ρ, _, x, k, e, h, fun S1 μ1 H1 vs ds k1 s1 r1 h1 => ⟨by rw [r1.length]; exact h1.1, fun p hp => ?_⟩⟩
  obtain ⟨k2, s2⟩ := k1.alloc (o := .lst vs) hp
  exact post _ _ _ _ _ k2 (s1.trans s2) (.lst upd_same (r1.mono s2.same)) h1.2
theorem def_op {op : Operator} {r : R2} {g : G2} (ho : OpR X (binaryOp op) r) (s : Snd2 X.K r g) (ha : DEF X d fs a fa) (hb : DEF X d fs b fb) : DEF X d fs (.BinOp a op b pos) (rOp g fa fb) := pe_imp (pe_op ho ha hb) fun σ H Q ⟨S, μ, ρ, R, x, k, e, h, post⟩ => by
  refine ⟨S, μ, ρ, _, x, k, e, h, fun S1 μ1 H1 v1 d1 k1 s1 r1 h1 => ?_⟩
  refine ⟨S1, μ1, ρ, _, x.mono s1.same, k1, e.mono s1.same, h1, fun S2 μ2 H2 v2 d2 k2 s2 r2 h2 => ?_⟩
  exact s S2 μ2 H2 v1 v2 d1 d2 R Q k2 (r1.mono s2.same) r2 h2 fun S3 μ3 H3 v d k3 s3 r3 h3 => post S3 μ3 H3 v d k3 ((s1.trans s2).trans s3) r3 h3
theorem def_add (ha : DEF X d fs a fa) (hb : DEF X d fs b fb) : DEF X d fs (.BinOp a .Add b pos) (rOp gAdd fa fb) := def_op (op_add.or (op_add_str.or (op_catA.or op_cat))) snd_add ha hb
theorem dtf_val (h : DEF X d fs a fa) (he : ∀ whole, isTrue a X.env whole = (do let v ← whole; standAt a.pos; holding [v] (truthy v)) := by intro _; rfl) : DTF X d fs a (rB fa) := pt_imp (pt_val h he) fun σ H Q ⟨S, μ, ρ, R, x, k, e, h, post⟩ => by
  refine ⟨S, μ, ρ, _, x, k, e, h, fun S1 μ1 H1 v1 d1 k1 s1 r1 h1 => ?_⟩
  cases d1 <;> first | exact False.elim h1 | skip
  exact ⟨_, r1.toBl, post S1 μ1 H1 _ k1 s1 h1⟩
theorem dtf_not (ha : DTF X d fs a ta) : DTF X d fs (.UnaryOp .Not a pos) (rNot ta) := pt_imp (pt_not ha) fun σ H Q ⟨S, μ, ρ, R, x, k, e, h, post⟩ =>
  ⟨S, μ, ρ, _, x, k, e, h, fun S1 μ1 H1 b1 k1 s1 h1 => post S1 μ1 H1 _ k1 s1 h1⟩
theorem dwf_or1 (ha : DTF X d fs a ta) : DWF X d fs (.BoolOp .Or [a] pos) ta := pw_or1 ha
theorem dwf_or (ha : DTF X d fs a ta) (hb : DWF X d fs (.BoolOp .Or (b :: rest) pos) tb) : DWF X d fs (.BoolOp .Or (a :: b :: rest) pos) (rOr ta tb) := pw_imp (pw_or ha hb) fun σ H Q ⟨S, μ, ρ, R, x, k, e, h, post⟩ => by
  refine ⟨S, μ, ρ, _, x, k, e, h, fun S1 μ1 H1 b1 k1 s1 h1 => ?_⟩
  cases b1 with
  | true => rw [if_pos rfl] at h1 ⊢; exact post S1 μ1 H1 _ k1 s1 h1
  | false => rw [if_neg Bool.false_ne_true] at h1 ⊢; exact ⟨S1, μ1, ρ, _, x.mono s1.same, k1, e.mono s1.same, h1, fun S2 μ2 H2 b2 k2 s2 h2 => post S2 μ2 H2 b2 k2 (s1.trans s2) h2⟩
theorem dtf_w (h : DWF X d fs a ta) : DTF X d fs a ta := PW.pt h
theorem dsf_ifF (hc : DTF X d fs c ft) (ha : DSsF X d fs as f) (hb : DSsF X d fs bs g) : DSF X d fs (.If c as bs pos) (rIf ft f g) := ps_imp (ps_if hc ha hb) fun D σ H ⟨S, μ, ρ, DD, x, k, e, h, l⟩ => by
  refine ⟨S, μ, ρ, _, x, k, e, h, fun S1 μ1 H1 b1 k1 s1 h1 => ?_⟩
  cases b1 with
  | true => rw [if_pos rfl] at h1 ⊢; exact ⟨S1, μ1, ρ, DD, x.mono s1.same, k1, e.mono s1.same, h1, l.stp s1⟩
  | false => rw [if_neg Bool.false_ne_true] at h1 ⊢; exact ⟨S1, μ1, ρ, DD, x.mono s1.same, k1, e.mono s1.same, h1, l.stp s1⟩
theorem dsf_set {i : Nat} {x : Str} {pos' : Pos} (hN : X.N.Nodup) (he : DEF X d fs e fe) (hi : X.N[i]? = some x := by rfl) (hx : Loc X.env.scope x := by first | exact Or.inl rfl | exact Or.inr rfl) (hs : swapsWith e (some (.Name x pos')) pos.line X.env = pure false := by rfl)
    (hf : X.fn x = true ∨ X.env.scope.names.lookup x = some .local := by first | exact .inl rfl | exact .inr rfl) : DSF X d fs (.Assign [.Name x pos'] e pos) (rAsg fe (rGN i)) := ps_imp (ps_set hN hi hx he hs hf) fun D σ H ⟨S, μ, ρ, DD, x, k, e, h, l⟩ =>
  ⟨S, μ, ρ, _, x, k, e, h, fun S1 μ1 H1 v d k1 s1 r1 q1 => l.nx S1 μ1 H1 _ _ k1 s1 ((e.mono s1.same).set r1 i) q1⟩
end
section
variable {X : Cx} {a Dc c : Addr} {oe : Obj} {d : Option Addr} {fs : List (Str × D)} {pn : List (Addr × Obj)} {x : Str} {e : Expr} {fe : RX} {b : Bool} {p p2 pos : Pos}
theorem XF.dict {K : PySem.W.Frag} {S H : Hp} {μ : MH} (hd : d = none ↔ fs = []) (x : XF K d fs S) (k : OK K S μ H) : ∀ dd, d = some dd → ∃ fs, H dd = some (.xd fs) := fun dd e => by
  rcases x with x | ⟨dd', vfs, e2, h1, _⟩
  · rw [hd.mpr x] at e; cases e
  · rw [e2] at e
    cases e
    exact ⟨vfs, k.sub _ _ h1⟩
theorem def_isE (hd2 : d = none ↔ fs = []) (hm : X.mg "isinstance" = none) (hg : Gl X "isinstance") (C : ExcC X.K Dc) (hz : Zc (.ref Dc) d oe) (hf : ∃ vs, oe.data = .fields vs) (gC : X.mg x = some (.ref c)) (hk : PySem.W.kitOne X.K (.ref Dc) (.ref c) = some b) (hgx : Gl X x)
    (ha : DE (X.suite a ((a, oe) :: pn)) e fe) (hd : (x == ("__debug__" : Str)) = false := by decide)
    (he : starEach [e, .Name x p2] X.env = (false, eval e X.env) :: starEach [.Name x p2] X.env := by rfl) (he2 : starEach [.Name x p2] X.env = (false, eval (.Name x p2) X.env) :: starEach [] X.env := by rfl) (hpl : (backTo pos (starEach [.Name x p2] X.env)).any (·.1) = false := by rfl) :
    DEF (X.suite a ((a, oe) :: pn)) d fs (.Call (.Name "isinstance" p) [e, .Name x p2] [] pos) (rIsEx a b fe) :=
  pe_imp (pe_callB (X := X.suite a ((a, oe) :: pn)) (call_isEd C hz hf) hg hm (by decide +kernel) (pa_cons ha (pa_cons (pe_glob (v := .ref c) hgx gC rfl hd) pa_nil he2) he) (by decide) (by decide) he hpl) fun σ H Q ⟨S, μ, ρ, R, y, k, e, h, post⟩ => by
    refine ⟨S, μ, ρ, _, k, e, h, fun S1 μ1 H1 v1 d1 k1 s1 r1 h1 => ?_⟩
    obtain ⟨rfl, h1⟩ := h1
    cases r1.toRef
    exact ⟨.ref c, .ref c, b, rfl, fun u ru => ru, hk, (y.mono s1.same).dict hd2 k1, post S1 μ1 H1 _ _ k1 s1 (.bl b) h1⟩
theorem def_isEV {n : String} (hd2 : d = none ↔ fs = []) (hm : X.mg "isinstance" = none) (hg : Gl X "isinstance") (C : ExcC X.K Dc) (hz : Zc (.ref Dc) d oe) (hf : ∃ vs, oe.data = .fields vs) (gC : X.mg x = none) (hv : bootBuiltins x = some (.type n)) (hk : PySem.W.kitOne X.K (.ref Dc) (.type n) = some b) (hgx : Gl X x)
    (ha : DE (X.suite a ((a, oe) :: pn)) e fe) (hd : (x == ("__debug__" : Str)) = false := by decide) (hn : x ≠ "__name__" := by decide)
    (he : starEach [e, .Name x p2] X.env = (false, eval e X.env) :: starEach [.Name x p2] X.env := by rfl) (he2 : starEach [.Name x p2] X.env = (false, eval (.Name x p2) X.env) :: starEach [] X.env := by rfl) (hpl : (backTo pos (starEach [.Name x p2] X.env)).any (·.1) = false := by rfl) :
    DEF (X.suite a ((a, oe) :: pn)) d fs (.Call (.Name "isinstance" p) [e, .Name x p2] [] pos) (rIsEx a b fe) :=
  pe_imp (pe_callB (X := X.suite a ((a, oe) :: pn)) (call_isEd C hz hf) hg hm (by decide +kernel) (pa_cons ha (pa_cons (de_ty (X := X.suite a ((a, oe) :: pn)) hgx gC hv hn hd) pa_nil he2) he) (by decide) (by decide) he hpl) fun σ H Q ⟨S, μ, ρ, R, y, k, e, h, post⟩ => by
    refine ⟨S, μ, ρ, _, k, e, h, fun S1 μ1 H1 v1 d1 k1 s1 r1 h1 => ?_⟩
    obtain ⟨rfl, h1⟩ := h1
    cases r1.toRef
    refine ⟨S1, μ1, ρ, fun d μ' => d = .ty n ∧ μ' = μ1, k1, e.mono s1.same, ⟨rfl, rfl⟩, fun S2 μ2 H2 v d k2 s2 r2 h2 => ?_⟩
    obtain ⟨rfl, rfl⟩ := h2
    have ev : v = .ty n := by cases r2; rfl
    subst ev
    exact ⟨.ty n, .type n, b, rfl, fun u ru => ru, hk, (y.mono (s1.same.trans s2.same)).dict hd2 k2, post S2 μ2 H2 _ _ k2 (s1.trans s2) (.bl b) h1⟩
end
end L3

/-! ## L3y -/
set_option Elab.async false
set_option linter.all false
set_option maxRecDepth 100000
set_option maxHeartbeats 4000000
/-! The head's look at classes of errors with attributes. -/
namespace L3
open PySem PySem.Spec PyProof.Rows L2
structure FnY where
  cls : Str
  qual : Str
  params : Arguments
  body : List Stmt
  scope : Scope
  file : Str
  names : List Str
def FnY.C (K : PySem.W.Frag) (d : FnY) : Addr := He.ga K d.cls
def FnY.f (K : PySem.W.Frag) (d : FnY) : Addr := He.ma K (d.C K) "__init__"
abbrev FyV : Type := Option ((Str × Str × Scope) × (Arguments × FuncBody) × (Addr × Addr) × List Str)
def fyOf (fd : FuncData) : FyV := some ((fd.name, fd.qualname, fd.scope), (fd.params, fd.body), (fd.globals, fd.builtins), fd.closure.map (·.1))
def FnY.obs (K : PySem.W.Frag) (d : FnY) : FyV := (K.lookup (d.f K)).bind fun o => match o with
  | ⟨_, _, .func fd, _⟩ => fyOf fd
  | _ => none
def FnY.val (d : FnY) : FyV := some (("__init__", d.qual, d.scope), (d.params, .stmts d.body), (mainGlobals, builtinsNs), ["__class__"])
def cellOf (K : PySem.W.Frag) (f : Addr) : Addr := match K.lookup f with
  | some ⟨_, _, .func fd, _⟩ => (match fd.closure with
    | (_, c) :: _ => c
    | _ => 0)
  | _ => 0
def codeFile (K : PySem.W.Frag) (v : Value) (file : Str) : Bool := match v with
  | .ref cda => (match K.lookup cda with
    | some ⟨_, _, .fields vs, _⟩ => (match (vs[2]? : Option Value) with
      | some (.str x _) => file == x
      | _ => false)
    | _ => false)
  | _ => false
def oexB (K : PySem.W.Frag) (C : Addr) : Bool := (match K.lookup C with
  | some ⟨.type "type", _, .cls cd, sl⟩ => (match cd.mro, sl.toList with
    | .ref C' :: bm, [_, _, _, _, some (.builtin n), _] => C' == C && (n == "ValueError.__new__" && (!cd.hasDel && (cd.hasDict && PySem.HandSPX.refsVE bm)))
    | _, _ => false)
  | _ => false) && (decide (PySem.W.findIn K (.ref C) "__setattr__" = some (some (.builtin "object.__setattr__"))) && (decide (PySem.W.subIn K (.ref C) (.type "BaseException") = some true) && (decide (PySem.W.typeIn K (.ref C) = some (.type "type")) && PySem.W.keepIn K (.ref C))))
def FnY.ok (K : PySem.W.Frag) (d : FnY) : Bool :=
  (match K.lookup (d.f K) with
    | some ⟨_, _, .func fd, _⟩ => PySem.W.codeIn K fd.code d.qual && (codeFile K fd.code d.file && decide (fd.defaults = .none))
    | _ => false) && ((match K.lookup (cellOf K (d.f K)) with
    | some ⟨_, _, .cell (some v), _⟩ => decide (v = .ref (d.C K))
    | _ => false) && ((PySem.W.clsIn K (d.C K)).isSome && (decide (PySem.W.mroIn K (d.C K) (.ref (d.C K)) = some true) && (decide (PySem.W.ks_superIn K (d.C K) (d.C K) "__init__" = some (some (.builtin "ValueError.__init__"))) &&
  (decide (PySem.W.subIn K (.ref (d.C K)) (.type "ValueError") = some true) && (decide (PySem.W.nsIn K cStatics "thirdparty.any" = some none) && (oexB K (d.C K) && (decide (PySem.W.findIn K (.ref (d.C K)) "__init__" = some (some (.ref (d.f K)))) && (decide (PySem.W.typeIn K (.ref (d.f K)) = some (.type "function")) &&
  d.names.all fun n => decide (PySem.W.findIn K (.ref (d.C K)) n = some none))))))))))
/-- what the head says of the class -/
structure GotY (P : Program) (K : PySem.W.Frag) (mg : Str → Option Value) (d : FnY) : Prop where
  lk : ∃ oc od osl kV doc pm an cd ct, K.lookup (d.f K) = some ⟨oc, od, .func (PySem.W.ksFn "__init__" d.qual d.params d.body d.scope .none kV doc pm an cd ct (cellOf K (d.f K))), osl⟩ ∧ PySem.W.codeIn K cd d.qual = true ∧ SupK P K mg (d.f K) (cellOf K (d.f K)) (d.C K) cd "self"
  init : PySem.W.findIn K (.ref (d.C K)) "__init__" = some (some (.ref (d.f K)))
  typ : PySem.W.typeIn K (.ref (d.f K)) = some (.type "function")
  no : ∀ n ∈ d.names, PySem.W.findIn K (.ref (d.C K)) n = some none
theorem GotY.binds {P : Program} {K : PySem.W.Frag} {mg : Str → Option Value} {d : FnY} {ps : List Str} {kV doc pm cd ct : Value} {an : Option Addr} {cc : Addr}
    (h : ∀ us : List Value, us.length = ps.length → bindArgs (PySem.W.ksFn "__init__" d.qual d.params d.body d.scope .none kV doc pm an cd ct cc) ⟨us, []⟩ = pure (ps.zip us)) : L2.Binds K (PySem.W.ksFn "__init__" d.qual d.params d.body d.scope .none kV doc pm an cd ct cc) ps [] := .all h
/-! ### what the module's names reach, each once: the seen addresses are the bits of a number -/
def newM : List Addr → Nat → List Addr → List Addr × Nat
  | [], m, acc => (acc, m)
  | a :: r, m, acc => match Nat.beq (Nat.mod (Nat.shiftRight m a) 2) 1 with
    | true => newM r m acc
    | false => newM r (Nat.lor m (Nat.shiftLeft 1 a)) (a :: acc)
def layM (g : Addr → Option Obj) : Nat → List Addr → Nat → List Addr → List Addr
  | 0, _, _, all => all
  | n + 1, front, m, all => match newM (front.flatMap fun a => match g a with
      | some o => He.refsD o
      | none => []) m [] with
    | (nw, m2) => layM g n nw m2 (all ++ nw)
def asM (g : Addr → Option Obj) (n : Nat) : List Addr := layM g n [mainGlobals] (Nat.shiftLeft 1 mainGlobals) [mainGlobals]
/-! ### the hook with such classes -/
abbrev AlU : Type := (AlX × Bool) × Bool × List FyV
/-- the head's part of the heap, the interpreter's own table among it -/
def frU (n : Nat) (g : Addr → Option Obj) : PySem.W.Frag := He.frT g (cStatics :: asM g n)
def obsXU (xb : List (PySem.W.Frag → Bool)) (fa : List He.Fa) (fn : List He.DefD) (fx : List FnX) (fy : List FnY) (n : Nat) (g : Addr → Option Obj) : AlU := ((obsX xb fa fn fx (frU n g), He.tabsB g [lawDf] (frU n g)), fy.all (fun d => d.ok (frU n g)), fy.map fun d => d.obs (frU n g))
def valXU (fn : List He.DefD) (fx : List FnX) (fy : List FnY) : AlU := ((valX fn fx, true), true, fy.map FnY.val)
/-- what is said of K -/
def SaysU (xb : List (PySem.W.Frag → Bool)) (fa : List He.Fa) (fn : List He.DefD) (fx : List FnX) (fy : List FnY) (K : PySem.W.Frag) : Prop := obsX xb fa fn fx K = valX fn fx ∧ (∀ d ∈ fy, d.ok K = true ∧ d.obs K = d.val)
def hookXU (n : Nat) (xb : List (PySem.W.Frag → Bool)) (fa : List He.Fa) (fn : List He.DefD) (fx : List FnX) (fy : List FnY) : PySem.W.Hook where
  α := AlU
  obs := fun s => obsXU xb fa fn fx fy n s.heap.get?
  val := fun _ => valXU fn fx fy
  says := fun _ h => ∃ K : PySem.W.Frag, K.In h ∧ SaysU xb fa fn fx fy K ∧ PySem.W.codeHdIn K (lawC K) (lawP K) = true ∧ K.lookup (lawP K) = none ∧ h.get? (lawP K) = some { cls := .none, data := .fields #[] }
  of := fun w s e => by
    have e1 : obsX xb fa fn fx (frU n s.heap.get?) = valX fn fx := congrArg (fun z : AlU => z.1.1) e
    have e2 : He.tabsB s.heap.get? [lawDf] (frU n s.heap.get?) = true := congrArg (fun z : AlU => z.1.2) e
    have e3 : fy.all (fun d => d.ok (frU n s.heap.get?)) = true := congrArg (fun z : AlU => z.2.1) e
    have e4 : (fy.map fun d => d.obs (frU n s.heap.get?)) = fy.map FnY.val := congrArg (fun z : AlU => z.2.2) e
    refine ⟨_, He.frT_in, ⟨e1, fun d hd => ⟨List.all_eq_true.mp e3 d hd, ?_⟩⟩, ?_⟩
    · obtain ⟨i, hi⟩ := List.mem_iff_getElem?.mp hd
      have e5 : (fy.map fun d => d.obs (frU n s.heap.get?))[i]? = (fy.map FnY.val)[i]? := by rw [e4]
      rw [List.getElem?_map, List.getElem?_map, hi] at e5
      exact Option.some.inj e5
    · obtain ⟨h3, h4⟩ := Bool.and_eq_true_iff.mp (List.all_eq_true.mp e2 lawDf (by simp))
      refine ⟨h3, ?_⟩
      cases q : s.heap.get? (He.cT (frU n s.heap.get?) lawDf).2 with
      | none => rw [q] at h4; cases h4
      | some o =>
        rw [q] at h4
        exact ⟨He.frT_none q h4, by unfold lawP; rw [show (He.frT s.heap.get? (cStatics :: asM s.heap.get? n)) = frU n s.heap.get? from rfl, q, He.emptyTab_eq h4]⟩
  keeps := fun _ _ _ ⟨K, hK, c, h1, h2, h3⟩ k => ⟨K, hK.keeps k, c, h1, h2, k _ _ h3⟩
theorem obsXU_eq {n : Nat} {xb : List (PySem.W.Frag → Bool)} {fa : List He.Fa} {fn : List He.DefD} {fx : List FnX} {fy : List FnY} (s : PySem.W.SharedT) : obsXU xb fa fn fx fy n (HandSHeadRun.getT s) = (hookXU n xb fa fn fx fy).obs s.abs := by
  have e : HandSHeadRun.getT s = s.abs.heap.get? := funext (HandSHeadRun.getT_eq s)
  rw [e]
  rfl
/-! ### what is told of errors -/
def attrNs : Nat → List Str
  | 4 => ["index"]
  | 7 => ["arm", "stroke", "part"]
  | 12 => ["row", "word"]
  | 13 => ["row", "reason"]
  | 16 => ["place"]
  | 19 => ["place"]
  | _ => []
def attrAll : List Str := ["index", "arm", "stroke", "part", "row", "word", "reason", "place"]
structure ErrA (K : PySem.W.Frag) (C CE : Addr) (gx : Str → Addr) (m : Nat) : Prop where
  k : ErrK K C CE gx m
  xf : XfC K C
  no : ∀ f ∈ attrAll, PySem.W.findIn K (.ref C) f = some none
theorem ErrA.at {K : PySem.W.Frag} {C CE : Addr} {gx : Str → Addr} {m : Nat} (e : ErrA K C CE gx m) (f : Str) (h : f ∈ attrAll) : XfA K C f := ⟨e.xf, e.no f h⟩
def errAB (K : PySem.W.Frag) (C CE : Addr) (gx : Str → Addr) (m : Nat) : Bool := errB K C CE gx m && (xfB K C && attrAll.all fun f => decide (PySem.W.findIn K (.ref C) f = some none))
theorem errAB_ok {K : PySem.W.Frag} {C CE : Addr} {gx : Str → Addr} {m : Nat} (h : errAB K C CE gx m = true) : ErrA K C CE gx m := by
  unfold errAB at h
  simp only [Bool.and_eq_true, List.all_eq_true, decide_eq_true_eq] at h
  exact ⟨errB_ok h.1, xfB_ok h.2.1, h.2.2⟩
end L3

/-! ## L4h -/
set_option Elab.async false
set_option linter.all false
/-! The head's run in three looks, joined. -/
namespace L3
open PySem PySem.W PySem.Spec PyProof.Rows L2
theorem map3 {S A B C : Type} {a : S → A} {b : S → B} {c : S → C} {x : A} {y : B} {z : C} : ∀ {o : Option S}, o.map a = some x → o.map b = some y → o.map c = some z → o.map (fun s => (a s, b s, c s)) = some (x, y, z)
  | none, h, _, _ => nomatch h
  | some s, h1, h2, h3 => by
    cases h1
    cases h2
    cases h3
    rfl
def Look1 (r : OpenRow) (M : Nat) (w : World) : Prop := ∀ os : OsState, (HandSHeadRun.endF (HandSHeadRun.stepQ (HandSHeadRun.denQ HandSHeadRun.tabQ) r.prog w) M r.prog w os).map (fun s => HandSHeadRun.looksF r.prog (boot_heap w.params) s.abs) = some true
def Look2 (r : OpenRow) (q : Program) (M : Nat) (loose : List PySem.Str) (w : World) : Prop := ∀ os : OsState, (HandSHeadRun.endF (HandSHeadRun.stepQ (HandSHeadRun.denQ HandSHeadRun.tabQ) r.prog w) M r.prog w os).map (fun s => HandSHeadRun.seenQ q loose (importedModules r.prog.main.body) (fun s => xlAt q [] s && recOk r.toRowW.records s) s.abs) = some (openGood q loose)
def Look3 (r : OpenRow) (H : Hook) (ob : SharedT → H.α) (M : Nat) (w : World) : Prop := ∀ os : OsState, (HandSHeadRun.endF (HandSHeadRun.stepQ (HandSHeadRun.denQ HandSHeadRun.tabQ) r.prog w) M r.prog w os).map (fun s => ob s) = some (H.val w)
theorem runEq_of {r : OpenRow} {q : Program} {H : Hook} {ob : SharedT → H.α} {M : Nat} {loose : List PySem.Str} {w : World} (h1 : Look1 r M w) (h2 : Look2 r q M loose w) (h3 : Look3 r H ob M w) : HandSHeadRun.RunEq r q H ob M loose w := fun os => map3 (h1 os) (h2 os) (h3 os)
end L3

/-! ## L3z -/
set_option Elab.async false
set_option linter.all false
set_option maxRecDepth 100000
set_option maxHeartbeats 4000000
/-! list(range(..)), o[i] by an own __getitem__, x not in a list, == with what is of another kind. -/
theorem L2.Room.u65 {k : Nat} {A : PySem.Around} (r : L2.Room k A) : A.units + 65 < PySem.cLine := by have := r.un; omega
namespace L3
open PySem PySem.Spec PyProof.Rows L2
def rLRg2 (fa fb : RX) : RX := fun ρ μ R => fa ρ μ fun x μ1 => fb ρ μ1 fun y μ2 => match x, y with
  | .int i, .int j => RgOk i j ∧ R (.lst (rangeD i (j - i).toNat)) μ2
  | _, _ => False
theorem reps_rg {K : PySem.W.Frag} {S : Hp} : ∀ (n : Nat) (lo : Int), Reps K S ((List.range n).map fun i => V.int (lo + (i : Nat))) (rangeD lo n)
  | 0, _ => .nil
  | n + 1, lo => by
    rw [List.range_succ_eq_map, List.map_cons, List.map_map]
    show Reps K S _ (.int lo :: rangeD (lo + 1) n)
    have e : V.int (lo + ((0 : Nat) : Int)) = V.int lo := by simp
    rw [e]
    refine .cons (.int lo) ?_
    have z := reps_rg (K := K) (S := S) n (lo + 1)
    have e2 : ((List.range n).map fun i => V.int (lo + 1 + (i : Nat))) = (List.range n).map ((fun i : Nat => V.int (lo + (i : Nat))) ∘ Nat.succ) := by
      refine List.map_congr_left fun i _ => ?_
      show V.int _ = V.int _
      congr 1
      simp only [Nat.succ_eq_add_one, Int.natCast_add]
      omega
    rw [e2] at z
    exact z
section
variable {X : Cx} {a b : Expr} {fa fb : RX} {p p2 rpos pos : Pos}
theorem de_listRg2 (hg : Gl X "range") (hm : X.mg "range" = none) (hg2 : Gl X "list") (hm2 : X.mg "list" = none) (ha : DE X a fa) (hb : DE X b fb) (hc : X.calm = true := by rfl) (na : starEach [a, b] X.env = (false, eval a X.env) :: starEach [b] X.env := by rfl)
    (nb0 : starEach [b] X.env = (false, eval b X.env) :: starEach [] X.env := by rfl) (hp : (backTo rpos (starEach [b] X.env)).any (·.1) = false := by rfl)
    (nb : starEach [.Call (.Name "range" p2) [a, b] [] rpos] X.env = (false, eval (.Call (.Name "range" p2) [a, b] [] rpos) X.env) :: starEach [] X.env := by rfl) : DE X (.Call (.Name "list" p) [.Call (.Name "range" p2) [a, b] [] rpos] [] pos) (rLRg2 fa fb) :=
  pe_imp (pe_listRg hc hg2 hm2 (prg_2 hg hm ha hb na nb0 hp) nb) fun σ H Q ⟨S, μ, ρ, R, k, e, h, post⟩ => by
  refine ⟨S, μ, ρ, _, k, e, h, fun S1 μ1 H1 v d k1 s1 r1 h1 => ?_⟩
  refine ⟨S1, μ1, ρ, _, k1, e.mono s1.same, h1, fun S2 μ2 H2 v2 d2 k2 s2 r2 h2 => ?_⟩
  cases d <;> cases d2 <;> first | exact False.elim h2 | skip
  rename_i i j
  cases r1.toInt
  cases r2.toInt
  obtain ⟨ok, h2⟩ := h2
  refine ⟨i, j, rfl, rfl, ok, fun q hq => ?_⟩
  obtain ⟨k3, s3⟩ := k2.alloc (o := .lst (rgV i j)) hq
  exact post _ _ _ _ _ k3 ((s1.trans s2).trans s3) (.lst upd_same (reps_rg (K := X.K) (S := upd S2 q (.lst (rgV i j))) (j - i).toNat i)) h2
end
/-! ### == with what is of another kind -/
section
variable {X : Cx} {k : Nat} {C g : Addr} {okc : Addr → Prop} {s : GN} {a b : Expr} {fa fb : RX} {pos : Pos}
end
/-! ### a list or a tuple walked -/
def iSeqX (K : PySem.W.Frag) (tl : TE) : TI := fun σ H R => tl σ H fun x H1 => ∃ a, x = .ref a ∧ (((∃ xs, SqL K H1 a xs) ∧ R (Itl K a) H1) ∨ ((∃ xs, SqT K H1 a xs) ∧ R (Itt K a) H1))
theorem pi_seq {X : Cx} {tg l : Expr} {tl : TE} (hl : PE X l tl) : PI X tg l (iSeqX X.K tl) := by
  refine ⟨fun pins s σ H R I h => ?_⟩
  refine thn (hl.run pins s σ H _ I h) fun v s1 ⟨x, H1, I1, r1, q1⟩ => ?_
  obtain ⟨a, e, q⟩ := q1
  subst e
  cases r1
  rcases q with ⟨⟨xs, hq⟩, q⟩ | ⟨⟨xs, hq⟩, q⟩
  · obtain ⟨its, rv, p, hz⟩ := I1.list hq
    refine wpAny_pyIter_list p.isList ?_
    refine ⟨s1.heap.objs.size, [s1.heap.objs.size], _, _, H1, rfl, I1.kept (t' := s1.toks) fun b o e => Heap.get?_push_of_some _ e, turn_list a _, ⟨_, Heap.get?_push_size _ rfl, rfl, rfl⟩, fun b hb => ?_, q⟩
    have e : b = s1.heap.objs.size := by simpa using hb
    subst e
    exact I1.fpOk (Nat.le_refl _) (I1.hok.fresh (Nat.le_refl _))
  · obtain ⟨its, rv, p, hz⟩ := I1.tuple hq
    refine wpAny_pyIter_tuple (show s1.heap.IsTuple a its.toArray from p) ?_
    refine ⟨s1.heap.objs.size, [s1.heap.objs.size], _, _, H1, rfl, I1.kept (t' := s1.toks) fun b o e => Heap.get?_push_of_some _ e, turn_tuple a _, ⟨_, Heap.get?_push_size _ rfl, rfl, rfl⟩, fun b hb => ?_, q⟩
    have e : b = s1.heap.objs.size := by simpa using hb
    subst e
    exact I1.fpOk (Nat.le_refl _) (I1.hok.fresh (Nat.le_refl _))
def rISeq (f : RX) : RI := fun ρ μ R => f ρ μ fun d μ1 => match d with
  | .lst ds => R ds tru μ1
  | .scr ds => R ds tru μ1
  | .tup ds => R ds tru μ1
  | .ref p => (match μ1 p with
    | some (.lst ds) => R ds (fun μ => μ p = some (.lst ds)) μ1
    | _ => False)
  | _ => False
theorem di_seq {X : Cx} {tg e : Expr} {fe : RX} (h : DE X e fe) : DI X tg e (rISeq fe) := pi_imp (pi_seq h) fun σ H R ⟨S, μ, ρ, RR, k, e, h, post⟩ => by
  refine ⟨S, μ, ρ, _, k, e, h, fun S1 μ1 H1 v d k1 s1 r1 q1 => ?_⟩
  cases d with
  | lst ds =>
    cases r1 with
    | lst a r =>
      exact ⟨_, rfl, .inl ⟨⟨_, .of (k1.sub _ _ a)⟩, post S1 μ1 H1 _ ds tru k1 s1 (itok_list (vs := []) fun S2 μ2 H2 k2 e2 _ => ⟨_, .of (k2.sub _ _ (e2 _ _ a)), r.mono e2⟩) q1⟩⟩
  | scr ds =>
    cases r1 with
    | scr a r =>
      exact ⟨_, rfl, .inl ⟨⟨_, sqL_same k1.sub a⟩, post S1 μ1 H1 _ ds tru k1 s1 (itok_list (vs := []) fun S2 μ2 H2 k2 e2 _ => ⟨_, sqL_same k2.sub (sqL_same e2 a), r.mono e2⟩) q1⟩⟩
  | tup ds =>
    obtain ⟨a, vs, rfl, h2, r2⟩ := r1.toTup
    exact ⟨a, rfl, .inr ⟨⟨vs, sqT_same k1.sub h2⟩, post S1 μ1 H1 _ ds tru k1 s1 (itok_tup h2 r2) q1⟩⟩
  | ref p =>
    cases r1.toRef
    cases q : μ1 p with
    | none =>
      have q1 : (match μ1 p with | some (.lst ds) => RR ds (fun μ => μ p = some (.lst ds)) μ1 | _ => False) := q1
      rw [q] at q1; exact q1.elim
    | some m =>
      have q1 : (match μ1 p with | some (.lst ds) => RR ds (fun μ => μ p = some (.lst ds)) μ1 | _ => False) := q1
      rw [q] at q1
      cases m with
      | ins _ _ => exact q1.elim
      | tab _ => exact q1.elim
      | dk _ => exact q1.elim
      | dct _ _ => exact q1.elim
      | lst ds =>
        obtain ⟨_, vs, h2, r2⟩ := k1.mts p _ q
        exact ⟨p, rfl, .inl ⟨⟨vs, .of h2⟩, post S1 μ1 H1 _ ds _ k1 s1 (itok_list (vs := []) fun S2 μ2 H2 k2 e2 c2 => by
          obtain ⟨_, vs', h3, r3⟩ := k2.mts p _ c2
          exact ⟨vs', .of h3, r3⟩) q1⟩⟩
  | _ => exact False.elim q1
end L3

/-! ## L4a -/
set_option Elab.async false
set_option linter.all false
set_option maxRecDepth 100000
set_option maxHeartbeats 4000000
/-! == of two tuples of instances with an own __eq__. -/
namespace L3
open PySem PySem.Spec PyProof.Rows L2
section
variable {prog : Program} {w : World} {A : Around} {R : Result → Shared → Prop} {E : Value → Shared → Prop} {s : Shared}
end
/-! ### over data -/
section
variable {X : Cx} {k : Nat} {C g : Addr} {s : GN} {a b : Expr} {fa fb : RX} {pos : Pos}
end
/-! ### what one object holds -/
end L3

/-! ## L4b -/
set_option Elab.async false
set_option linter.all false
set_option maxRecDepth 100000
set_option maxHeartbeats 4000000
/-! Instances made, own operators and calls of instances that may raise. -/
namespace L3
open PySem PySem.Spec PyProof.Rows L2 StX
section
variable {K : PySem.W.Frag} {S H : Hp} {μ : MH} {C : Addr} {s : GX}
end
structure MkGX (P : Program) (w : World) (K : PySem.W.Frag) (mg : Str → Option Value) (base : Heap) (k : Nat) (x : Str) (C : Addr) (s : GX) : Prop where
  ex : ∃ f fd ps, FnOk P w K mg base (L2.CX P w) k f fd ps (spX K s) ∧ mg x = some (.ref C) ∧ Mk K C f ∧ Binds K fd ps []
structure MkKX (P : Program) (w : World) (K : PySem.W.Frag) (mg : Str → Option Value) (base : Heap) (k : Nat) (x : Str) (C : Addr) (s : GX) (n : Nat) (ks : List Str) (gD : List D → List D → List D) : Prop where
  ex : ∃ f fd ps g gV, FnOk P w K mg base (L2.CX P w) k f fd ps (spX K s) ∧ mg x = some (.ref C) ∧ Mk K C f ∧ KBn K fd ps (n + 1) ks g gV ∧
    ∀ (y : V) (b : D) (vs zs : List V) (ds es : List D) (S : Hp), Rep K S y b → Reps K S vs ds → Reps K S zs es → Reps K S (gV (y :: vs) zs) (b :: gD ds es)
structure MkDX (P : Program) (w : World) (K : PySem.W.Frag) (mg : Str → Option Value) (base : Heap) (k : Nat) (x : Str) (C : Addr) (s : GX) (dd : List D) : Prop where
  ex : ∃ f fd ps ds dvs, FnOk P w K mg base (L2.CX P w) k f fd ps (spX K s) ∧ mg x = some (.ref C) ∧ Mk K C f ∧ Binds K fd ps ds ∧ Vals dvs ds ∧ ∀ S, Reps K S dvs dd
structure MkSX (P : Program) (w : World) (K : PySem.W.Frag) (mg : Str → Option Value) (base : Heap) (k : Nat) (x : Str) (C : Addr) (s : GX) : Prop where
  ex : ∃ f, FnR P w K mg base (L2.CX P w) k f (starSp (spX K s)) ∧ mg x = some (.ref C) ∧ Mk K C f
section
variable {X : Cx} {W : WX} {k n m : Nat} {C : Addr} {x : Str} {s : GX} {ks : List Str} {gD : List D → List D → List D} {dd : List D} {e : Expr} {es : List Expr} {kws : List Keyword} {fe : RX} {fa fk : RA} {p pos sp_ : Pos}
end
section
variable {P : Program} {w : World} {K : PySem.W.Frag} {mg : Str → Option Value} {base : Heap}
end
/-! ### own operators and calls of instances -/
theorem MtGX.raw {P : Program} {w : World} {K : PySem.W.Frag} {mg : Str → Option Value} {base : Heap} {k : Nat} {C f : Addr} {s : GX} (F : MtGX P w K mg base k C f s) : FnR P w K mg base (L2.CX P w) k f (spX K s) := by
  obtain ⟨fd, ps, a, b⟩ := F.ex
  have z := a.raw b (dvs := []) .nil
  simp only [List.append_nil] at z
  exact z
section
variable {X : Cx} {W : WX} {k : Nat} {C g : Addr} {s : GX} {a b o e : Expr} {es : List Expr} {fa fb fo : RX} {fes : RA} {pos : Pos}
end
end L3

/-! ## L7b -/
set_option Elab.async false
set_option linter.all false
set_option maxRecDepth 100000
set_option maxHeartbeats 4000000
/-! x not in a list of instances with an own __eq__. -/
namespace L3
open PySem PySem.Spec PyProof.Rows L2
open AutoSeq1 (wpAny_loadPart')
open MeetsSeq MeetsSeq2 MeetsSeq3 SeqRoads2 SeqAt
section
variable {prog : Program} {w : World} {A : Around} {R : Result → Shared → Prop} {E : Value → Shared → Prop}
end
section
variable {X : Cx} {k : Nat} {C g : Addr} {s : GN} {a b : Expr} {fa fb : RX} {pos : Pos}
end
end L3

/-! ## L8a -/
set_option Elab.async false
set_option linter.all false
set_option maxRecDepth 100000
set_option maxHeartbeats 4000000
/-! sorted(xs, key=lambda p: (p[0] * (sc // p[2]), p[1] * (sc // p[2]))): spots in the order of their places. -/
namespace L3
open PySem PySem.Spec PySem.Calls PyProof.Rows L2
/-! ### expressions of ints that change nothing -/
/-- what the lambda's body sees: the spot at a, the scale in the cell c -/
structure KeyI (env : Env) (p : Str) (a c : Addr) (x y d S : Int) (h : Heap) : Prop where
  loc : ∃ m, h.Ns env.locals m ∧ m p = some (.ref a)
  tup : ∃ t1 t2 t3, IsTup h a #[.int x t1, .int y t2, .int d t3]
  cell : ∃ t, h.IsCell c (some (.int S t))
section
variable {prog : Program} {w : World} {A : Around} {env : Env} {p sc : Str} {a c : Addr} {x y d S : Int} {e1 e2 : Expr} {n m : Int} {pos p1 p2 : Pos} {k : Nat}
end
/-! ### the key of a spot -/
/-- the scope of the lambda -/
structure KeySc (p sc : Str) (scope : Scope) : Prop where
  kind : scope.kind = .function
  co : scope.isCoroutine = false
  gen : scope.isGenerator = false
  nc : ∀ y ∈ scope.names, y.2 ≠ .cell
  pl : scope.names.lookup p = some .local
  fr : scope.names.lookup sc = some .free
  all : ∀ y ∈ scope.names, y.2 = .free → y.1 = sc
/-! ### the lambda is called -/
section
variable {prog : Program} {w : World} {A : Around} {p sc qual : Str} {params : Arguments} {body : Expr} {scope : Scope} {cl : List (Str × Addr)} {pm ctv : Value} {f c' a c : Addr} {x y d S : Int} {s : Shared} {E : Value → Shared → Prop}
end
/-! ### sorted(xs, key=lambda ..) -/
section
variable {X : Cx} {i j k : Nat} {xs sc p : Str} {c Pt : Addr} {params : Arguments} {body : Expr} {scope : Scope} {p1 p2 lpos pos kpos : Pos}
end
/-! ### over data -/
section
variable {X : Cx} {i j k : Nat} {xs sc p : Str} {c Pt : Addr} {params : Arguments} {body : Expr} {scope : Scope} {p1 p2 lpos pos kpos : Pos}
end
end L3
namespace L3
open PySem PySem.Spec PySem.Calls PyProof.Rows L2
end L3

/-! ## L8b -/
set_option Elab.async false
set_option linter.all false
set_option maxRecDepth 100000
set_option maxHeartbeats 4000000
/-! The head and the end of a law whose lambda is the one of "ascending". -/
namespace L3
open PySem PySem.Spec PyProof.Rows L2
section
variable {P : Program} {w : World} {K : PySem.W.Frag} {mg : Str → Option Value} {base : Heap}
end
end L3

/-! ## L3u -/
set_option Elab.async false
set_option linter.all false
set_option maxRecDepth 100000
set_option maxHeartbeats 4000000
/-! max, min of two ints; a list many times. -/
namespace L3
open PySem PySem.Spec PyProof.Rows L2
section
variable {K : PySem.W.Frag} {X : Cx}
/-- xs * n -/
def repD (ds : List L3.D) (n : Nat) : List L3.D := (List.replicate n ds).flatten
def gRep : G2 := fun x y μ R => match res μ x, y with
  | .lst ds, .int n => -(2 ^ 62) ≤ n ∧ n < 2 ^ 62 ∧ ds.length * n.toNat ≤ sizeLine ∧ R (.lst (repD ds n.toNat)) μ
  | _, _ => False
theorem reps_rep {S : Hp} {vs : List V} {ds : List L3.D} (r : Reps K S vs ds) : ∀ n : Nat, Reps K S (List.replicate n vs).flatten (repD ds n)
  | 0 => .nil
  | n + 1 => by
    unfold repD
    rw [List.replicate_succ, List.replicate_succ, List.flatten_cons, List.flatten_cons]
    exact r.append (reps_rep r n)
theorem snd_rep : Snd2 K rRep gRep := by
  intro S μ H x y dx dy R Q k rx ry q post
  unfold gRep at q
  cases e1 : res μ dx <;> rw [e1] at q <;> first | exact False.elim q | skip
  rename_i ds
  cases dy <;> first | exact False.elim q | skip
  rename_i n
  obtain ⟨n1, n2, n3, q⟩ := q
  obtain ⟨a, vs, rfl, h1, r1⟩ := res_lst k rx e1
  cases ry.toInt
  refine ⟨a, n, vs, rfl, rfl, h1, by omega, by omega, by rw [r1.length]; exact n3, fun p hp => ?_⟩
  obtain ⟨k2, s2⟩ := k.alloc (o := .lst (List.replicate n.toNat vs).flatten) hp
  exact post _ _ _ _ _ k2 s2 (.lst upd_same ((reps_rep r1 _).mono s2.same)) q
theorem de_rep {a b : Expr} {fa fb : RX} {pos : Pos} (ha : DE X a fa) (hb : DE X b fb) : DE X (.BinOp a .Mult b pos) (rOp gRep fa fb) := de_op op_rep snd_rep ha hb
end
end L3

/-! ## NM -/
set_option maxHeartbeats 1000000
set_option linter.all false
/-! Numbers of two parts: lowest terms, sums, products, by their values in Rat. Plain Lean. -/
namespace NM

structure Num where
  x : Int
  y : Int
  d : Int
  deriving DecidableEq

def gz (a b : Int) : Int := ((Int.gcd a b : Nat) : Int)
/-- the program's: sign * v // g -/
def low (x y d : Int) : Num :=
  let g := gz (gz x y) d
  let s : Int := if 0 < d then 1 else -1
  ⟨(s * x).fdiv g, (s * y).fdiv g, (s * d).fdiv g⟩
/-- the law's: v // (+-g) -/
def lowL (x y d : Int) : Num :=
  let g := gz (gz x y) d
  let g2 := if 0 < d then g else 0 - g
  ⟨x.fdiv g2, y.fdiv g2, d.fdiv g2⟩
/-- in lowest terms, d positive -/
def Can (z : Num) : Prop := 0 < z.d ∧ gz (gz z.x z.y) z.d = 1

theorem gz_dl (a b : Int) : gz a b ∣ a := Int.gcd_dvd_left ..
theorem gz_dr (a b : Int) : gz a b ∣ b := Int.gcd_dvd_right ..
theorem gz_pos {a b : Int} (h : b ≠ 0) : 0 < gz a b := by
  have : Int.gcd a b ≠ 0 := fun e => h (Int.gcd_eq_zero_iff.mp e).2
  unfold gz; omega
theorem dvd_gz {k a b : Int} (h1 : k ∣ a) (h2 : k ∣ b) : k ∣ gz a b := Int.dvd_coe_gcd h1 h2
theorem g3_x (x y d : Int) : gz (gz x y) d ∣ x := Int.dvd_trans (gz_dl _ _) (gz_dl _ _)
theorem g3_y (x y d : Int) : gz (gz x y) d ∣ y := Int.dvd_trans (gz_dl _ _) (gz_dr _ _)
theorem g3_d (x y d : Int) : gz (gz x y) d ∣ d := gz_dr _ _
theorem fdiv_mul' {g k : Int} (h : g ≠ 0) : (g * k).fdiv g = k := by
  rw [Int.fdiv_eq_ediv_of_dvd (Int.dvd_mul_right ..)]
  exact Int.mul_ediv_cancel_left _ h
/-- low as a quotient: v = k * part -/
theorem gz_mul_g (s v : Int) : ∀ k l, s = gz s v * k → v = gz s v * l → 0 < gz s v → Nat.Coprime k.natAbs l.natAbs := by
  intro k l hk hl hg
  have e : Int.gcd (gz s v * k) (gz s v * l) = (gz s v).natAbs * Int.gcd k l := Int.gcd_mul_left ..
  rw [← hk, ← hl] at e
  have e2 : (gz s v).natAbs = Int.gcd s v := by unfold gz; exact Int.natAbs_natCast _
  rw [e2] at e
  have pos : 0 < Int.gcd s v := by rw [← e2]; omega
  have : Int.gcd s v * 1 = Int.gcd s v * Int.gcd k l := by rw [Nat.mul_one]; exact e
  exact (Nat.eq_of_mul_eq_mul_left pos this).symm
theorem low_spec {x y d : Int} (h : d ≠ 0) : ∃ k : Int, k ≠ 0 ∧ x = k * (low x y d).x ∧ y = k * (low x y d).y ∧ d = k * (low x y d).d ∧ 0 < (low x y d).d ∧ k.natAbs = (gz (gz x y) d).natAbs := by
  have hg : 0 < gz (gz x y) d := gz_pos h
  obtain ⟨a, ha⟩ := g3_x x y d
  obtain ⟨b, hb⟩ := g3_y x y d
  obtain ⟨c, hc⟩ := g3_d x y d
  have hgn : gz (gz x y) d ≠ 0 := by omega
  unfold low
  generalize gz (gz x y) d = g at *
  by_cases hd : 0 < d
  · simp only [if_pos hd]
    refine ⟨g, hgn, ?_, ?_, ?_, ?_, rfl⟩
    · rw [Int.one_mul, ha, fdiv_mul' hgn]
    · rw [Int.one_mul, hb, fdiv_mul' hgn]
    · rw [Int.one_mul, hc, fdiv_mul' hgn]
    · rw [Int.one_mul, hc, fdiv_mul' hgn]
      rw [hc] at hd
      exact Int.pos_of_mul_pos_right hd hg
  · simp only [if_neg hd]
    refine ⟨-g, by omega, ?_, ?_, ?_, ?_, by omega⟩
    · rw [ha, show -1 * (g * a) = g * (-a) by grind, fdiv_mul' hgn]; grind
    · rw [hb, show -1 * (g * b) = g * (-b) by grind, fdiv_mul' hgn]; grind
    · rw [hc, show -1 * (g * c) = g * (-c) by grind, fdiv_mul' hgn]; grind
    · rw [hc, show -1 * (g * c) = g * (-c) by grind, fdiv_mul' hgn]
      have : 0 < g * (-c) := by rw [hc] at hd h; grind
      exact Int.pos_of_mul_pos_right this hg
theorem low_can {x y d : Int} (h : d ≠ 0) : Can (low x y d) := by
  obtain ⟨k, hk, ex, ey, ed, hp, hkg⟩ := low_spec (x := x) (y := y) h
  refine ⟨hp, ?_⟩
  generalize low x y d = z at *
  -- k * g' divides all, so it divides g
  have h1 : k * gz (gz z.x z.y) z.d ∣ gz (gz x y) d := by
    refine dvd_gz (dvd_gz ?_ ?_) ?_
    · rw [ex]; exact Int.mul_dvd_mul_left _ (g3_x ..)
    · rw [ey]; exact Int.mul_dvd_mul_left _ (g3_y ..)
    · rw [ed]; exact Int.mul_dvd_mul_left _ (g3_d ..)
  have hg' : 0 < gz (gz z.x z.y) z.d := gz_pos (by omega)
  have h2 := Int.natAbs_dvd_natAbs.mpr h1
  rw [Int.natAbs_mul, ← hkg] at h2
  have hk' : 0 < k.natAbs := by omega
  have h3 : (gz (gz z.x z.y) z.d).natAbs ∣ 1 := by
    obtain ⟨c, hc⟩ := h2
    refine ⟨c, ?_⟩
    have : k.natAbs * 1 = k.natAbs * ((gz (gz z.x z.y) z.d).natAbs * c) := by rw [Nat.mul_one, ← Nat.mul_assoc]; exact hc
    exact Nat.eq_of_mul_eq_mul_left hk' this
  have h4 := Nat.dvd_one.mp h3
  omega
/-- two canonical numbers of one value are one -/
theorem can_ext {a b : Num} (ha : Can a) (hb : Can b) (h1 : a.x * b.d = b.x * a.d) (h2 : a.y * b.d = b.y * a.d) : a = b := by
  obtain ⟨pa, ga⟩ := ha
  obtain ⟨pb, gb⟩ := hb
  -- a.d divides b.d: a.d divides b.d * a.x, b.d * a.y, b.d * a.d
  have key : ∀ (p q : Num), 0 < p.d → gz (gz p.x p.y) p.d = 1 → p.x * q.d = q.x * p.d → p.y * q.d = q.y * p.d → p.d ∣ q.d := by
    intro p q pp gp e1 e2
    have d1 : p.d ∣ p.x * q.d := ⟨q.x, by rw [e1]; exact Int.mul_comm ..⟩
    have d2 : p.d ∣ p.y * q.d := ⟨q.y, by rw [e2]; exact Int.mul_comm ..⟩
    have d3 : p.d ∣ p.d * q.d := ⟨q.d, rfl⟩
    have e : ((Int.gcd (((Int.gcd p.x p.y : Nat) : Int)) p.d : Nat) : Int) = 1 := gp
    have e' : Int.gcd (((Int.gcd p.x p.y : Nat) : Int)) p.d = 1 := by omega
    have m1 : p.d ∣ ((Int.gcd (p.x * q.d) (p.y * q.d) : Nat) : Int) := Int.dvd_coe_gcd d1 d2
    rw [Int.gcd_mul_right] at m1
    have m2 : p.d ∣ ((Int.gcd p.x p.y : Nat) : Int) * q.d := by
      have : (((Int.gcd p.x p.y) * q.d.natAbs : Nat) : Int) = ((Int.gcd p.x p.y : Nat) : Int) * (q.d.natAbs : Int) := by simp
      rw [this] at m1
      rcases Int.natAbs_eq q.d with h | h
      · rw [h]; exact m1
      · rw [h, Int.mul_neg]; exact Int.dvd_neg.mpr m1
    have m3 : p.d ∣ ((Int.gcd (((Int.gcd p.x p.y : Nat) : Int) * q.d) (p.d * q.d) : Nat) : Int) := Int.dvd_coe_gcd m2 d3
    rw [Int.gcd_mul_right, e', Nat.one_mul] at m3
    exact Int.dvd_natAbs.mp m3
  have k1 := key a b pa ga h1 h2
  have k2 := key b a pb gb h1.symm h2.symm
  have ed : a.d = b.d := Int.dvd_antisymm (by omega) (by omega) k1 k2
  have hd : a.d ≠ 0 := by omega
  have ex : a.x = b.x := by
    rw [← ed] at h1
    exact Int.eq_of_mul_eq_mul_right hd h1
  have ey : a.y = b.y := by
    rw [← ed] at h2
    exact Int.eq_of_mul_eq_mul_right hd h2
  cases a; cases b
  simp only at ex ey ed
  subst ex ey ed
  rfl
theorem low_eq {x y d x' y' d' : Int} (h : d ≠ 0) (h' : d' ≠ 0) (h1 : x * d' = x' * d) (h2 : y * d' = y' * d) : low x y d = low x' y' d' := by
  obtain ⟨k, hk, ex, ey, ed, _⟩ := low_spec (x := x) (y := y) h
  obtain ⟨l, hl, fx, fy, fd, _⟩ := low_spec (x := x') (y := y') h'
  refine can_ext (low_can h) (low_can h') ?_ ?_
  · generalize low x y d = z at *
    generalize low x' y' d' = w at *
    have : (k * l) * (z.x * w.d) = (k * l) * (w.x * z.d) := by rw [ex, fd, fx, ed] at h1; grind
    exact Int.eq_of_mul_eq_mul_left (Int.mul_ne_zero hk hl) this
  · generalize low x y d = z at *
    generalize low x' y' d' = w at *
    have : (k * l) * (z.y * w.d) = (k * l) * (w.y * z.d) := by rw [ey, fd, fy, ed] at h2; grind
    exact Int.eq_of_mul_eq_mul_left (Int.mul_ne_zero hk hl) this
theorem low_self {z : Num} (h : Can z) : low z.x z.y z.d = z := by
  have hd : z.d ≠ 0 := by have := h.1; omega
  obtain ⟨k, hk, ex, ey, ed, _⟩ := low_spec (x := z.x) (y := z.y) hd
  refine can_ext (low_can hd) h ?_ ?_ <;> grind
theorem lowL_eq {x y d : Int} (h : d ≠ 0) : lowL x y d = low x y d := by
  have hg : 0 < gz (gz x y) d := gz_pos h
  obtain ⟨a, ha⟩ := g3_x x y d
  obtain ⟨b, hb⟩ := g3_y x y d
  obtain ⟨c, hc⟩ := g3_d x y d
  have hgn : gz (gz x y) d ≠ 0 := by omega
  unfold low lowL
  generalize gz (gz x y) d = g at *
  by_cases hd : 0 < d
  · simp only [if_pos hd, Int.one_mul]
  · simp only [if_neg hd]
    have n : ∀ k : Int, (g * k).fdiv (0 - g) = (-1 * (g * k)).fdiv g := fun k => by
      rw [show g * k = (0 - g) * (-k) by grind, fdiv_mul' (by omega), show -1 * ((0 - g) * -k) = g * (-k) by grind, fdiv_mul' hgn]
    rw [ha, hb, hc, n, n, n]

/-! ### values -/
def re (z : Num) : Rat := (z.x : Rat) / (z.d : Rat)
def im (z : Num) : Rat := (z.y : Rat) / (z.d : Rat)
theorem cast_ne {a : Int} (h : a ≠ 0) : (a : Rat) ≠ 0 := fun e => h (by exact_mod_cast e)
theorem re_low {x y d : Int} (h : d ≠ 0) : re (low x y d) = (x : Rat) / (d : Rat) := by
  obtain ⟨k, hk, ex, ey, ed, hp, _⟩ := low_spec (x := x) (y := y) h
  generalize low x y d = z at *
  unfold re
  have h1 : ((z.d : Int) : Rat) ≠ 0 := cast_ne (by omega)
  have h2 : ((k : Int) : Rat) ≠ 0 := cast_ne hk
  have e1 : (x : Rat) = (k : Rat) * (z.x : Rat) := by rw [ex]; simp [Rat.intCast_mul]
  have e2 : (d : Rat) = (k : Rat) * (z.d : Rat) := by rw [ed]; simp [Rat.intCast_mul]
  rw [e1, e2]
  grind
theorem im_low {x y d : Int} (h : d ≠ 0) : im (low x y d) = (y : Rat) / (d : Rat) := by
  obtain ⟨k, hk, ex, ey, ed, hp, _⟩ := low_spec (x := x) (y := y) h
  generalize low x y d = z at *
  unfold im
  have h1 : ((z.d : Int) : Rat) ≠ 0 := cast_ne (by omega)
  have h2 : ((k : Int) : Rat) ≠ 0 := cast_ne hk
  have e1 : (y : Rat) = (k : Rat) * (z.y : Rat) := by rw [ey]; simp [Rat.intCast_mul]
  have e2 : (d : Rat) = (k : Rat) * (z.d : Rat) := by rw [ed]; simp [Rat.intCast_mul]
  rw [e1, e2]
  grind
theorem ext {a b : Num} (ha : Can a) (hb : Can b) (h1 : re a = re b) (h2 : im a = im b) : a = b := by
  have na : ((a.d : Int) : Rat) ≠ 0 := cast_ne (by have := ha.1; omega)
  have nb : ((b.d : Int) : Rat) ≠ 0 := cast_ne (by have := hb.1; omega)
  unfold re at h1
  unfold im at h2
  refine can_ext ha hb ?_ ?_
  · have : (a.x : Rat) * (b.d : Rat) = (b.x : Rat) * (a.d : Rat) := by grind
    exact_mod_cast this
  · have : (a.y : Rat) * (b.d : Rat) = (b.y : Rat) * (a.d : Rat) := by grind
    exact_mod_cast this

/-! ### the operations -/
def zero : Num := ⟨0, 0, 1⟩
def one : Num := ⟨1, 0, 1⟩
def add (a b : Num) : Num := low (a.x * b.d + b.x * a.d) (a.y * b.d + b.y * a.d) (a.d * b.d)
def opp (a : Num) : Num := ⟨0 - a.x, 0 - a.y, a.d⟩
def mul (a b : Num) : Num := low (a.x * b.x - a.y * b.y) (a.x * b.y + a.y * b.x) (a.d * b.d)
def ovr (a : Num) : Num := ⟨a.x, 0 - a.y, a.d⟩
def inv (a : Num) : Num := low (a.x * a.d) (0 - a.y * a.d) (a.x * a.x + a.y * a.y)
def sub (a b : Num) : Num := add a (opp b)
theorem ne_d {a : Num} (h : Can a) : a.d ≠ 0 := by have := h.1; omega
theorem dd {a b : Num} (ha : Can a) (hb : Can b) : a.d * b.d ≠ 0 := Int.mul_ne_zero (ne_d ha) (ne_d hb)
theorem can_zero : Can zero := ⟨by decide, by decide⟩
theorem can_one : Can one := ⟨by decide, by decide⟩
theorem can_add {a b : Num} (ha : Can a) (hb : Can b) : Can (add a b) := low_can (dd ha hb)
theorem can_mul {a b : Num} (ha : Can a) (hb : Can b) : Can (mul a b) := low_can (dd ha hb)
theorem gz_neg (a b : Int) : gz (0 - a) b = gz a b := by unfold gz; rw [Int.zero_sub, Int.neg_gcd]
theorem gz_neg' (a b : Int) : gz a (0 - b) = gz a b := by unfold gz; rw [Int.zero_sub, Int.gcd_neg]
theorem can_opp {a : Num} (ha : Can a) : Can (opp a) := by
  refine ⟨ha.1, ?_⟩
  show gz (gz (0 - a.x) (0 - a.y)) a.d = 1
  rw [gz_neg, gz_neg']
  exact ha.2
theorem can_ovr {a : Num} (ha : Can a) : Can (ovr a) := by
  refine ⟨ha.1, ?_⟩
  show gz (gz a.x (0 - a.y)) a.d = 1
  rw [gz_neg']
  exact ha.2
theorem can_sub {a b : Num} (ha : Can a) (hb : Can b) : Can (sub a b) := can_add ha (can_opp hb)
theorem sq_nn (a : Int) : 0 ≤ a * a := by
  rcases Int.le_total 0 a with h | h
  · exact Int.mul_nonneg h h
  · have := Int.mul_nonneg (a := -a) (b := -a) (by omega) (by omega)
    rwa [Int.neg_mul_neg] at this
theorem sq_ne {a : Num} (hz : ¬ (a.x = 0 ∧ a.y = 0)) : a.x * a.x + a.y * a.y ≠ 0 := by
  intro h
  have h1 : 0 ≤ a.x * a.x := sq_nn _
  have h2 : 0 ≤ a.y * a.y := sq_nn _
  have e1 : a.x * a.x = 0 := by omega
  have e2 : a.y * a.y = 0 := by omega
  exact hz ⟨by rcases Int.mul_eq_zero.mp e1 with h | h <;> exact h, by rcases Int.mul_eq_zero.mp e2 with h | h <;> exact h⟩
/-- not 0 -/
def NZ (a : Num) : Prop := ¬ (a.x = 0 ∧ a.y = 0)
theorem can_inv {a : Num} (hz : NZ a) : Can (inv a) := low_can (sq_ne hz)
section
variable {a b : Num}
theorem rat_d (h : Can a) : ((a.d : Int) : Rat) ≠ 0 := cast_ne (ne_d h)
theorem re_add (ha : Can a) (hb : Can b) : re (add a b) = re a + re b := by
  unfold add
  rw [re_low (dd ha hb)]
  have n1 := rat_d ha
  have n2 := rat_d hb
  unfold re
  simp only [Rat.intCast_add, Rat.intCast_mul]
  grind
theorem im_add (ha : Can a) (hb : Can b) : im (add a b) = im a + im b := by
  unfold add
  rw [im_low (dd ha hb)]
  have n1 := rat_d ha
  have n2 := rat_d hb
  unfold im
  simp only [Rat.intCast_add, Rat.intCast_mul]
  grind
theorem re_opp : re (opp a) = - re a := by
  unfold re opp
  simp only [Rat.intCast_sub, Int.zero_sub, Rat.intCast_neg]
  grind
theorem im_opp : im (opp a) = - im a := by
  unfold im opp
  simp only [Rat.intCast_sub, Int.zero_sub, Rat.intCast_neg]
  grind
theorem re_sub (ha : Can a) (hb : Can b) : re (sub a b) = re a - re b := by
  unfold sub; rw [re_add ha (can_opp hb), re_opp]; grind
theorem im_sub (ha : Can a) (hb : Can b) : im (sub a b) = im a - im b := by
  unfold sub; rw [im_add ha (can_opp hb), im_opp]; grind
theorem re_mul (ha : Can a) (hb : Can b) : re (mul a b) = re a * re b - im a * im b := by
  unfold mul
  rw [re_low (dd ha hb)]
  have n1 := rat_d ha
  have n2 := rat_d hb
  unfold re im
  simp only [Rat.intCast_sub, Rat.intCast_mul]
  grind
theorem im_mul (ha : Can a) (hb : Can b) : im (mul a b) = re a * im b + im a * re b := by
  unfold mul
  rw [im_low (dd ha hb)]
  have n1 := rat_d ha
  have n2 := rat_d hb
  unfold re im
  simp only [Rat.intCast_add, Rat.intCast_mul]
  grind
theorem im_ovr : im (ovr a) = - im a := by
  unfold im ovr
  simp only [Int.zero_sub, Rat.intCast_neg]
  grind
/-- the square of the size -/
def nrm (a : Num) : Rat := re a * re a + im a * im a
theorem nz_iff (ha : Can a) : NZ a ↔ nrm a ≠ 0 := by
  have n1 := rat_d ha
  unfold NZ nrm re im
  constructor
  · intro h e
    have h2 : ((a.x * a.x + a.y * a.y : Int) : Rat) = 0 := by
      simp only [Rat.intCast_add, Rat.intCast_mul]
      grind
    exact sq_ne h (by exact_mod_cast h2)
  · intro h ⟨e1, e2⟩
    apply h
    rw [e1, e2]
    have z : ((0 : Int) : Rat) = 0 := rfl
    rw [z]
    grind
theorem re_inv (ha : Can a) (hz : NZ a) : re (inv a) = re a / nrm a := by
  unfold inv
  rw [re_low (sq_ne hz)]
  have n1 := rat_d ha
  have n2 : ((a.x * a.x + a.y * a.y : Int) : Rat) ≠ 0 := cast_ne (sq_ne hz)
  simp only [Rat.intCast_add, Rat.intCast_mul] at n2 ⊢
  unfold nrm re im
  grind
theorem im_inv (ha : Can a) (hz : NZ a) : im (inv a) = - im a / nrm a := by
  unfold inv
  rw [im_low (sq_ne hz)]
  have n1 := rat_d ha
  have n2 : ((a.x * a.x + a.y * a.y : Int) : Rat) ≠ 0 := cast_ne (sq_ne hz)
  simp only [Rat.intCast_add, Rat.intCast_mul, Int.zero_sub, Rat.intCast_neg] at n2 ⊢
  unfold nrm re im
  grind
end
theorem re_zero : re zero = 0 := by decide +kernel
theorem im_zero : im zero = 0 := by decide +kernel
theorem re_one : re one = 1 := by decide +kernel
theorem im_one : im one = 0 := by decide +kernel
end NM

/-! ## SP -/
set_option Elab.async false
set_option linter.all false
set_option maxRecDepth 100000
set_option maxHeartbeats 4000000
/-! What each def is worth: specs over data. -/
namespace L3
open PySem NM L2

structure CL where
  Copy : Addr
  Drawing : Addr
  Arm : Addr
  Chain : Addr
  Reader : Addr
  /-- the law's table of code objects -/
  tab : Addr
  /-- the classes of errors -/
  gx : Str → Addr

def numD (z : Num) : D := .tup [.int z.x, .int z.y, .int z.d]
def c_ZERO : D := .tup [.int 0, .int 0, .int 1]
def c_ONE : D := .tup [.int 1, .int 0, .int 1]
/-- sizes of a number -/
def Sz (n : Nat) (z : Num) : Prop := Bt n z.x ∧ Bt n z.y ∧ Bt n z.d
theorem Bt.mono {n m : Nat} {i : Int} (h : Bt n i) (l : n ≤ m) : Bt m i := Nat.lt_of_lt_of_le h (Nat.pow_le_pow_right (by decide) l)
theorem Bt.mul {n m : Nat} {i j : Int} (h : Bt n i) (l : Bt m j) : Bt (n + m) (i * j) := wide_lt h l
theorem Bt.add {n : Nat} {i j : Int} (h : Bt n i) (l : Bt n j) : Bt (n + 1) (i + j) := by
  unfold Bt at *
  rw [Nat.pow_succ]
  omega
theorem Bt.sub {n : Nat} {i j : Int} (h : Bt n i) (l : Bt n j) : Bt (n + 1) (i - j) := by
  unfold Bt at *
  rw [Nat.pow_succ]
  omega
theorem Bt.neg {n : Nat} {i : Int} (h : Bt n i) : Bt n (0 - i) := by
  unfold Bt at *
  omega
theorem Bt.le {n : Nat} {i j : Int} (h : Bt n i) (l : j.natAbs ≤ i.natAbs) : Bt n j := Nat.lt_of_le_of_lt l h
theorem Sz.mono {n m : Nat} {z : Num} (h : Sz n z) (l : n ≤ m) : Sz m z := ⟨h.1.mono l, h.2.1.mono l, h.2.2.mono l⟩
theorem low_sz {n : Nat} {x y d : Int} (h : d ≠ 0) (hx : Bt n x) (hy : Bt n y) (hd : Bt n d) : Sz n (low x y d) := by
  obtain ⟨k, hk, ex, ey, ed, _⟩ := low_spec (x := x) (y := y) h
  have le : ∀ a : Int, a.natAbs ≤ (k * a).natAbs := fun a => by
    rw [Int.natAbs_mul]
    exact Nat.le_mul_of_pos_left _ (by omega)
  refine ⟨hx.le ?_, hy.le ?_, hd.le ?_⟩
  · conv => rhs; rw [ex]
    exact le _
  · conv => rhs; rw [ey]
    exact le _
  · conv => rhs; rw [ed]
    exact le _
theorem Sz.add {n m : Nat} {a b : Num} (ha : Can a) (hb : Can b) (h : Sz n a) (l : Sz m b) : Sz (n + m + 1) (NM.add a b) :=
  low_sz (dd ha hb) ((h.1.mul l.2.2).add ((l.1.mul h.2.2).mono (by omega))) ((h.2.1.mul l.2.2).add ((l.2.1.mul h.2.2).mono (by omega))) ((h.2.2.mul l.2.2).mono (by omega))
theorem Sz.mul {n m : Nat} {a b : Num} (ha : Can a) (hb : Can b) (h : Sz n a) (l : Sz m b) : Sz (n + m + 1) (NM.mul a b) :=
  low_sz (dd ha hb) ((h.1.mul l.1).sub (h.2.1.mul l.2.1)) ((h.1.mul l.2.1).add (h.2.1.mul l.1)) ((h.2.2.mul l.2.2).mono (by omega))
theorem Sz.inv {n : Nat} {a : Num} (hz : NZ a) (h : Sz n a) : Sz (n + n + 1) (NM.inv a) :=
  low_sz (sq_ne hz) ((h.1.mul h.2.2).mono (by omega)) ((h.2.1.mul h.2.2).neg.mono (by omega)) ((h.1.mul h.1).add (h.2.1.mul h.2.1))
theorem Sz.ovr {n : Nat} {a : Num} (h : Sz n a) : Sz n (NM.ovr a) := ⟨h.1, h.2.1.neg, h.2.2⟩
theorem Sz.opp {n : Nat} {a : Num} (h : Sz n a) : Sz n (NM.opp a) := ⟨h.1.neg, h.2.1.neg, h.2.2⟩

/-! ### numbers -/
def sp_is_int (Γ : CL) : GN := fun ds μ R => match ds with
  | [.int _] => R (.bl true) μ
  | [.bl _] => R (.bl false) μ
  | [.non] => R (.bl false) μ
  | [.str _] => R (.bl false) μ
  | [.tup _] => R (.bl false) μ
  | [.lst _] => R (.bl false) μ
  | _ => False
def sp_common_divisor (Γ : CL) : GN := fun ds μ R => match ds with
  | [.int a, .int b] => R (.int (gz a b)) μ
  | _ => False
def sp_lowest (Γ : CL) : GN := fun ds μ R => match ds with
  | [.int x, .int y, .int d] => d ≠ 0 ∧ Bt big x ∧ Bt big y ∧ Bt big d ∧ R (numD (low x y d)) μ
  | _ => False
/-- data whose kind is known -/
def okD : D → Bool
  | .non => true
  | .bl _ => true
  | .int _ => true
  | .str _ => true
  | .tup _ => true
  | .lst _ => true
  | _ => false
def isNumD : D → Bool
  | .tup [.int x, .int y, .int d] => decide (0 < d) && decide (low x y d = ⟨x, y, d⟩)
  | _ => false
def numOk (d : D) : Prop := okD d = true ∧ ∀ ds, d = .tup ds → ds.all okD = true ∧ ∀ x y z, ds = [.int x, .int y, .int z] → Bt big x ∧ Bt big y ∧ Bt big z
def sp_is_number (Γ : CL) : GN := fun ds μ R => match ds with
  | [d] => numOk d ∧ R (.bl (isNumD d)) μ
  | _ => False
abbrev half : Nat := 2000
def sp_added (Γ : CL) : GN := fun ds μ R => match ds with
  | [.tup [.int x, .int y, .int d], .tup [.int u, .int v, .int w]] => d ≠ 0 ∧ w ≠ 0 ∧ Sz half ⟨x, y, d⟩ ∧ Sz half ⟨u, v, w⟩ ∧ R (numD (add ⟨x, y, d⟩ ⟨u, v, w⟩)) μ
  | _ => False
def sp_multiplied (Γ : CL) : GN := fun ds μ R => match ds with
  | [.tup [.int x, .int y, .int d], .tup [.int u, .int v, .int w]] => d ≠ 0 ∧ w ≠ 0 ∧ Sz half ⟨x, y, d⟩ ∧ Sz half ⟨u, v, w⟩ ∧ R (numD (mul ⟨x, y, d⟩ ⟨u, v, w⟩)) μ
  | _ => False
def sp_less (Γ : CL) : GN := fun ds μ R => match ds with
  | [.tup [.int x, .int y, .int d], .tup [.int u, .int v, .int w]] => d ≠ 0 ∧ w ≠ 0 ∧ Sz half ⟨x, y, d⟩ ∧ Sz half ⟨u, v, w⟩ ∧ R (numD (sub ⟨x, y, d⟩ ⟨u, v, w⟩)) μ
  | _ => False
def sp_turned_over (Γ : CL) : GN := fun ds μ R => match ds with
  | [.tup [.int x, .int y, .int d]] => R (numD (ovr ⟨x, y, d⟩)) μ
  | _ => False
/-! ### copies -/
def sp_check_spot (Γ : CL) : GN := fun ds μ R => match ds with
  | [.tup [.int x, .int y, .int d]] => Can ⟨x, y, d⟩ ∧ Sz big ⟨x, y, d⟩ ∧ R .non μ
  | _ => False
def sp_check_turn (Γ : CL) : GN := fun ds μ R => match ds with
  | [.tup [.int x, .int y, .int d]] => Can ⟨x, y, d⟩ ∧ NZ ⟨x, y, d⟩ ∧ Sz big ⟨x, y, d⟩ ∧ R .non μ
  | _ => False
/-- a copy -/
structure Cp where
  t : Num
  s : Num
  m : Bool
  deriving DecidableEq
def copyFs (c : Cp) : List (Str × D) := [("turn", numD c.t), ("shift", numD c.s), ("mirrored", .bl c.m), ("key", .tup [numD c.t, numD c.s, .bl c.m])]
def copyD (Γ : CL) (c : Cp) : D := .ins Γ.Copy (copyFs c)
/-- one that can be -/
def Cp.ok (c : Cp) : Prop := Can c.t ∧ NZ c.t ∧ Can c.s
def Cp.sz (n : Nat) (c : Cp) : Prop := Sz n c.t ∧ Sz n c.s
def Cp.at (c : Cp) (z : Num) : Num := add (mul c.t (if c.m then ovr z else z)) c.s
def Cp.comp (a b : Cp) : Cp := ⟨mul b.t (if b.m then ovr a.t else a.t), b.at a.s, a.m != b.m⟩
def Cp.inv (a : Cp) : Cp :=
  let back := NM.inv (if a.m then ovr a.t else a.t)
  ⟨back, opp (mul back (if a.m then ovr a.s else a.s)), a.m⟩
abbrev quart : Nat := 900
def sp_carried (Γ : CL) : GN := fun ds μ R => ∃ c z, ds = [copyD Γ c, numD z] ∧ c.ok ∧ c.sz quart ∧ Can z ∧ Sz quart z ∧ R (numD (c.at z)) μ
def sp_Copy___init (Γ : CL) : GN := fun ds μ R => match ds with
  | [.ref a, .tup [.int x, .int y, .int d], .tup [.int u, .int v, .int w], .bl m] => Can ⟨x, y, d⟩ ∧ NZ ⟨x, y, d⟩ ∧ Can ⟨u, v, w⟩ ∧ Sz big ⟨x, y, d⟩ ∧ Sz big ⟨u, v, w⟩ ∧ μ a = some (.ins Γ.Copy []) ∧ R .non (updM μ a (.ins Γ.Copy (copyFs ⟨⟨x, y, d⟩, ⟨u, v, w⟩, m⟩)))
  | _ => False
def gD_Copy_mirrored : List D → List D → List D := fun ds zs => ds ++ zs

/-! ### the law's own source of numbers -/
/-- the source: a list of ints, the first not negative, the second too -/
def RL (ds : List D) : Prop := ∃ (s p : Int) (r : List Int), ds = .int s :: .int p :: r.map D.int ∧ 0 ≤ s ∧ s < 2147483648 ∧ 0 ≤ p ∧ ∀ x ∈ r, 0 ≤ x
def sp_law_random (Γ : CL) : GN := fun ds μ R => ∃ (ns : List Int) (salt : Int), ds = [.scr (ns.map D.int), .int salt] ∧ 0 ≤ salt ∧ salt < 1000 ∧ ns.length ≤ 63 ∧ ∀ g xs, μ g = none → RL xs → R (.ref g) (updM μ g (.lst xs))
def sp_law_below (Γ : CL) : GN := fun ds μ R => ∃ g n xs, ds = [.ref g, .int n] ∧ 0 < n ∧ n < 1000 ∧ μ g = some (.lst xs) ∧ RL xs ∧ ∀ r ys, 0 ≤ r → r < n → RL ys → R (.int r) (updM μ g (.lst ys))
/-- a small number in lowest terms -/
def Small (z : Num) : Prop := Can z ∧ Sz 5 z
def Cp.small (c : Cp) : Prop := Small c.t ∧ NZ c.t ∧ Small c.s
def sp_law_common (Γ : CL) : GN := sp_common_divisor Γ
def sp_law_lowest (Γ : CL) : GN := sp_lowest Γ
def sp_law_plus (Γ : CL) : GN := sp_added Γ
def sp_law_minus (Γ : CL) : GN := sp_less Γ
mutual
def same : D → D → Bool
  | .non, .non => true
  | .bl a, .bl b => a == b
  | .int a, .int b => a == b
  | .str a, .str b => a == b
  | .tup as, .tup bs => sames as bs
  | .lst as, .lst bs => sames as bs
  | _, _ => false
def sames : List D → List D → Bool
  | [], [] => true
  | a :: as, b :: bs => same a b && sames as bs
  | _, _ => false
end
/-- pure data no deeper than n, no row too long -/
def okq : Nat → D → Bool
  | _, .non => true
  | _, .bl _ => true
  | _, .int _ => true
  | _, .str x => PyData.strOk x
  | n + 1, .tup ds => decide (ds.length ≤ 1000000) && ds.all (okq n)
  | n + 1, .lst ds => decide (ds.length ≤ 1000000) && ds.all (okq n)
  | _, _ => false
def eqSp (n : Nat) : GN := fun ds μ R => match ds with
  | [a, e] => okq n a = true ∧ okq n e = true ∧ R (.bl (same a e)) μ
  | _ => False
def sp_law_equal (Γ : CL) : Nat → GN
  | 0 => fun _ _ _ => False
  | n + 1 => eqSp n
/-! ### spots that are kept -/
def lineOf (a b c : Int) : Int × Int × Int := if a ≠ 0 then ((low c b a).d, (low c b a).y, (low c b a).x) else (0, (low c 0 b).d, (low c 0 b).x)
inductive Kp where
  | all
  | none
  | spot (z : Num)
  | line (a b c : Int)
  deriving DecidableEq
def img : Num := ⟨0, 1, 1⟩
def Kp.D : Kp → L3.D
  | .all => .tup [.str "all"]
  | .none => .tup [.str "none"]
  | .spot z => .tup [.str "spot", numD z]
  | .line a b c => .tup [.str "line", .int a, .int b, .int c]
/-! ### copies done several times -/
def Cp.id : Cp := ⟨one, zero, false⟩
def Cp.stp (c : Cp) (i : Int) : Cp := if i < 0 then c.inv else c
def inIntD : D → Int → Int → Bool
  | .int i, lo, hi => decide (lo ≤ i) && decide (i ≤ hi)
  | _, _, _ => false
def sp_is_int_in (Γ : CL) : GN := fun ds μ R => ∃ d lo hi, ds = [d, .int lo, .int hi] ∧ okD d = true ∧ R (.bl (inIntD d lo hi)) μ
/-! ### arms and chains -/
structure Am where
  p : Num
  t : Num
  lo : Int
  hi : Int
  m : Bool
  deriving DecidableEq
def Am.ok (a : Am) : Prop := Can a.p ∧ Can a.t ∧ NZ a.t ∧ 0 ≤ a.lo ∧ a.lo ≤ a.hi ∧ a.hi ≤ 1000
def Am.sz (n : Nat) (a : Am) : Prop := Sz n a.p ∧ Sz n a.t
def Am.small (a : Am) : Prop := Small a.p ∧ Small a.t ∧ NZ a.t ∧ 0 ≤ a.lo ∧ a.lo ≤ 2 ∧ a.lo ≤ a.hi ∧ a.hi ≤ 101
def sp_law_step (Γ : CL) : GN := fun ds μ R => ∃ g n xs, ds = [.ref g, .int n] ∧ 0 < n ∧ n ≤ 10 ∧ μ g = some (.lst xs) ∧ RL xs ∧ ∀ x y ys, -n ≤ x → x ≤ n → -n ≤ y → y ≤ n → RL ys → R (numD ⟨x, y, 1⟩) (updM μ g (.lst ys))
/-! ### zones -/
structure Rg where
  c : Num
  lo : Num
  hi : Num
  deriving DecidableEq
/-! ### poles -/
def pairD (p : Num × Num) : D := .tup [numD p.1, numD p.2]
end L3

/-! ## RB -/
set_option Elab.async false
set_option linter.all false
set_option maxRecDepth 100000
set_option maxHeartbeats 4000000
namespace L3
open PySem NM L2
/-- is_int(value) : 0 value -/
def rd_is_int (Γ : CL) : RS := (rRet (rAndV (rCl gIsi (rCons (rVar 0) (rCons (rC (.ty "int")) rNil))) (rNotV (rCl gIsi (rCons (rVar 0) (rCons (rC (.ty "bool")) rNil))))))
/-- common_divisor(one, other) : 0 one, 1 other -/
def rd_common_divisor (Γ : CL) : RS := (rSeq (rPar 0 1 (rCons (rCl gAbs (rCons (rVar 0) rNil)) (rCons (rCl gAbs (rCons (rVar 1) rNil)) rNil)))
 (rSeq (rWhile (rB (rOp gGt (rVar 1) (rC (.int 0)))) (rPar 0 1 (rCons (rVar 1) (rCons (rOp gMod (rVar 0) (rVar 1)) rNil))))
 (rRet (rVar 0))))
/-- lowest(x, y, d) : 0 x, 1 y, 2 d, 3 divisor, 4 sign -/
def rd_lowest (Γ : CL) : RS := (rSeq (rAsg (rCl (sp_common_divisor Γ) (rCons (rCl (sp_common_divisor Γ) (rCons (rVar 0) (rCons (rVar 1) rNil))) (rCons (rVar 2) rNil))) (rGN 3))
 (rSeq (rAsg (rIfE (rB (rOp gGt (rVar 2) (rC (.int 0)))) (rC (.int 1)) (rUn (gU fun i => .int (-i)) (rC (.int 1)))) (rGN 4))
 (rRet (rTup (rCons (rOp gDiv (rOp gMul (rVar 4) (rVar 0)) (rVar 3)) (rCons (rOp gDiv (rOp gMul (rVar 4) (rVar 1)) (rVar 3)) (rCons (rOp gDiv (rOp gMul (rVar 4) (rVar 2)) (rVar 3)) rNil)))))))
/-- is_number(value) : 0 value, 1 part -/
def rd_is_number (Γ : CL) : RS := (rSeq (rIf (rOr (rNot (rB (rCl gIsi (rCons (rVar 0) (rCons (rC (.ty "tuple")) rNil))))) (rOr (rB (rOp gNe (rCl gLen (rCons (rVar 0) rNil)) (rC (.int 3)))) (rNot (rB (rCl gAll (rCons (rLc (rITup (rVar 0)) (rGN 1) rTrue (rCl (sp_is_int Γ) (rCons (rVar 1) rNil)) [1]) rNil))))))
 (rRet (rC (.bl false)))
 rNext)
 (rRet (rAndV (rOp gGt (rOp gIx (rVar 0) (rC (.int 2))) (rC (.int 0))) (rOp gEq (rCl (sp_lowest Γ) (rStar (rVar 0) rNil)) (rVar 0)))))
/-- added(one, other) : 0 one, 1 other -/
def rd_added (Γ : CL) : RS := (rRet (rCl (sp_lowest Γ) (rCons (rOp gAdd (rOp gMul (rOp gIx (rVar 0) (rC (.int 0))) (rOp gIx (rVar 1) (rC (.int 2)))) (rOp gMul (rOp gIx (rVar 1) (rC (.int 0))) (rOp gIx (rVar 0) (rC (.int 2))))) (rCons (rOp gAdd (rOp gMul (rOp gIx (rVar 0) (rC (.int 1))) (rOp gIx (rVar 1) (rC (.int 2)))) (rOp gMul (rOp gIx (rVar 1) (rC (.int 1))) (rOp gIx (rVar 0) (rC (.int 2))))) (rCons (rOp gMul (rOp gIx (rVar 0) (rC (.int 2))) (rOp gIx (rVar 1) (rC (.int 2)))) rNil)))))
/-- multiplied(one, other) : 0 one, 1 other, 2 x -/
def rd_multiplied (Γ : CL) : RS := (rSeq (rAsg (rOp gSub (rOp gMul (rOp gIx (rVar 0) (rC (.int 0))) (rOp gIx (rVar 1) (rC (.int 0)))) (rOp gMul (rOp gIx (rVar 0) (rC (.int 1))) (rOp gIx (rVar 1) (rC (.int 1))))) (rGN 2))
 (rRet (rCl (sp_lowest Γ) (rCons (rVar 2) (rCons (rOp gAdd (rOp gMul (rOp gIx (rVar 0) (rC (.int 0))) (rOp gIx (rVar 1) (rC (.int 1)))) (rOp gMul (rOp gIx (rVar 0) (rC (.int 1))) (rOp gIx (rVar 1) (rC (.int 0))))) (rCons (rOp gMul (rOp gIx (rVar 0) (rC (.int 2))) (rOp gIx (rVar 1) (rC (.int 2)))) rNil))))))
/-- turned_over(one) : 0 one -/
def rd_turned_over (Γ : CL) : RS := (rRet (rTup (rCons (rOp gIx (rVar 0) (rC (.int 0))) (rCons (rOp gSub (rC (.int 0)) (rOp gIx (rVar 0) (rC (.int 1)))) (rCons (rOp gIx (rVar 0) (rC (.int 2))) rNil)))))
/-- check_spot(value) : 0 value -/
def rd_check_spot (Γ : CL) : RS := (rIf (rNot (rB (rCl (sp_is_number Γ) (rCons (rVar 0) rNil))))
 rNever
 rNext)
/-- check_turn(value) : 0 value -/
def rd_check_turn (Γ : CL) : RS := (rIf (rOr (rNot (rB (rCl (sp_is_number Γ) (rCons (rVar 0) rNil)))) (rB (rOp gEq (rVar 0) (rC c_ZERO))))
 rNever
 rNext)
/-- carried(copy, spot) : 0 copy, 1 spot -/
def rd_carried (Γ : CL) : RS := (rRet (rCl (sp_added Γ) (rCons (rCl (sp_multiplied Γ) (rCons (rFld Γ.Copy "turn" (rVar 0)) (rCons (rIfE (rB (rFld Γ.Copy "mirrored" (rVar 0))) (rCl (sp_turned_over Γ) (rCons (rVar 1) rNil)) (rVar 1)) rNil))) (rCons (rFld Γ.Copy "shift" (rVar 0)) rNil))))
/-- Copy.__init__(self, turn, shift, mirrored) : 0 self, 1 turn, 2 shift, 3 mirrored -/
def rd_Copy___init (Γ : CL) : RS := (rSeq (rDrop (rCl (sp_check_turn Γ) (rCons (rVar 1) rNil)))
 (rSeq (rDrop (rCl (sp_check_spot Γ) (rCons (rVar 2) rNil)))
 (rSeq (rFldS Γ.Copy "turn" (rVar 0) (rVar 1))
 (rSeq (rFldS Γ.Copy "shift" (rVar 0) (rVar 2))
 (rSeq (rFldS Γ.Copy "mirrored" (rVar 0) (rVar 3))
 (rFldS Γ.Copy "key" (rVar 0) (rTup (rCons (rVar 1) (rCons (rVar 2) (rCons (rVar 3) rNil))))))))))
/-- _law_random(_law_script, _law_salt) : 0 _law_script, 1 _law_salt, 2 _law_seed, 3 _law_cell -/
def rd_law_random (Γ : CL) : RS := (rSeq (rAsg (rVar 1) (rGN 2))
 (rSeq (rFor (rILst (rVar 0)) (rGN 3)
 (rAsg (rOp gMod (rOp gAdd (rOp gMul (rVar 2) (rC (.int 31))) (rCl gAbs (rCons (rVar 3) rNil))) (rC (.int 2147483647))) (rGN 2)))
 (rRet (rOp gAddM (rLst (rCons (rVar 2) (rCons (rC (.int 0)) rNil))) (rLc (rILst (rVar 0)) (rGN 3) (rB (rOp gGe (rVar 3) (rOp gPow (rC (.int 10)) (rC (.int 18))))) (rVar 3) [3])))))
/-- _law_below(_law_d, _law_limit) : 0 _law_d, 1 _law_limit, 2 _law_result -/
def rd_law_below (Γ : CL) : RS := (rSeq (rIf (rAnd (rB (rOp gEq (rOp gIx (rVar 0) (rC (.int 1))) (rC (.int 0)))) (rB (rOp gGt (rCl gLen (rCons (rVar 0) rNil)) (rC (.int 2)))))
 (rSetIx (rMut (rVar 0) (rCons (rC (.int 2)) rNil) gPopAt) (rVar 0) (rC (.int 1)))
 rNext)
 (rSeq (rIf (rB (rOp gGt (rOp gIx (rVar 0) (rC (.int 1))) (rC (.int 0))))
 (rSeq (rAsg (rOp gMod (rOp gIx (rVar 0) (rC (.int 1))) (rVar 1)) (rGN 2))
 (rSeq (rSetIx (rOp gDiv (rOp gIx (rVar 0) (rC (.int 1))) (rVar 1)) (rVar 0) (rC (.int 1)))
 (rRet (rVar 2))))
 rNext)
 (rSeq (rSetIx (rOp gMod (rOp gAdd (rOp gMul (rOp gIx (rVar 0) (rC (.int 0))) (rC (.int 48271))) (rC (.int 11))) (rC (.int 2147483647))) (rVar 0) (rC (.int 0)))
 (rRet (rOp gMod (rOp gDiv (rOp gIx (rVar 0) (rC (.int 0))) (rC (.int 64))) (rVar 1))))))
/-- _law_common(_law_one, _law_other) : 0 _law_one, 1 _law_other -/
def rd_law_common (Γ : CL) : RS := (rSeq (rPar 0 1 (rCons (rCl gAbs (rCons (rVar 0) rNil)) (rCons (rCl gAbs (rCons (rVar 1) rNil)) rNil)))
 (rSeq (rWhile (rB (rOp gGt (rVar 1) (rC (.int 0)))) (rPar 0 1 (rCons (rVar 1) (rCons (rOp gMod (rVar 0) (rVar 1)) rNil))))
 (rRet (rVar 0))))
/-- _law_lowest(_law_x, _law_y, _law_q) : 0 _law_x, 1 _law_y, 2 _law_q, 3 _law_common_now -/
def rd_law_lowest (Γ : CL) : RS := (rSeq (rAsg (rCl (sp_law_common Γ) (rCons (rCl (sp_law_common Γ) (rCons (rVar 0) (rCons (rVar 1) rNil))) (rCons (rVar 2) rNil))) (rGN 3))
 (rSeq (rAsg (rIfE (rB (rOp gGt (rVar 2) (rC (.int 0)))) (rVar 3) (rOp gSub (rC (.int 0)) (rVar 3))) (rGN 3))
 (rRet (rTup (rCons (rOp gDiv (rVar 0) (rVar 3)) (rCons (rOp gDiv (rVar 1) (rVar 3)) (rCons (rOp gDiv (rVar 2) (rVar 3)) rNil)))))))
/-- _law_equal(_law_actual, _law_expected) : 0 _law_actual, 1 _law_expected, 2 _law_k -/
def rd_law_equal (Γ : CL) (m : Nat) : RS := (rSeq (rIf (rB (rOp gIsN (rVar 1) (rC .non)))
 (rRet (rOp gIsN (rVar 0) (rC .non)))
 rNext)
 (rSeq (rIf (rB (rCl gIsi (rCons (rVar 1) (rCons (rC (.ty "bool")) rNil))))
 (rRet (rAndV (rCl gIsi (rCons (rVar 0) (rCons (rC (.ty "bool")) rNil))) (rOp gEq (rVar 0) (rVar 1))))
 rNext)
 (rSeq (rIf (rB (rCl gIsi (rCons (rVar 1) (rCons (rC (.ty "int")) rNil))))
 (rRet (rAndV (rCl gIsi (rCons (rVar 0) (rCons (rC (.ty "int")) rNil))) (rAndV (rNotV (rCl gIsi (rCons (rVar 0) (rCons (rC (.ty "bool")) rNil)))) (rOp gEq (rVar 0) (rVar 1)))))
 rNext)
 (rSeq (rIf (rB (rCl gIsi (rCons (rVar 1) (rCons (rC (.ty "str")) rNil))))
 (rRet (rAndV (rCl gIsi (rCons (rVar 0) (rCons (rC (.ty "str")) rNil))) (rOp gEq (rVar 0) (rVar 1))))
 rNext)
 (rSeq (rIf (rB (rOp gNe (rCl gIsi (rCons (rVar 1) (rCons (rC (.ty "tuple")) rNil))) (rCl gIsi (rCons (rVar 0) (rCons (rC (.ty "tuple")) rNil)))))
 (rRet (rC (.bl false)))
 rNext)
 (rSeq (rIf (rB (rOp gNe (rCl gIsi (rCons (rVar 1) (rCons (rC (.ty "list")) rNil))) (rCl gIsi (rCons (rVar 0) (rCons (rC (.ty "list")) rNil)))))
 (rRet (rC (.bl false)))
 rNext)
 (rSeq (rIf (rB (rOp gNe (rCl gLen (rCons (rVar 0) rNil)) (rCl gLen (rCons (rVar 1) rNil))))
 (rRet (rC (.bl false)))
 rNext)
 (rRet (rCl gAll (rCons (rLc (rIRng1 (rCons (rCl gLen (rCons (rVar 1) rNil)) rNil)) (rGN 2) rTrue (rCl (sp_law_equal Γ m) (rCons (rOp gIx (rVar 0) (rVar 2)) (rCons (rOp gIx (rVar 1) (rVar 2)) rNil))) [2]) rNil))))))))))
/-- _law_plus(_law_one, _law_other) : 0 _law_one, 1 _law_other, 2 _law_x, 3 _law_y -/
def rd_law_plus (Γ : CL) : RS := (rSeq (rAsg (rOp gAdd (rOp gMul (rOp gIx (rVar 0) (rC (.int 0))) (rOp gIx (rVar 1) (rC (.int 2)))) (rOp gMul (rOp gIx (rVar 1) (rC (.int 0))) (rOp gIx (rVar 0) (rC (.int 2))))) (rGN 2))
 (rSeq (rAsg (rOp gAdd (rOp gMul (rOp gIx (rVar 0) (rC (.int 1))) (rOp gIx (rVar 1) (rC (.int 2)))) (rOp gMul (rOp gIx (rVar 1) (rC (.int 1))) (rOp gIx (rVar 0) (rC (.int 2))))) (rGN 3))
 (rRet (rCl (sp_law_lowest Γ) (rCons (rVar 2) (rCons (rVar 3) (rCons (rOp gMul (rOp gIx (rVar 0) (rC (.int 2))) (rOp gIx (rVar 1) (rC (.int 2)))) rNil)))))))
/-- _law_minus(_law_one, _law_other) : 0 _law_one, 1 _law_other -/
def rd_law_minus (Γ : CL) : RS := (rRet (rCl (sp_law_plus Γ) (rCons (rVar 0) (rCons (rTup (rCons (rOp gSub (rC (.int 0)) (rOp gIx (rVar 1) (rC (.int 0)))) (rCons (rOp gSub (rC (.int 0)) (rOp gIx (rVar 1) (rC (.int 1)))) (rCons (rOp gIx (rVar 1) (rC (.int 2))) rNil)))) rNil))))
/-- is_int_in(value, low, high) : 0 value, 1 low, 2 high -/
def rd_is_int_in (Γ : CL) : RS := (rRet (rAndV (rCl gIsi (rCons (rVar 0) (rCons (rC (.ty "int")) rNil))) (rAndV (rNotV (rCl gIsi (rCons (rVar 0) (rCons (rC (.ty "bool")) rNil)))) (rChain gLe gLe (rVar 1) (rVar 0) (rVar 2)))))
/-- _law_step(_law_d, _law_size_now) : 0 _law_d, 1 _law_size_now -/
def rd_law_step (Γ : CL) : RS := (rRet (rTup (rCons (rOp gSub (rCl (sp_law_below Γ) (rCons (rVar 0) (rCons (rOp gAdd (rOp gMul (rC (.int 2)) (rVar 1)) (rC (.int 1))) rNil))) (rVar 1)) (rCons (rOp gSub (rCl (sp_law_below Γ) (rCons (rVar 0) (rCons (rOp gAdd (rOp gMul (rC (.int 2)) (rVar 1)) (rC (.int 1))) rNil))) (rVar 1)) (rCons (rC (.int 1)) rNil)))))
end L3

/-! ## V1 -/
set_option Elab.async false
set_option linter.all false
set_option maxRecDepth 100000
set_option maxHeartbeats 4000000
namespace L3
open PySem NM L2
abbrev fin (R : D → MH → Prop) : Ed := { nx := fun _ μ' => R .non μ', rt := R }
theorem ite_no {c : Prop} [Decidable c] {a b : Prop} (h : ¬ c) (q : b) : if c then a else b := by
  rw [if_neg h]
  exact q
theorem ite_yes {c : Prop} [Decidable c] {a b : Prop} (h : c) (q : a) : if c then a else b := by
  rw [if_pos h]
  exact q
theorem ln {n : Nat} (h : n ≤ 1000) : (n ≤ sizeLine) = True := eq_true (Nat.le_trans h (by decide))
local macro_rules | `(tactic| walk_at "d") => `(tactic| (try (simp only [rSeq, rAsg, rRet, rRetN, rDrop, rIf, rNext, rPar, rPar3, rCons, rNil, rStar, rCl, rOp, rUn, rVar, rC, rGN, rTup, rLst, rB, rAnd, rOr, rNot, rIfE, rAndV, rOrV, rNotV, rNever, rFld, rOwn, rMeth, rMakeK, rMakeD, rFldS, rFrz, rSetIx, rMut, rILst, rITup, rIRng1, rIRng2, rFor, rLc, rLcM, rTrue, gt, st, gI, gI0, gU, gIx, gEq, gNe, gAdd, gSub, gMul, gDiv, gMod, gPow, gLt, gLe, gGt, gGe, gIsi, gAbs, gLen, gAll, gIsN, gNotN, gOwn1, gOwn2, isNonD, seqD, res, atI_0, atI_1, atI_2, atI_3, atI_4, List.getElem?_cons_zero, List.getElem?_cons_succ, List.length_cons, List.length_nil, decide_eq_true_eq, List.map_cons, List.map_nil, startD, List.cons_append, List.nil_append, List.replicate, Nat.zero_add, numD, if_true, if_false, Bool.false_eq_true, and_self, true_and, ite_true, ite_false, Nat.reduceAdd, Nat.reduceSub, ln, Nat.reduceLeDiff, fin, String.reduceBEq, Bool.not_true, Bool.not_false, pureN, deq_int, deq_tt, deq_t0, deq_bl, List.all_cons, List.all_nil, Bool.and_true, Bool.true_and, Bool.and_eq_true, List.append_nil])))

theorem vc_is_int (Γ : CL) : ∀ ds μ R, sp_is_int Γ ds μ R → rd_is_int Γ (fin R) (startD 1 ds) μ := by
  intro ds μ R h
  unfold sp_is_int at h
  split at h <;> first | exact h.elim | skip
  all_goals (unfold rd_is_int; walk_at "d"; simp only [isiD]; exact ⟨by decide, by simpa [isiD, tyOK] using h⟩)

/-! ### gcd -/
theorem gz_step {a b : Int} (ha : 0 ≤ a) (hb : 0 < b) : gz b (a.fmod b) = gz a b := by
  rw [Int.fmod_eq_emod_of_nonneg _ (by omega)]
  obtain ⟨n, rfl⟩ := Int.eq_ofNat_of_zero_le ha
  obtain ⟨m, rfl⟩ := Int.eq_ofNat_of_zero_le (show 0 ≤ b by omega)
  unfold gz
  rw [show ((n : Int) % (m : Int)) = ((n % m : Nat) : Int) by simp]
  simp only [Int.gcd_natCast_natCast]
  rw [Nat.gcd_comm m (n % m), Nat.gcd_comm n m, ← Nat.gcd_rec]
theorem gz_abs (a b : Int) : gz (if a < 0 then -a else a) (if b < 0 then -b else b) = gz a b := by
  unfold gz
  split <;> split <;> simp
theorem gz_zero {a : Int} (h : 0 ≤ a) : gz a 0 = a := by
  unfold gz
  rw [Int.gcd_zero_right]
  omega
theorem vc_common_divisor (Γ : CL) : ∀ ds μ R, sp_common_divisor Γ ds μ R → rd_common_divisor Γ (fin R) (startD 2 ds) μ := by
  intro ds μ R h
  unfold sp_common_divisor at h
  split at h <;> first | exact h.elim | skip
  rename_i a b
  unfold rd_common_divisor
  walk_at "d"
  rw [← gz_abs a b] at h
  have na : 0 ≤ (if a < 0 then -a else a) := by split <;> omega
  have nb : 0 ≤ (if b < 0 then -b else b) := by split <;> omega
  generalize (if a < 0 then -a else a) = a at *
  generalize (if b < 0 then -b else b) = b at *
  refine ⟨fun ρ μ' => ∃ u v : Int, ρ = [some (.int u), some (.int v)] ∧ 0 ≤ u ∧ 0 ≤ v ∧ gz u v = gz a b ∧ μ' = μ, fun ρ _ => match gt ρ 1 with | some (.int v) => v.toNat | _ => 0, ⟨a, b, rfl, na, nb, rfl, rfl⟩, ?_⟩
  rintro ρ μ' ⟨u, v, rfl, hu, hv, e, rfl⟩
  walk_at "d"
  split
  · rename_i hp
    refine ⟨by omega, ⟨_, _, rfl, hv, ?_, ?_, trivial⟩, ?_⟩
    · rw [Int.fmod_eq_emod_of_nonneg _ hv]; exact Int.emod_nonneg _ (by omega)
    · rw [gz_step hu hp]; exact e
    · rw [Int.fmod_eq_emod_of_nonneg _ hv]
      have := Int.emod_lt_of_pos u hp
      omega
  · rename_i hp
    have : v = 0 := by omega
    subst this
    rw [gz_zero hu] at e
    rw [e]
    exact h
theorem bt_gz {n : Nat} {a b : Int} (h : b ≠ 0) (hb : Bt n b) : Bt n (gz a b) := by
  refine hb.le ?_
  have := Int.natAbs_dvd_natAbs.mpr (gz_dr a b)
  exact Nat.le_of_dvd (by omega) this
theorem gz_ne {a b : Int} (h : b ≠ 0) : gz a b ≠ 0 := by have := gz_pos (a := a) h; omega
theorem bt1 : Bt big 1 := Bt.mono (n := 1) (by unfold Bt; decide) (by decide)
theorem btm1 : Bt big (-1) := Bt.mono (n := 1) (by unfold Bt; decide) (by decide)
theorem vc_lowest (Γ : CL) : ∀ ds μ R, sp_lowest Γ ds μ R → rd_lowest Γ (fin R) (startD 5 ds) μ := by
  intro ds μ R h
  unfold sp_lowest at h
  split at h <;> first | exact h.elim | skip
  rename_i x y d
  obtain ⟨h1, hx, hy, hd, h⟩ := h
  unfold rd_lowest
  walk_at "d"
  simp only [sp_common_divisor]
  walk_at "d"
  have g1 := gz_ne (a := gz x y) h1
  have g2 := bt_gz (a := gz x y) h1 hd
  unfold low at h
  simp only [numD] at h
  split <;> rename_i hp
  · simp only [if_pos hp] at h
    exact ⟨⟨bt1, hx⟩, ⟨g1, g2⟩, ⟨bt1, hy⟩, ⟨g1, g2⟩, ⟨bt1, hd⟩, ⟨g1, g2⟩, h⟩
  · simp only [if_neg hp] at h
    exact ⟨⟨btm1, hx⟩, ⟨g1, g2⟩, ⟨btm1, hy⟩, ⟨g1, g2⟩, ⟨btm1, hd⟩, ⟨g1, g2⟩, h⟩
/-- a comprehension whose element and test are functions -/
theorem lcD_map {i : Nat} {f : RX} {ρ : EV} {g : D → D} {R : List D → MH → Prop} {μ : MH} : ∀ (ds acc : List D), (∀ d ∈ ds, ∀ Q : D → MH → Prop, Q (g d) μ → f (st ρ i d) μ Q) → R (acc ++ ds.map g) μ → lcD (rGN i) rTrue f tru ρ ds acc μ R
  | [], acc, _, h => by
    rw [List.map_nil, List.append_nil] at h
    exact ⟨trivial, h⟩
  | d :: r, acc, hf, h => by
    refine ⟨trivial, ?_⟩
    simp only [rGN, rTrue, if_true]
    refine hf d (List.mem_cons_self ..) _ ?_
    refine lcD_map r _ (fun e he => hf e (List.mem_cons_of_mem _ he)) ?_
    rw [List.append_assoc]
    exact h
def isIntD : D → Bool
  | .int _ => true
  | _ => false
theorem sp_is_int_i {Γ : CL} {d : D} {μ : MH} {Q : D → MH → Prop} (h : okD d = true) (q : Q (.bl (isIntD d)) μ) : sp_is_int Γ [d] μ Q := by
  cases d <;> first | exact q | cases h
theorem bools_map {f : D → Bool} : ∀ ds : List D, bools (ds.map fun d => .bl (f d)) = some (ds.map f)
  | [] => rfl
  | d :: r => by
    show (bools (r.map fun d => .bl (f d))).map (f d :: ·) = _
    rw [bools_map r]
    rfl
theorem deq_num {a b : Num} : deq (numD a) (numD b) = decide (a = b) := by
  unfold numD
  rw [deq_tt, deq_tt, deq_tt, deq_t0, deq_int, deq_int, deq_int]
  by_cases h : a = b
  · subst h
    simp
  · rw [decide_eq_false h]
    obtain ⟨x, y, d⟩ := a
    obtain ⟨u, v, w⟩ := b
    by_cases h1 : x = u <;> by_cases h2 : y = v <;> by_cases h3 : d = w <;> simp_all
theorem all3 {ds : List D} (h : ds.length = 3) : ∃ a b c, ds = [a, b, c] := by
  match ds, h with
  | [a, b, c], _ => exact ⟨a, b, c, rfl⟩
theorem isNum_len {ds : List D} (h : ds.length ≠ 3) : isNumD (.tup ds) = false := by
  unfold isNumD
  split
  · rename_i e
    cases e
    exact absurd rfl h
  · rfl
theorem isNum_ints {a b c : D} (h : [a, b, c].all isIntD = false) : isNumD (.tup [a, b, c]) = false := by
  unfold isNumD
  split
  · rename_i e
    cases e
    cases h
  · rfl
theorem int_of {d : D} (h : isIntD d = true) : ∃ i, d = .int i := by
  cases d <;> first | exact ⟨_, rfl⟩ | cases h
theorem vc_is_number (Γ : CL) : ∀ ds μ R, sp_is_number Γ ds μ R → rd_is_number Γ (fin R) (startD 2 ds) μ := by
  intro ds μ R h
  unfold sp_is_number at h
  split at h <;> first | exact h.elim | skip
  rename_i d
  obtain ⟨⟨ok, h1⟩, h⟩ := h
  unfold rd_is_number
  walk_at "d"
  cases d with
  | tup ds =>
    obtain ⟨ha, hb⟩ := h1 ds rfl
    walk_at "d"
    simp only [isiD]
    refine ⟨by decide, ?_⟩
    walk_at "d"
    split
    · rename_i hl
      have hl' : ds.length ≠ 3 := fun e => by rw [e] at hl; simp at hl
      rw [isNum_len hl'] at h
      exact h
    · rename_i hl
      have hl' : ds.length = 3 := by
        have hl2 : ((ds.length : Int) == 3) = true := by simpa using hl
        have := eq_of_beq hl2
        omega
      obtain ⟨a, b, c, rfl⟩ := all3 hl'
      refine ⟨by show 3 ≤ sizeLine; decide, ?_⟩
      refine lcD_map (g := fun d => .bl (isIntD d)) _ _ (fun e he Q q => ?_) ?_
      · simp only [rms, rm, st, rCl, rCons, rVar, rNil, gt]
        exact sp_is_int_i (List.all_eq_true.mp ha e he) q
      · rw [List.nil_append, bools_map]
        dsimp only
        split
        · rename_i hn
          rw [isNum_ints (by cases q : [a, b, c].all isIntD with | false => rfl | true => (exfalso; simp_all))] at h
          exact h
        · rename_i hn
          have hn' : isIntD a = true ∧ isIntD b = true ∧ isIntD c = true := by simpa using hn
          obtain ⟨x, rfl⟩ := int_of hn'.1
          obtain ⟨y, rfl⟩ := int_of hn'.2.1
          obtain ⟨z, rfl⟩ := int_of hn'.2.2
          obtain ⟨b1, b2, b3⟩ := hb x y z rfl
          walk_at "d"
          split
          · rename_i hp
            simp only [sp_lowest]
            refine ⟨by omega, b1, b2, b3, ?_⟩
            walk_at "d"
            have e := deq_num (a := low x y z) (b := ⟨x, y, z⟩)
            simp only [numD, deq_tt, deq_t0, deq_int] at e
            have e2 : isNumD (.tup [.int x, .int y, .int z]) = decide (low x y z = ⟨x, y, z⟩) := by
              show (decide (0 < z) && _) = _
              rw [decide_eq_true hp, Bool.true_and]
            rw [e2, ← e] at h
            simpa using h
          · rename_i hp
            have e2 : isNumD (.tup [.int x, .int y, .int z]) = false := by
              show (decide (0 < z) && _) = _
              rw [decide_eq_false hp, Bool.false_and]
            rw [e2] at h
            exact h
  | non => walk_at "d"; simp only [isiD]; refine ⟨by decide, ?_⟩; walk_at "d"; exact h
  | int i => walk_at "d"; simp only [isiD]; refine ⟨by decide, ?_⟩; walk_at "d"; exact h
  | bl i => walk_at "d"; simp only [isiD]; refine ⟨by decide, ?_⟩; walk_at "d"; exact h
  | str i => walk_at "d"; simp only [isiD]; refine ⟨by decide, ?_⟩; walk_at "d"; exact h
  | lst i => walk_at "d"; simp only [isiD]; refine ⟨by decide, ?_⟩; walk_at "d"; exact h
  | _ => cases ok
/-! ### sums and products -/
theorem Sz.big {z : Num} (h : Sz half z) : Sz big z := h.mono (by decide)
theorem bb {a b : Int} (h : Bt half a) (l : Bt half b) : Bt big (a * b) := (h.mul l).mono (by decide)
theorem vc_added (Γ : CL) : ∀ ds μ R, sp_added Γ ds μ R → rd_added Γ (fin R) (startD 2 ds) μ := by
  intro ds μ R h
  unfold sp_added at h
  split at h <;> first | exact h.elim | skip
  obtain ⟨h1, h2, ⟨x1, x2, x3⟩, ⟨y1, y2, y3⟩, h⟩ := h
  unfold rd_added
  walk_at "d"
  simp only [sp_lowest]
  have c : ∀ {a b : Int}, Bt half a → Bt half b → CBig a b := fun h l => ⟨h.mono (by decide), l.mono (by decide)⟩
  refine ⟨c x1 y3, c y1 x3, c x2 y3, c y2 x3, c x3 y3, Int.mul_ne_zero h1 h2, ((x1.mul y3).add (y1.mul x3)).mono (by decide), ((x2.mul y3).add (y2.mul x3)).mono (by decide), bb x3 y3, h⟩
theorem vc_multiplied (Γ : CL) : ∀ ds μ R, sp_multiplied Γ ds μ R → rd_multiplied Γ (fin R) (startD 3 ds) μ := by
  intro ds μ R h
  unfold sp_multiplied at h
  split at h <;> first | exact h.elim | skip
  obtain ⟨h1, h2, ⟨x1, x2, x3⟩, ⟨y1, y2, y3⟩, h⟩ := h
  unfold rd_multiplied
  walk_at "d"
  simp only [sp_lowest]
  have c : ∀ {a b : Int}, Bt half a → Bt half b → CBig a b := fun h l => ⟨h.mono (by decide), l.mono (by decide)⟩
  refine ⟨c x1 y1, c x2 y2, c x1 y2, c x2 y1, c x3 y3, Int.mul_ne_zero h1 h2, ((x1.mul y1).sub (x2.mul y2)).mono (by decide), ((x1.mul y2).add (x2.mul y1)).mono (by decide), bb x3 y3, h⟩
theorem vc_turned_over (Γ : CL) : ∀ ds μ R, sp_turned_over Γ ds μ R → rd_turned_over Γ (fin R) (startD 1 ds) μ := by
  intro ds μ R h
  unfold sp_turned_over at h
  split at h <;> first | exact h.elim | skip
  unfold rd_turned_over
  walk_at "d"
  exact h
/-! ### spots -/
theorem is_number_i {Γ : CL} {z : Num} {μ : MH} {Q : D → MH → Prop} (h : Can z) (hz : Sz big z) (q : Q (.bl true) μ) : sp_is_number Γ [numD z] μ Q := by
  refine ⟨⟨rfl, fun ds e => ?_⟩, ?_⟩
  · cases e
    exact ⟨rfl, fun x y w e => by cases e; exact hz⟩
  · have : isNumD (numD z) = true := by
      show (decide (0 < z.d) && decide (low z.x z.y z.d = z)) = true
      rw [decide_eq_true h.1, decide_eq_true (low_self h)]
      rfl
    rw [this]
    exact q
theorem vc_check_spot (Γ : CL) : ∀ ds μ R, sp_check_spot Γ ds μ R → rd_check_spot Γ (fin R) (startD 1 ds) μ := by
  intro ds μ R h
  unfold sp_check_spot at h
  split at h <;> first | exact h.elim | skip
  obtain ⟨h1, h2, h⟩ := h
  unfold rd_check_spot
  walk_at "d"
  refine is_number_i (z := ⟨_, _, _⟩) h1 h2 ?_
  walk_at "d"
  exact h
theorem vc_check_turn (Γ : CL) : ∀ ds μ R, sp_check_turn Γ ds μ R → rd_check_turn Γ (fin R) (startD 1 ds) μ := by
  intro ds μ R h
  unfold sp_check_turn at h
  split at h <;> first | exact h.elim | skip
  rename_i x y d
  obtain ⟨h1, hz, h2, h⟩ := h
  unfold rd_check_turn
  walk_at "d"
  refine is_number_i (z := ⟨_, _, _⟩) h1 h2 ?_
  simp only [c_ZERO]
  walk_at "d"
  have : ¬ ((x == 0) = true ∧ (y == 0) = true ∧ (d == 1) = true) := fun ⟨a, b, _⟩ => hz ⟨eq_of_beq a, eq_of_beq b⟩
  rw [if_neg (by simpa using this)]
  exact h
end L3

/-! ## V2 -/
set_option Elab.async false
set_option linter.all false
set_option maxRecDepth 100000
set_option maxHeartbeats 4000000
namespace L3
open PySem NM L2
theorem lk_turn (c : Cp) : (copyFs c).lookup ("turn" : Str) = some (numD c.t) := rfl
theorem lk_shift (c : Cp) : (copyFs c).lookup ("shift" : Str) = some (numD c.s) := rfl
theorem lk_mirrored (c : Cp) : (copyFs c).lookup ("mirrored" : Str) = some (D.bl c.m) := rfl
theorem lk_key (c : Cp) : (copyFs c).lookup ("key" : Str) = some (D.tup [numD c.t, numD c.s, .bl c.m]) := rfl
local macro_rules | `(tactic| walk_at "d") => `(tactic| (try (simp only [rSeq, rAsg, rRet, rRetN, rDrop, rIf, rNext, rPar, rPar3, rCons, rNil, rStar, rCl, rOp, rUn, rVar, rC, rGN, rTup, rLst, rB, rAnd, rOr, rNot, rIfE, rAndV, rOrV, rNotV, rNever, rFld, rOwn, rMeth, rMakeK, rMakeD, rFldS, rFrz, rSetIx, rMut, rILst, rITup, rIRng1, rIRng2, rFor, rLc, rLcM, rTrue, gt, st, gI, gI0, gU, gIx, gEq, gNe, gAdd, gSub, gMul, gDiv, gMod, gPow, gLt, gLe, gGt, gGe, gIsi, gAbs, gLen, gAll, gIsN, gNotN, gOwn1, gOwn2, isNonD, seqD, res, atI_0, atI_1, atI_2, atI_3, atI_4, List.getElem?_cons_zero, List.getElem?_cons_succ, List.length_cons, List.length_nil, decide_eq_true_eq, List.map_cons, List.map_nil, startD, List.cons_append, List.nil_append, List.replicate, Nat.zero_add, numD, if_true, if_false, Bool.false_eq_true, and_self, true_and, ite_true, ite_false, Nat.reduceAdd, Nat.reduceSub, ln, Nat.reduceLeDiff, fin, String.reduceBEq, Bool.not_true, Bool.not_false, pureN, deq_int, deq_tt, deq_t0, deq_bl, List.all_cons, List.all_nil, Bool.and_true, Bool.true_and, Bool.and_eq_true, List.append_nil, lk_turn, lk_shift, lk_mirrored, lk_key, insD, updM_same, updM_updM, Option.map_some, Option.map_none])))
/-! ### copies: mathematics -/
theorem NZ_ovr {a : Num} (h : NZ a) : NZ (ovr a) := fun ⟨h1, h2⟩ => h ⟨h1, by have : 0 - a.y = 0 := h2; omega⟩
theorem nrm_mul {a b : Num} (ha : Can a) (hb : Can b) : nrm (mul a b) = nrm a * nrm b := by
  unfold nrm
  rw [re_mul ha hb, im_mul ha hb]
  grind
theorem NZ_mul {a b : Num} (ha : Can a) (hb : Can b) (na : NZ a) (nb : NZ b) : NZ (mul a b) := by
  rw [nz_iff (can_mul ha hb), nrm_mul ha hb]
  rw [nz_iff ha] at na
  rw [nz_iff hb] at nb
  grind
theorem NZ_inv {a : Num} (ha : Can a) (na : NZ a) : NZ (NM.inv a) := by
  rw [nz_iff (can_inv na)]
  have h := (nz_iff ha).mp na
  have e : nrm (NM.inv a) * nrm a = 1 := by
    unfold nrm
    rw [re_inv ha na, im_inv ha na]
    unfold nrm at *
    grind
  grind
def flip (m : Bool) (z : Num) : Num := if m then ovr z else z
theorem can_flip {m : Bool} {z : Num} (h : Can z) : Can (flip m z) := by
  unfold flip; split
  · exact can_ovr h
  · exact h
theorem NZ_flip {m : Bool} {z : Num} (h : NZ z) : NZ (flip m z) := by
  unfold flip; split
  · exact NZ_ovr h
  · exact h
theorem sz_flip {m : Bool} {n : Nat} {z : Num} (h : Sz n z) : Sz n (flip m z) := by
  unfold flip; split
  · exact h.ovr
  · exact h
theorem Cp.at_eq (c : Cp) (z : Num) : c.at z = add (mul c.t (flip c.m z)) c.s := rfl
theorem Cp.can_at {c : Cp} {z : Num} (h : c.ok) (hz : Can z) : Can (c.at z) := can_add (can_mul h.1 (can_flip hz)) h.2.2
theorem Cp.sz_at {c : Cp} {z : Num} {n m : Nat} (h : c.ok) (hz : Can z) (s : c.sz n) (l : Sz m z) : Sz (n + m + 1 + n + 1) (c.at z) :=
  Sz.add (can_mul h.1 (can_flip hz)) h.2.2 (Sz.mul h.1 (can_flip hz) s.1 (sz_flip l)) s.2
theorem Cp.comp_ok {a b : Cp} (ha : a.ok) (hb : b.ok) : (a.comp b).ok := ⟨can_mul hb.1 (can_flip ha.1), NZ_mul hb.1 (can_flip ha.1) hb.2.1 (NZ_flip ha.2.1), Cp.can_at hb ha.2.2⟩
theorem Cp.inv_ok {a : Cp} (h : a.ok) : a.inv.ok :=
  ⟨can_inv (NZ_flip h.2.1), NZ_inv (can_flip h.1) (NZ_flip h.2.1), can_opp (can_mul (can_inv (NZ_flip h.2.1)) (can_flip h.2.2))⟩
theorem Cp.sz.mono {a : Cp} {n m : Nat} (s : a.sz n) (h : n ≤ m) : a.sz m := ⟨s.1.mono h, s.2.mono h⟩
theorem Sz.one : Sz 1 one := ⟨by unfold Bt; decide, by unfold Bt; decide, by unfold Bt; decide⟩

/-! ### copies: the defs -/
theorem vc_carried (Γ : CL) : ∀ ds μ R, sp_carried Γ ds μ R → rd_carried Γ (fin R) (startD 2 ds) μ := by
  rintro ds μ R ⟨⟨t, s, m⟩, z, rfl, ⟨k1, k2, k3⟩, ⟨s1, s2⟩, kz, sz, h⟩
  simp only at k1 k2 k3 s1 s2
  unfold rd_carried copyD
  cases m with
  | false =>
    walk_at "d"
    simp only [sp_multiplied, sp_added]
    exact ⟨ne_d k1, ne_d kz, s1.mono (by decide), sz.mono (by decide), ne_d (can_mul k1 kz), ne_d k3, (Sz.mul k1 kz s1 sz).mono (by decide), s2.mono (by decide), h⟩
  | true =>
    walk_at "d"
    simp only [sp_turned_over, numD, sp_multiplied, sp_added]
    exact ⟨ne_d k1, ne_d (can_ovr kz), s1.mono (by decide), sz.ovr.mono (by decide), ne_d (can_mul k1 (can_ovr kz)), ne_d k3, (Sz.mul k1 (can_ovr kz) s1 sz.ovr).mono (by decide), s2.mono (by decide), h⟩
theorem vc_Copy___init (Γ : CL) : ∀ ds μ R, sp_Copy___init Γ ds μ R → rd_Copy___init Γ (fin R) (startD 4 ds) μ := by
  intro ds μ R h
  unfold sp_Copy___init at h
  split at h <;> first | exact h.elim | skip
  obtain ⟨h1, h2, h3, s1, s2, hm, h⟩ := h
  unfold rd_Copy___init
  walk_at "d"
  simp only [sp_check_turn, sp_check_spot, hm]
  walk_at "d"
  refine ⟨h1, h2, s1, h3, s2, (by show 0 < 1000; decide), (by show 1 < 1000; decide), (by show 2 < 1000; decide), (by show 3 < 1000; decide), ?_⟩
  exact h
theorem make_copy {Γ : CL} {t s : Num} {m : Bool} {μ : MH} {R : D → MH → Prop} (h1 : Can t) (h2 : NZ t) (h3 : Can s) (s1 : Sz big t) (s2 : Sz big s) (h : R (copyD Γ ⟨t, s, m⟩) μ) : gMake Γ.Copy (sp_Copy___init Γ) [numD t, numD s, .bl m] μ R := by
  intro x hx
  refine ⟨h1, h2, h3, s1, s2, updM_same, rfl, ?_⟩
  rw [updM_updM, updM_same]
  show R _ (delM (updM μ x _) x)
  rw [delM_updM hx]
  exact h
end L3

/-! ## V3 -/
set_option Elab.async false
set_option linter.all false
set_option maxRecDepth 100000
set_option maxHeartbeats 4000000
namespace L3
open PySem NM L2
local macro_rules | `(tactic| walk_at "d") => `(tactic| (try (simp only [rSeq, rAsg, rRet, rRetN, rDrop, rIf, rNext, rPar, rPar3, rCons, rNil, rStar, rCl, rOp, rUn, rVar, rC, rGN, rTup, rLst, rB, rAnd, rOr, rNot, rIfE, rAndV, rOrV, rNotV, rNever, rFld, rOwn, rMeth, rMakeK, rMakeD, rFldS, rFrz, rSetIx, rMut, rILst, rITup, rIRng1, rIRng2, rFor, rLc, rLcM, rTrue, gt, st, gI, gI0, gU, gIx, gEq, gNe, gAdd, gSub, gMul, gDiv, gMod, gPow, gLt, gLe, gGt, gGe, gIsi, gAbs, gLen, gAll, gIsN, gNotN, gOwn1, gOwn2, isNonD, seqD, res, atI_0, atI_1, atI_2, atI_3, atI_4, List.getElem?_cons_zero, List.getElem?_cons_succ, List.length_cons, List.length_nil, decide_eq_true_eq, List.map_cons, List.map_nil, startD, List.cons_append, List.nil_append, List.replicate, Nat.zero_add, numD, if_true, if_false, Bool.false_eq_true, and_self, true_and, ite_true, ite_false, Nat.reduceAdd, Nat.reduceSub, ln, Nat.reduceLeDiff, fin, String.reduceBEq, Bool.not_true, Bool.not_false, pureN, deq_int, deq_tt, deq_t0, deq_bl, List.all_cons, List.all_nil, Bool.and_true, Bool.true_and, Bool.and_eq_true, List.append_nil, lk_turn, lk_shift, lk_mirrored, lk_key, insD, updM_same, updM_updM, Option.map_some, Option.map_none])))
theorem fmod_nn {a b : Int} (h : 0 < b) : 0 ≤ a.fmod b := by
  rw [Int.fmod_eq_emod_of_nonneg _ (by omega)]
  exact Int.emod_nonneg _ (by omega)
theorem fmod_lt {a b : Int} (h : 0 < b) : a.fmod b < b := by
  rw [Int.fmod_eq_emod_of_nonneg _ (by omega)]
  exact Int.emod_lt_of_pos _ h
theorem fdiv_nn {a b : Int} (ha : 0 ≤ a) (h : 0 < b) : 0 ≤ a.fdiv b := by
  rw [Int.fdiv_eq_ediv_of_nonneg _ (by omega)]
  exact Int.ediv_nonneg ha (by omega)
theorem bt_small {i : Int} {n : Nat} (h : i.natAbs < 1000) (l : 10 ≤ n) : Bt n i := Bt.mono (n := 10) (by unfold Bt; omega) l
theorem ixN_0 (n : Nat) : ixN (n + 1) 0 = some 0 := by
  unfold ixN
  rw [if_pos (by decide), if_pos (by omega)]
  rfl
theorem ixN_1 (n : Nat) : ixN (n + 1 + 1) 1 = some 1 := by
  unfold ixN
  rw [if_pos (by decide), if_pos (by omega)]
  rfl
theorem pop_2 (a b c : D) (r : List D) (R : D → List D → Prop) (h : R c (a :: b :: r)) : gPopAt (a :: b :: c :: r) [.int 2] R := by
  unfold gPopAt
  refine ⟨by decide, by decide, ?_⟩
  have : seqIndex? 2 (a :: b :: c :: r).length = some 2 := by
    unfold seqIndex?
    simp only [List.length_cons]
    rw [if_neg (show ¬ (2 : Int) < 0 by decide), decide_eq_true (show (0 : Int) ≤ 2 by decide), decide_eq_true (show (2 : Int) < ((r.length + 1 + 1 + 1 : Nat) : Int) by omega)]
    rfl
  rw [this]
  exact h
theorem RL.i {s p : Int} {r : List Int} (h1 : 0 ≤ s) (h2 : s < 2147483648) (h3 : 0 ≤ p) (h4 : ∀ x ∈ r, 0 ≤ x) : RL (.int s :: .int p :: r.map D.int) := ⟨s, p, r, rfl, h1, h2, h3, h4⟩
theorem bt_s {s : Int} (h1 : 0 ≤ s) (h2 : s < 2147483648) : Bt big s := Bt.mono (n := 31) (by unfold Bt; omega) (by decide)
theorem vc_law_below (Γ : CL) : ∀ ds μ R, sp_law_below Γ ds μ R → rd_law_below Γ (fin R) (startD 3 ds) μ := by
  rintro ds μ R ⟨g, n, xs, rfl, n0, n1, hm, ⟨s, p, r, rfl, hs, hs2, hp, hr⟩, h⟩
  unfold rd_law_below
  have cd : ∀ i, CDivX i n := fun i => ⟨by omega, bt_small (by omega) (by decide)⟩
  have cm : CBig s 48271 := ⟨bt_s hs hs2, Bt.mono (n := 31) (by unfold Bt; decide) (by decide)⟩
  have c64 : ∀ i, CDivX i 64 := fun i => ⟨by decide, bt_small (by decide) (by decide)⟩
  have n0' : n ≠ 0 := by omega
  have m1 : 0 ≤ (s * 48271 + 11).fmod 2147483647 := fmod_nn (by decide)
  have m2 : (s * 48271 + 11).fmod 2147483647 < 2147483647 := fmod_lt (by decide)
  by_cases p0 : p = 0
  · subst p0
    cases r with
    | nil =>
      walk_at "d"
      simp only [hm]
      walk_at "d"
      simp only [ixN_0, ixN_1, List.set_cons_zero, List.set_cons_succ]
      walk_at "d"
      exact ⟨cm, by decide, c64 _, n0', h _ _ (fmod_nn n0) (fmod_lt n0) (RL.i (r := []) m1 (by omega) hp (by simp))⟩
    | cons x r =>
      have hx := hr x (List.mem_cons_self ..)
      have hr' : ∀ y ∈ r, 0 ≤ y := fun y hy => hr y (List.mem_cons_of_mem _ hy)
      walk_at "d"
      simp only [hm]
      walk_at "d"
      rw [if_pos (by decide), if_pos (by omega)]
      refine pop_2 _ _ _ _ _ ?_
      simp only [List.length_cons, ixN_0, ixN_1, List.set_cons_zero, List.set_cons_succ]
      walk_at "d"
      split
      · exact ⟨n0', cd _, h _ _ (fmod_nn n0) (fmod_lt n0) (RL.i hs hs2 (fdiv_nn hx n0) hr')⟩
      · exact ⟨cm, by decide, c64 _, n0', h _ _ (fmod_nn n0) (fmod_lt n0) (RL.i m1 (by omega) hx hr')⟩
  · walk_at "d"
    simp only [hm]
    walk_at "d"
    rw [if_neg (by simpa using p0)]
    rw [if_pos (by omega)]
    simp only [ixN_0, ixN_1, List.set_cons_zero, List.set_cons_succ]
    exact ⟨n0', cd _, h _ _ (fmod_nn n0) (fmod_lt n0) (RL.i hs hs2 (fdiv_nn hp n0) hr)⟩

/-! ### random -/
theorem random_loop {D : Ed} {a b : Option L3.D} {μ : MH} : ∀ (ns : List Int) (seed : Int) (c : Option L3.D), 0 ≤ seed → seed < 2147483648 → (∀ s c, 0 ≤ s → s < 2147483648 → D.nx [a, b, some (.int s), c] μ) →
    forD (rGN 3) (rAsg (rOp gMod (rOp gAdd (rOp gMul (rVar 2) (rC (.int 31))) (rCl gAbs (rCons (rVar 3) rNil))) (rC (.int 2147483647))) (rGN 2)) tru D (ns.map L3.D.int) [a, b, some (.int seed), c] μ
  | [], seed, c, h1, h2, h => ⟨trivial, h _ _ h1 h2⟩
  | n :: ns, seed, c, h1, h2, h => by
    refine ⟨trivial, ?_⟩
    walk_at "d"
    refine ⟨⟨bt_s h1 h2, bt_small (by decide) (by decide)⟩, by decide, ?_⟩
    exact random_loop ns _ _ (fmod_nn (by decide)) (Int.lt_trans (fmod_lt (by decide)) (by decide)) h
theorem random_comp {ρ : EV} {μ : MH} {R : List D → MH → Prop} : ∀ (ns : List Int) (acc : List D), R (acc ++ (ns.filter fun n => decide ((1000000000000000000 : Int) ≤ n)).map D.int) μ →
    lcD (rGN 3) (rB (rOp gGe (rVar 3) (rOp gPow (rC (.int 10)) (rC (.int 18))))) (rVar 3) tru [ρ.getD 0 none, ρ.getD 1 none, ρ.getD 2 none, none] (ns.map D.int) acc μ R
  | [], acc, h => ⟨trivial, by simpa using h⟩
  | n :: ns, acc, h => by
    refine ⟨trivial, ?_⟩
    have e : (10 : Int) ^ (18 : Int).toNat = 1000000000000000000 := by decide +kernel
    walk_at "d"
    refine ⟨⟨by decide, by decide, by decide⟩, ?_⟩
    rw [e]
    rw [List.filter_cons] at h
    by_cases q : (1000000000000000000 : Int) ≤ n
    · rw [if_pos (decide_eq_true q)] at h
      rw [if_pos q]
      refine random_comp ns _ ?_
      rw [List.append_assoc]
      exact h
    · rw [if_neg (by simpa using q)] at h
      rw [if_neg q]
      exact random_comp ns _ h
theorem vc_law_random (Γ : CL) : ∀ ds μ R, sp_law_random Γ ds μ R → rd_law_random Γ (fin R) (startD 4 ds) μ := by
  rintro ds μ R ⟨ns, salt, rfl, h1, h2, h3, h⟩
  unfold rd_law_random
  walk_at "d"
  refine random_loop ns salt none h1 (by omega) fun s c s1 s2 => ?_
  simp only [rms, rm]
  refine ⟨Nat.le_trans (by rw [List.length_map]; exact h3) (show 63 ≤ sizeLine by decide), ?_⟩
  refine random_comp (ρ := [some (.scr (ns.map D.int)), some (.int salt), some (.int s), none]) ns [] ?_
  walk_at "d"
  simp only [gAddM, res]
  refine ⟨?_, fun g hg => h g _ hg ⟨s, 0, _, rfl, s1, s2, by decide, fun x hx => ?_⟩⟩
  · rw [List.length_map]
    have := List.length_filter_le (fun n => decide ((1000000000000000000 : Int) ≤ n)) ns
    show 0 + 1 + 1 + _ ≤ 2 ^ 24
    omega
  · have := (List.mem_filter.mp hx).2
    simp only [decide_eq_true_eq] at this
    omega

/-! ### random turns, spots, copies -/
theorem vc_law_common (Γ : CL) : ∀ ds μ R, sp_law_common Γ ds μ R → rd_law_common Γ (fin R) (startD 2 ds) μ := vc_common_divisor Γ
theorem vc_law_lowest (Γ : CL) : ∀ ds μ R, sp_law_lowest Γ ds μ R → rd_law_lowest Γ (fin R) (startD 4 ds) μ := by
  intro ds μ R h
  unfold sp_law_lowest sp_lowest at h
  split at h <;> first | exact h.elim | skip
  rename_i x y d
  obtain ⟨h1, hx, hy, hd, h⟩ := h
  unfold rd_law_lowest
  walk_at "d"
  simp only [sp_law_common, sp_common_divisor]
  walk_at "d"
  have g1 := gz_ne (a := gz x y) h1
  have g2 := bt_gz (a := gz x y) h1 hd
  rw [← lowL_eq h1] at h
  unfold lowL at h
  simp only [numD] at h
  split <;> rename_i hp
  · simp only [if_pos hp] at h
    exact ⟨⟨g1, g2⟩, ⟨g1, g2⟩, ⟨g1, g2⟩, h⟩
  · simp only [if_neg hp] at h
    have g1' : 0 - gz (gz x y) d ≠ 0 := by omega
    exact ⟨⟨g1', g2.neg⟩, ⟨g1', g2.neg⟩, ⟨g1', g2.neg⟩, h⟩
/-! ### the law's own numbers -/
theorem vc_law_plus (Γ : CL) : ∀ ds μ R, sp_law_plus Γ ds μ R → rd_law_plus Γ (fin R) (startD 4 ds) μ := by
  intro ds μ R h
  unfold sp_law_plus sp_added at h
  split at h <;> first | exact h.elim | skip
  obtain ⟨h1, h2, ⟨x1, x2, x3⟩, ⟨y1, y2, y3⟩, h⟩ := h
  unfold rd_law_plus
  walk_at "d"
  simp only [sp_law_lowest, sp_lowest]
  have c : ∀ {a b : Int}, Bt half a → Bt half b → CBig a b := fun h l => ⟨h.mono (by decide), l.mono (by decide)⟩
  refine ⟨c x1 y3, c y1 x3, c x2 y3, c y2 x3, c x3 y3, Int.mul_ne_zero h1 h2, ((x1.mul y3).add (y1.mul x3)).mono (by decide), ((x2.mul y3).add (y2.mul x3)).mono (by decide), bb x3 y3, h⟩
/-! ### what the law holds alike -/
theorem ty_b : (tyOK "bool" = true) = True := eq_true (by decide)
theorem ty_i : (tyOK "int" = true) = True := eq_true (by decide)
theorem ty_s : (tyOK "str" = true) = True := eq_true (by decide)
theorem ty_t : (tyOK "tuple" = true) = True := eq_true (by decide)
theorem ty_l : (tyOK "list" = true) = True := eq_true (by decide)
theorem sames_iff : ∀ {as es : List D}, as.length = es.length → (sames as es = true ↔ ∀ i, i < as.length → same (as.getD i .non) (es.getD i .non) = true)
  | [], [], _ => by simp [sames]
  | [], _ :: _, h => by cases h
  | _ :: _, [], h => by cases h
  | a :: as, e :: es, h => by
    have ih := sames_iff (as := as) (es := es) (by simpa using h)
    unfold sames
    rw [Bool.and_eq_true, ih]
    constructor
    · rintro ⟨h1, h2⟩ i hi
      cases i with
      | zero => exact h1
      | succ i => exact h2 i (by simpa using hi)
    · intro q
      exact ⟨q 0 (by simp), fun i hi => q (i + 1) (by simpa using hi)⟩
theorem sames_len : ∀ {as es : List D}, as.length ≠ es.length → sames as es = false
  | [], [], h => absurd rfl h
  | [], _ :: _, _ => rfl
  | _ :: _, [], _ => rfl
  | a :: as, e :: es, h => by
    unfold sames
    rw [sames_len (as := as) (es := es) (by simpa using h), Bool.and_false]
def eqAt (as es : List D) : D → Bool
  | .int i => same (as.getD i.toNat .non) (es.getD i.toNat .non)
  | _ => false
theorem rangeD_mem : ∀ {n : Nat} {lo : Int} {d : D}, d ∈ rangeD lo n → ∃ i : Nat, i < n ∧ d = .int (lo + i)
  | 0, lo, d, h => by cases h
  | n + 1, lo, d, h => by
    rcases List.mem_cons.mp h with rfl | h
    · exact ⟨0, by omega, by simp⟩
    · obtain ⟨i, hi, rfl⟩ := rangeD_mem h
      exact ⟨i + 1, by omega, by congr 1; omega⟩
theorem mem_rangeD : ∀ {n : Nat} {lo : Int} {i : Nat}, i < n → D.int (lo + i) ∈ rangeD lo n
  | 0, lo, i, h => by omega
  | n + 1, lo, 0, h => by simp [rangeD]
  | n + 1, lo, i + 1, h => by
    refine List.mem_cons_of_mem _ ?_
    have := mem_rangeD (n := n) (lo := lo + 1) (i := i) (by omega)
    rwa [show lo + 1 + (i : Int) = lo + ((i + 1 : Nat) : Int) by omega] at this
theorem sames_all {as es : List D} (h : as.length = es.length) : ((rangeD 0 es.length).map (eqAt as es)).all _root_.id = sames as es := by
  have e : ∀ b c : Bool, (b = true ↔ c = true) → b = c := by decide
  apply e
  rw [sames_iff h, List.all_eq_true]
  constructor
  · intro q i hi
    have := q _ (List.mem_map_of_mem (mem_rangeD (n := es.length) (lo := 0) (i := i) (by omega)))
    simpa [eqAt] using this
  · intro q b hb
    obtain ⟨d, hd, rfl⟩ := List.mem_map.mp hb
    obtain ⟨i, hi, rfl⟩ := rangeD_mem hd
    have := q i (by omega)
    simpa [eqAt] using this
theorem atI_d {as : List D} {i : Nat} (h : i < as.length) : atI as (0 + (i : Int)) = some (as.getD i .non) := by
  rw [Int.zero_add, atI_lit, List.getElem?_eq_getElem h, List.getD_eq_getElem?_getD, List.getElem?_eq_getElem h]
  rfl
theorem all_pure {m : Nat} {as : List D} {i : Nat} (h : as.all (okq m) = true) : okq m (as.getD i .non) = true := by
  rw [List.getD_eq_getElem?_getD]
  cases q : as[i]? with
  | none => cases m <;> rfl
  | some d => exact List.all_eq_true.mp h d (List.mem_of_getElem? q)
/-- the last step, both alike in kind -/
theorem equal_rest (Γ : CL) {m : Nat} {as es : List D} {a e : D} {μ : MH} {R : D → MH → Prop} (ha : as.all (okq m) = true) (he : es.all (okq m) = true) (l1 : as.length ≤ 1000000) (hl : as.length = es.length) (sa : seqD (res μ a) = some as) (se : seqD (res μ e) = some es) (h : R (.bl (sames as es)) μ) :
    rRet (rCl gAll (rCons (rLc (rIRng1 (rCons (rCl gLen (rCons (rVar 1) rNil)) rNil)) (rGN 2) rTrue (rCl (sp_law_equal Γ (m + 1)) (rCons (rOp gIx (rVar 0) (rVar 2)) (rCons (rOp gIx (rVar 1) (rVar 2)) rNil))) [2]) rNil)) (fin R) [some a, some e, none] μ := by
  simp only [rRet, rCl, rCons, rLc, rIRng1, rVar, gt, gLen, List.getElem?_cons_zero, List.getElem?_cons_succ, rNil, se]
  refine ⟨by unfold inR; omega, ?_⟩
  rw [Int.toNat_natCast]
  refine ⟨by rw [rangeD_len]; exact Nat.le_trans (show es.length ≤ 1000000 by omega) (by decide), ?_⟩
  refine lcD_map (g := fun d => .bl (eqAt as es d)) _ _ (fun d hd Q q => ?_) ?_
  · obtain ⟨i, hi, rfl⟩ := rangeD_mem hd
    simp only [rms, rm, st, rCl, rOp, rCons, rVar, rNil, gt, gIx, List.getElem?_cons_zero, List.getElem?_cons_succ, sa, se]
    have e1 := atI_d (as := as) (i := i) (by omega)
    have e2 := atI_d (as := es) (i := i) (by omega)
    rw [e1, e2]
    refine ⟨all_pure ha, all_pure he, ?_⟩
    have : (0 + (i : Int)).toNat = i := by omega
    simp only [eqAt, this] at q
    exact q
  · rw [List.nil_append]
    simp only [gAll, res]
    rw [bools_map]
    show R (.bl (((rangeD 0 es.length).map (eqAt as es)).all _root_.id)) _
    rw [sames_all hl]
    exact h
def kindD : D → Nat
  | .non => 0
  | .bl _ => 1
  | .int _ => 2
  | .str _ => 3
  | .tup _ => 4
  | .lst _ => 5
  | _ => 6
local macro_rules | `(tactic| walk_at "e") => `(tactic| (simp only [rSeq, rAsg, rRet, rIf, rNext, rCons, rNil, rCl, rOp, rVar, rC, rB, rAndV, rNotV, gt, gIsN, isNonD, res, List.getElem?_cons_zero, List.getElem?_cons_succ, startD, List.map_cons, List.map_nil, List.cons_append, List.nil_append, List.replicate, if_true, if_false, Bool.false_eq_true, ite_true, ite_false, gIsi, isiD, ty_b, ty_i, ty_s, ty_t, ty_l, true_and, String.reduceBEq, Bool.or_true, Bool.or_false, Bool.true_or, Bool.false_or, Bool.or_self, gEq, gNe, gLen, pureN, deq_non, deq_bl, deq_int, deq_str, fin, Bool.not_true, Bool.not_false, seqD, Nat.reduceAdd, Nat.reduceSub, List.length_cons, List.length_nil, bne_self_eq_false, beq_self_eq_true]))
theorem vc_law_equal (Γ : CL) (m : Nat) : ∀ ds μ R, sp_law_equal Γ (m + 1) ds μ R → rd_law_equal Γ m (fin R) (startD 3 ds) μ := by
  intro ds μ R h
  replace h : eqSp m ds μ R := h
  unfold eqSp at h
  split at h <;> first | exact h.elim | skip
  rename_i a e
  obtain ⟨ha, he, h⟩ := h
  unfold rd_law_equal
  have no : ∀ {k : Nat} {d : D}, okq k d = true → kindD d < 6 := by
    intro k d q
    cases d <;> first | (simp only [kindD]; done) | (simp [kindD]; done) | (exfalso; cases k <;> cases q)
  have na := no ha
  have ne := no he
  cases e with
  | ref _ => simp [kindD] at ne
  | ins _ _ => simp [kindD] at ne
  | ty _ => simp [kindD] at ne
  | scr _ => simp [kindD] at ne
  | non =>
    cases a <;> first | (exfalso; simp [kindD] at na; done) | skip
    all_goals (walk_at "e"; exact h)
  | bl b =>
    cases a <;> first | (exfalso; simp [kindD] at na; done) | skip
    all_goals (walk_at "e"; exact h)
  | int b =>
    cases a <;> first | (exfalso; simp [kindD] at na; done) | skip
    all_goals (walk_at "e"; exact h)
  | str b =>
    have he' : PyData.strOk b = true := by cases m <;> exact he
    cases a <;> first | (exfalso; simp [kindD] at na; done) | skip
    case str c =>
      have ha' : PyData.strOk c = true := by cases m <;> exact ha
      walk_at "e"
      exact ⟨ha', he', h⟩
    all_goals (walk_at "e"; exact h)
  | tup es =>
    cases a <;> first | (exfalso; simp [kindD] at na; done) | skip
    case tup as =>
      cases m with
      | zero => cases ha
      | succ m =>
        simp only [okq, Bool.and_eq_true, decide_eq_true_eq] at ha he
        walk_at "e"
        by_cases hl : as.length = es.length
        · rw [if_neg (by simp [hl, PyData.eqv])]
          exact equal_rest Γ (a := .tup as) (e := .tup es) ha.2 he.2 ha.1 hl rfl rfl h
        · rw [if_pos (by simp; omega)]
          have : same (.tup as) (.tup es) = false := sames_len hl
          rw [this] at h
          exact h
    all_goals (walk_at "e"; exact h)
  | lst es =>
    cases a <;> first | (exfalso; simp [kindD] at na; done) | skip
    case lst as =>
      cases m with
      | zero => cases ha
      | succ m =>
        simp only [okq, Bool.and_eq_true, decide_eq_true_eq] at ha he
        walk_at "e"
        by_cases hl : as.length = es.length
        · rw [if_neg (by simp [hl, PyData.eqv])]
          exact equal_rest Γ (a := .lst as) (e := .lst es) ha.2 he.2 ha.1 hl rfl rfl h
        · rw [if_pos (by simp; omega)]
          have : same (.lst as) (.lst es) = false := sames_len hl
          rw [this] at h
          exact h
    all_goals (walk_at "e"; exact h)
end L3

/-! ## CM -/
set_option Elab.async false
set_option linter.all false
set_option maxHeartbeats 4000000
/-! Mathematics of copies. -/
namespace L3
open NM L2
def sg (m : Bool) : Rat := if m then -1 else 1
theorem sg_sq (m : Bool) : sg m * sg m = 1 := by cases m <;> decide +kernel
theorem sg_ne (m m' : Bool) : sg (m != m') = sg m * sg m' := by cases m <;> cases m' <;> decide +kernel
theorem re_flip {m : Bool} {z : Num} : re (flip m z) = re z := by cases m <;> rfl
theorem im_flip {m : Bool} {z : Num} : im (flip m z) = sg m * im z := by
  cases m
  · show im z = 1 * im z
    grind
  · show im (ovr z) = -1 * im z
    rw [im_ovr]
    grind
theorem re_at {c : Cp} {z : Num} (h : c.ok) (hz : Can z) : re (c.at z) = re c.t * re z - im c.t * (sg c.m * im z) + re c.s := by
  rw [Cp.at_eq, re_add (can_mul h.1 (can_flip hz)) h.2.2, re_mul h.1 (can_flip hz), re_flip, im_flip]
theorem im_at {c : Cp} {z : Num} (h : c.ok) (hz : Can z) : im (c.at z) = re c.t * (sg c.m * im z) + im c.t * re z + im c.s := by
  rw [Cp.at_eq, im_add (can_mul h.1 (can_flip hz)) h.2.2, im_mul h.1 (can_flip hz), re_flip, im_flip]
theorem re_ct {a b : Cp} (ha : a.ok) (hb : b.ok) : re (a.comp b).t = re b.t * re a.t - im b.t * (sg b.m * im a.t) := by
  show re (mul b.t (flip b.m a.t)) = _
  rw [re_mul hb.1 (can_flip ha.1), re_flip, im_flip]
theorem im_ct {a b : Cp} (ha : a.ok) (hb : b.ok) : im (a.comp b).t = re b.t * (sg b.m * im a.t) + im b.t * re a.t := by
  show im (mul b.t (flip b.m a.t)) = _
  rw [im_mul hb.1 (can_flip ha.1), re_flip, im_flip]
theorem Cp.comp_at {a b : Cp} {z : Num} (ha : a.ok) (hb : b.ok) (hz : Can z) : (a.comp b).at z = b.at (a.at z) := by
  have hc := Cp.comp_ok ha hb
  have e : (a.comp b).s = b.at a.s := rfl
  have em : (a.comp b).m = (a.m != b.m) := rfl
  refine NM.ext (Cp.can_at hc hz) (Cp.can_at hb (Cp.can_at ha hz)) ?_ ?_
  · rw [re_at hc hz, re_at hb (Cp.can_at ha hz), re_at ha hz, im_at ha hz, e, em, re_ct ha hb, im_ct ha hb, re_at hb ha.2.2, sg_ne]
    have := sg_sq b.m
    grind
  · rw [im_at hc hz, im_at hb (Cp.can_at ha hz), re_at ha hz, im_at ha hz, e, em, re_ct ha hb, im_ct ha hb, im_at hb ha.2.2, sg_ne]
    have := sg_sq b.m
    grind
theorem Cp.ext' {a b : Cp} (h1 : a.t = b.t) (h2 : a.s = b.s) (h3 : a.m = b.m) : a = b := by
  cases a; cases b
  simp only at h1 h2 h3
  rw [h1, h2, h3]
theorem Cp.id_ok : Cp.id.ok := ⟨can_one, by unfold NZ; decide, can_zero⟩
theorem re_ids : re Cp.id.s = 0 := re_zero
theorem im_ids : im Cp.id.s = 0 := im_zero
theorem re_idt : re Cp.id.t = 1 := re_one
theorem im_idt : im Cp.id.t = 0 := im_one
theorem sg_f : sg false = 1 := rfl
theorem Cp.id_at {z : Num} (hz : Can z) : Cp.id.at z = z := by
  refine NM.ext (Cp.can_at Cp.id_ok hz) hz ?_ ?_
  · rw [re_at Cp.id_ok hz, re_idt, im_idt, re_ids]; grind
  · rw [im_at Cp.id_ok hz, re_idt, im_idt, im_ids, show Cp.id.m = false from rfl, sg_f]; grind
/-! ### coming back -/
theorem nrm_ne {a : Num} (ha : Can a) (na : NZ a) : re a * re a + im a * im a ≠ 0 := (nz_iff ha).mp na
theorem re_it {a : Cp} (ha : a.ok) : re a.inv.t = re a.t / (re a.t * re a.t + im a.t * im a.t) := by
  show re (NM.inv (flip a.m a.t)) = _
  rw [re_inv (can_flip ha.1) (NZ_flip ha.2.1)]
  unfold nrm
  rw [re_flip, im_flip]
  have := sg_sq a.m
  congr 1
  grind
theorem im_it {a : Cp} (ha : a.ok) : im a.inv.t = - (sg a.m * im a.t) / (re a.t * re a.t + im a.t * im a.t) := by
  show im (NM.inv (flip a.m a.t)) = _
  rw [im_inv (can_flip ha.1) (NZ_flip ha.2.1)]
  unfold nrm
  rw [re_flip, im_flip]
  have := sg_sq a.m
  congr 1
  grind
theorem re_is {a : Cp} (ha : a.ok) : re a.inv.s = - (re a.inv.t * re a.s - im a.inv.t * (sg a.m * im a.s)) := by
  show re (opp (mul a.inv.t (flip a.m a.s))) = _
  rw [re_opp, re_mul (Cp.inv_ok ha).1 (can_flip ha.2.2), re_flip, im_flip]
theorem im_is {a : Cp} (ha : a.ok) : im a.inv.s = - (re a.inv.t * (sg a.m * im a.s) + im a.inv.t * re a.s) := by
  show im (opp (mul a.inv.t (flip a.m a.s))) = _
  rw [im_opp, im_mul (Cp.inv_ok ha).1 (can_flip ha.2.2), re_flip, im_flip]
theorem Cp.comp_inv {a : Cp} (ha : a.ok) : a.comp a.inv = Cp.id := by
  have hi := Cp.inv_ok ha
  have hn := nrm_ne ha.1 ha.2.1
  have hs := sg_sq a.m
  have em : a.inv.m = a.m := rfl
  have es : (a.comp a.inv).s = a.inv.at a.s := rfl
  refine Cp.ext' (NM.ext (Cp.comp_ok ha hi).1 can_one ?_ ?_) (NM.ext (Cp.comp_ok ha hi).2.2 can_zero ?_ ?_) ?_
  · rw [re_ct ha hi, re_it ha, im_it ha, re_idt, em]
    grind
  · rw [im_ct ha hi, re_it ha, im_it ha, im_idt, em]
    grind
  · rw [es, re_at hi ha.2.2, re_is ha, re_it ha, im_it ha, re_ids, em]
    grind
  · rw [es, im_at hi ha.2.2, im_is ha, re_it ha, im_it ha, im_ids, em]
    grind
  · show (a.m != a.m) = false
    cases a.m <;> rfl
/-! ### sizes -/
theorem gz_0 (a b : Int) : gz (gz a 0) b = gz a b := by
  unfold gz
  rw [Int.gcd_zero_right]
  unfold Int.gcd
  rw [Int.natAbs_natCast]
/-! ### inverses -/
theorem Cp.inv_at {a : Cp} {z : Num} (ha : a.ok) (hz : Can z) : a.inv.at (a.at z) = z := by
  rw [← Cp.comp_at ha (Cp.inv_ok ha) hz, Cp.comp_inv ha, Cp.id_at hz]
end L3

/-! ## CM2 -/
set_option Elab.async false
set_option linter.all false
set_option maxHeartbeats 4000000
/-! Spots that are kept. -/
namespace L3
open NM L2
theorem gz_comm (a b : Int) : gz a b = gz b a := by unfold gz; rw [Int.gcd_comm]
theorem gz_assoc (a b c : Int) : gz (gz a b) c = gz a (gz b c) := by unfold gz; rw [Int.gcd_assoc]
theorem gz3_rev (a b c : Int) : gz (gz a b) c = gz (gz c b) a := by
  rw [gz_comm (gz a b) c, gz_comm a b, ← gz_assoc]
theorem lineOf_uniq {a b c a' b' c' : Int} (h : a ≠ 0 ∨ b ≠ 0) (h' : a' ≠ 0 ∨ b' ≠ 0) (e1 : a * b' = a' * b) (e2 : a * c' = a' * c) (e3 : b * c' = b' * c) : lineOf a b c = lineOf a' b' c' := by
  unfold lineOf
  by_cases ha : a = 0
  · have hb : b ≠ 0 := by simpa [ha] using h
    have ha' : a' = 0 := by
      rw [ha, Int.zero_mul] at e1
      rcases Int.mul_eq_zero.mp e1.symm with q | q
      · exact q
      · exact absurd q hb
    have hb' : b' ≠ 0 := by simpa [ha'] using h'
    rw [if_neg (by simp [ha]), if_neg (by simp [ha'])]
    have := low_eq (x := c) (y := 0) (x' := c') (y' := 0) hb hb' (by grind) (by simp)
    rw [this]
  · have ha' : a' ≠ 0 := by
      intro q
      rw [q, Int.zero_mul] at e1
      rcases Int.mul_eq_zero.mp e1 with z | z
      · exact ha z
      · rw [q] at h'
        simp [z] at h'
    rw [if_pos ha, if_pos ha']
    have := low_eq (x := c) (y := b) (x' := c') (y' := b') ha ha' (by grind) (by grind)
    rw [this]
def keptOn : Kp → Num → Prop
  | .all, _ => True
  | .none, _ => False
  | .spot w, z => z = w
  | .line a b c, z => a * z.x + b * z.y = c * z.d
theorem can_img : Can img := ⟨by decide, by decide⟩
end L3

/-! ## V5 -/
set_option Elab.async false
set_option linter.all false
set_option maxRecDepth 100000
set_option maxHeartbeats 4000000
namespace L3
open PySem NM L2
local macro_rules | `(tactic| walk_at "d") => `(tactic| (try (simp only [rSeq, rAsg, rRet, rRetN, rDrop, rIf, rNext, rPar, rPar3, rCons, rNil, rStar, rCl, rOp, rUn, rVar, rC, rGN, rTup, rLst, rB, rAnd, rOr, rNot, rIfE, rAndV, rOrV, rNotV, rNever, rFld, rOwn, rMeth, rMakeK, rMakeD, rFldS, rFrz, rSetIx, rMut, rILst, rITup, rIRng1, rIRng2, rFor, rLc, rLcM, rTrue, gt, st, gI, gI0, gU, gIx, gEq, gNe, gAdd, gSub, gMul, gDiv, gMod, gPow, gLt, gLe, gGt, gGe, gIsi, gAbs, gLen, gAll, gIsN, gNotN, gOwn1, gOwn2, isNonD, seqD, res, atI_0, atI_1, atI_2, atI_3, atI_4, List.getElem?_cons_zero, List.getElem?_cons_succ, List.length_cons, List.length_nil, decide_eq_true_eq, List.map_cons, List.map_nil, startD, List.cons_append, List.nil_append, List.replicate, Nat.zero_add, numD, if_true, if_false, Bool.false_eq_true, and_self, true_and, ite_true, ite_false, Nat.reduceAdd, Nat.reduceSub, ln, Nat.reduceLeDiff, fin, String.reduceBEq, Bool.not_true, Bool.not_false, pureN, deq_int, deq_tt, deq_t0, deq_bl, List.all_cons, List.all_nil, Bool.and_true, Bool.true_and, Bool.and_eq_true, List.append_nil, lk_turn, lk_shift, lk_mirrored, lk_key, insD, updM_same, updM_updM, Option.map_some, Option.map_none])))
theorem vc_law_minus (Γ : CL) : ∀ ds μ R, sp_law_minus Γ ds μ R → rd_law_minus Γ (fin R) (startD 2 ds) μ := by
  intro ds μ R h
  unfold sp_law_minus sp_less at h
  split at h <;> first | exact h.elim | skip
  rename_i x y d u v w
  obtain ⟨h1, h2, s1, s2, h⟩ := h
  unfold rd_law_minus
  walk_at "d"
  simp only [sp_law_plus, sp_added]
  exact ⟨h1, h2, s1, s2.opp, h⟩
theorem insD_copy {Γ : CL} {μ : MH} {c : Cp} : insD μ (copyD Γ c) = some (Γ.Copy, copyFs c) := rfl
theorem own2_c {Γ : CL} {μ : MH} {s : GN} {R : D → MH → Prop} {a b : Cp} : gOwn2 Γ.Copy s (copyD Γ a) (copyD Γ b) μ R = s [copyD Γ a, copyD Γ b] μ R := propext ⟨fun h => h.2.2, fun h => ⟨rfl, rfl, h⟩⟩
theorem own1_c {Γ : CL} {μ : MH} {s : GN} {R : D → MH → Prop} {a : Cp} : gOwn1 Γ.Copy s (copyD Γ a) μ R = s [copyD Γ a] μ R := propext ⟨fun h => h.2, fun h => ⟨rfl, h⟩⟩
theorem res_num {μ : MH} {z : Num} : res μ (numD z) = numD z := rfl
theorem gEq_n {a b : Num} {μ : MH} {R : D → MH → Prop} : gEq (numD a) (numD b) μ R = R (.bl (decide (a = b))) μ := by
  unfold gEq
  rw [res_num, res_num, deq_num]
  exact propext ⟨fun h => h.2.2, fun h => ⟨rfl, rfl, h⟩⟩
theorem gNe_n {a b : Num} {μ : MH} {R : D → MH → Prop} : gNe (numD a) (numD b) μ R = R (.bl (!decide (a = b))) μ := by
  unfold gNe
  rw [res_num, res_num, deq_num]
  exact propext ⟨fun h => h.2.2, fun h => ⟨rfl, rfl, h⟩⟩
theorem gNe_ii {a b c d : Int} {μ : MH} {R : D → MH → Prop} : gNe (.tup [.int a, .int b]) (.tup [.int c, .int d]) μ R = R (.bl (!(a == c && b == d))) μ := by
  unfold gNe
  refine propext ⟨fun h => ?_, fun h => ⟨rfl, rfl, ?_⟩⟩
  · have := h.2.2
    simpa [res, deq_tt, deq_t0, deq_int] using this
  · simpa [res, deq_tt, deq_t0, deq_int] using h
theorem cONE : c_ONE = numD one := rfl
theorem cZERO : c_ZERO = numD zero := rfl
section
variable {Γ : CL} {μ : MH} {Q : D → MH → Prop} {a b : Num}
end
local macro_rules | `(tactic| walk_at "k") => `(tactic| (try (simp only [rSeq, rAsg, rRet, rRetN, rDrop, rIf, rNext, rPar, rPar3, rCons, rNil, rStar, rCl, rOp, rUn, rVar, rC, rGN, rTup, rLst, rB, rAnd, rOr, rNot, rIfE, rAndV, rOrV, rNotV, rNever, rFld, rOwn, rMeth, rMakeK, rMakeD, rFldS, rFrz, rSetIx, rMut, rILst, rITup, rIRng1, rIRng2, rFor, rLc, rLcM, rTrue, gt, st, gI, gI0, gU, gIx, gEq_n, gNe_n, gNe_ii, cONE, cZERO, gAdd, gSub, gMul, gDiv, gMod, gPow, gLt, gLe, gGt, gGe, gIsi, gAbs, gLen, gAll, gIsN, gNotN, gOwn1, gOwn2, isNonD, seqD, res, atI_0, atI_1, atI_2, atI_3, atI_4, List.getElem?_cons_zero, List.getElem?_cons_succ, List.length_cons, List.length_nil, decide_eq_true_eq, List.map_cons, List.map_nil, startD, List.cons_append, List.nil_append, List.replicate, Nat.zero_add, if_true, if_false, Bool.false_eq_true, and_self, true_and, ite_true, ite_false, Nat.reduceAdd, Nat.reduceSub, ln, Nat.reduceLeDiff, fin, String.reduceBEq, Bool.not_true, Bool.not_false, pureN, deq_int, deq_tt, deq_t0, deq_bl, List.all_cons, List.all_nil, Bool.and_true, Bool.true_and, Bool.and_eq_true, List.append_nil, lk_turn, lk_shift, lk_mirrored, lk_key, insD_copy, updM_same, updM_updM, Option.map_some, Option.map_none])))
end L3

/-! ## LW -/
set_option Elab.async false
set_option linter.all false
set_option maxRecDepth 100000
set_option maxHeartbeats 4000000
namespace L3
open PySem NM L2
theorem rG_nil {ρ : EV} {μ : MH} {Q : EV → MH → Prop} : rGNil [] ρ μ Q = Q ρ μ := propext ⟨fun h => h.2, fun h => ⟨rfl, h⟩⟩
theorem rG_cons {g : RG} {gs : RGs} {d : D} {r : List D} {ρ : EV} {μ : MH} {Q : EV → MH → Prop} : rGCons g gs (d :: r) ρ μ Q = g d ρ μ fun ρ1 μ1 => gs r ρ1 μ1 Q := rfl
theorem rGLst_i {n : Nat} {g : RGs} {ds : List D} {ρ : EV} {μ : MH} {Q : EV → MH → Prop} : rGLst n g (.lst ds) ρ μ Q = (ds.length = n ∧ g ds ρ μ Q) := rfl
local macro_rules | `(tactic| walk_at "d") => `(tactic| (try (simp only [rSeq, rAsg, rRet, rRetN, rDrop, rIf, rNext, rPar, rPar3, rCons, rNil, rStar, rCl, rOp, rUn, rVar, rC, rGN, rTup, rLst, rB, rAnd, rOr, rNot, rIfE, rAndV, rOrV, rNotV, rNever, rFld, rOwn, rMeth, rMakeK, rMakeD, rFldS, rFrz, rSetIx, rMut, rILst, rITup, rIRng1, rIRng2, rFor, rLc, rLcM, rTrue, gt, st, gI, gI0, gU, gIx, gEq, gNe, gAdd, gSub, gMul, gDiv, gMod, gPow, gLt, gLe, gGt, gGe, gIsi, gAbs, gLen, gAll, gIsN, gNotN, isNonD, seqD, res, atI_0, atI_1, atI_2, atI_3, atI_4, List.getElem?_cons_zero, List.getElem?_cons_succ, List.length_cons, List.length_nil, decide_eq_true_eq, List.map_cons, List.map_nil, startD, List.cons_append, List.nil_append, List.replicate, Nat.zero_add, numD, if_true, if_false, Bool.false_eq_true, and_self, true_and, ite_true, ite_false, Nat.reduceAdd, Nat.reduceSub, ln, Nat.reduceLeDiff, fin, String.reduceBEq, Bool.not_true, Bool.not_false, pureN, deq_int, deq_tt, deq_t0, deq_bl, List.all_cons, List.all_nil, Bool.and_true, Bool.true_and, Bool.and_eq_true, List.append_nil, lk_turn, lk_shift, lk_mirrored, lk_key, insD_copy, own2_c, own1_c, rG_nil, rG_cons, rGLst_i, updM_same, updM_updM, Option.map_some, Option.map_none])))

/-! ### rules that leave numbers folded -/
section
variable {μ : MH} {R : D → MH → Prop} {z w : Num} {c e : Cp} {i j : Int} {b b' : Bool} {ds es : List D} {p : Addr} {m : Nat}
theorem gIx_t : gIx (.tup ds) (.int i) μ R = (match atI ds i with | some d => R d μ | none => False) := rfl
theorem gIx_l : gIx (.lst ds) (.int i) μ R = (match atI ds i with | some d => R d μ | none => False) := rfl
theorem gIx_r : gIx (.ref p) (.int i) μ R = (match seqD (res μ (.ref p)) with | some ds => (match atI ds i with | some d => R d μ | none => False) | none => False) := rfl
theorem gEq_i : gEq (.int i) (.int j) μ R = R (.bl (i == j)) μ := propext ⟨fun h => h.2.2, fun h => ⟨rfl, rfl, h⟩⟩
theorem gNe_i : gNe (.int i) (.int j) μ R = R (.bl (!(i == j))) μ := propext ⟨fun h => h.2.2, fun h => ⟨rfl, rfl, h⟩⟩
theorem gEq_t : gEq (.tup ds) (.tup es) μ R = (pureN 20 (.tup ds) = true ∧ pureN 20 (.tup es) = true ∧ R (.bl (deq (.tup ds) (.tup es))) μ) := rfl
end
/-- one statement at a time: the rest stays folded -/
theorem seq_g {f g : RS} {D : Ed} {ρ : EV} {μ : MH} (h : ∀ N : EV → MH → Prop, (∀ ρ1 μ1, g D ρ1 μ1 → N ρ1 μ1) → f { D with nx := N } ρ μ) : rSeq f g D ρ μ := h _ fun _ _ q => q
theorem Cp.small.ok {c : Cp} (h : c.small) : c.ok := ⟨h.1.1, h.2.1, h.2.2.1⟩
theorem Cp.small.sz {c : Cp} (h : c.small) : c.sz 5 := ⟨h.1.2, h.2.2.2⟩
section
variable {Γ : CL} {μ : MH} {Q : D → MH → Prop} {a b c : Cp} {z : Num}
end
mutual
theorem same_self : ∀ {n : Nat} (d : D), okq n d = true → same d d = true
  | n, .non, _ => rfl
  | n, .bl b, _ => by unfold same; exact beq_self_eq_true b
  | n, .int b, _ => by unfold same; exact beq_self_eq_true b
  | n, .str b, _ => by unfold same; exact beq_self_eq_true b
  | n + 1, .tup ds, h => by
    unfold same
    simp only [okq, Bool.and_eq_true] at h
    exact sames_self ds h.2
  | n + 1, .lst ds, h => by
    unfold same
    simp only [okq, Bool.and_eq_true] at h
    exact sames_self ds h.2
  | 0, .tup _, h => by cases h
  | 0, .lst _, h => by cases h
  | 0, .ref _, h => by cases h
  | 0, .ins _ _, h => by cases h
  | 0, .ty _, h => by cases h
  | 0, .scr _, h => by cases h
  | n + 1, .ref _, h => by cases h
  | n + 1, .ins _ _, h => by cases h
  | n + 1, .ty _, h => by cases h
  | n + 1, .scr _, h => by cases h
theorem sames_self : ∀ {n : Nat} (ds : List D), ds.all (okq n) = true → sames ds ds = true
  | _, [], _ => by unfold sames; rfl
  | n, d :: r, h => by
    unfold sames
    rw [List.all_cons, Bool.and_eq_true] at h
    rw [same_self d h.1, sames_self r h.2]
    rfl
end
theorem equal_i {Γ : CL} {n : Nat} {a e : D} {μ : MH} {Q : D → MH → Prop} (h : a = e) (ha : okq n a = true) (q : Q (.bl true) μ) : sp_law_equal Γ (n + 1) [a, e] μ Q := by
  subst h
  refine ⟨ha, ha, ?_⟩
  rw [same_self a ha]
  exact q
/-! ### sizes of what is kept -/
end L3

/-! ## CM3 -/
set_option Elab.async false
set_option linter.all false
set_option maxHeartbeats 1000000
/-! What is kept is determined by the spots that are kept. -/
namespace L3
open NM L2
theorem lineOf_self {a b e : Int} (h : 0 < a ∨ a = 0 ∧ 0 < b) (g : gz (gz a b) e = 1) : lineOf a b e = (a, b, e) := by
  unfold lineOf
  by_cases ha : a = 0
  · subst ha
    have hb : 0 < b := by omega
    have k : Can ⟨e, 0, b⟩ := by
      refine ⟨hb, ?_⟩
      show gz (gz e 0) b = 1
      rw [gz_0, gz_comm]
      have : gz 0 b = b := by
        unfold gz
        rw [Int.gcd_comm, Int.gcd_zero_right]
        omega
      rw [this] at g
      exact g
    have q := low_self k
    rw [if_neg (by simp)]
    show ((0 : Int), (low e 0 b).d, (low e 0 b).x) = _
    simp only at q
    rw [q]
  · have hp : 0 < a := by omega
    have k : Can ⟨e, b, a⟩ := ⟨hp, by show gz (gz e b) a = 1; rw [← gz3_rev]; exact g⟩
    have q := low_self k
    rw [if_pos ha]
    simp only at q
    rw [q]
theorem line_uniq {a b e a' b' e' : Int} (h : 0 < a ∨ a = 0 ∧ 0 < b) (g : gz (gz a b) e = 1) (h' : 0 < a' ∨ a' = 0 ∧ 0 < b') (g' : gz (gz a' b') e' = 1) (e1 : a * b' = a' * b) (e2 : a * e' = a' * e) (e3 : b * e' = b' * e) : a = a' ∧ b = b' ∧ e = e' := by
  have q := lineOf_uniq (by omega) (by omega) e1 e2 e3
  rw [lineOf_self h g, lineOf_self h' g'] at q
  simpa using q
/-- two different spots on a line in lowest terms -/
def lineP (a b e : Int) : Num := low (a * e) (b * e) (a * a + b * b)
def lineQ (a b e : Int) : Num := low (a * e - b * (a * a + b * b)) (b * e + a * (a * a + b * b)) (a * a + b * b)
theorem ab_ne {a b : Int} (h : 0 < a ∨ a = 0 ∧ 0 < b) : a * a + b * b ≠ 0 := sq_ne (a := ⟨a, b, 1⟩) (by rintro ⟨h1, h2⟩; simp only at h1 h2; omega)
theorem on_low {p q r x y d : Int} (h : d ≠ 0) : keptOn (.line p q r) (low x y d) ↔ p * x + q * y = r * d := by
  obtain ⟨k, hk, e1, e2, e3, _⟩ := low_spec (x := x) (y := y) h
  show p * (low x y d).x + q * (low x y d).y = r * (low x y d).d ↔ _
  generalize low x y d = z at *
  rw [e1, e2, e3]
  constructor
  · intro q1
    have : k * (p * z.x + q * z.y) = k * (r * z.d) := by rw [q1]
    grind
  · intro q1
    have : k * (p * z.x + q * z.y) = k * (r * z.d) := by grind
    exact Int.eq_of_mul_eq_mul_left hk this
/-- lowest terms -/
def Kp.nf : Kp → Prop
  | .all => True
  | .none => True
  | .spot w => Can w
  | .line a b e => (0 < a ∨ a = 0 ∧ 0 < b) ∧ gz (gz a b) e = 1
theorem line_p {a b e : Int} (h : 0 < a ∨ a = 0 ∧ 0 < b) : keptOn (.line a b e) (lineP a b e) := (on_low (ab_ne h)).mpr (by grind)
theorem line_q {a b e : Int} (h : 0 < a ∨ a = 0 ∧ 0 < b) : keptOn (.line a b e) (lineQ a b e) := (on_low (ab_ne h)).mpr (by grind)
theorem line_pq {a b e : Int} (h : 0 < a ∨ a = 0 ∧ 0 < b) : lineP a b e ≠ lineQ a b e := fun q => by
  have n := ab_ne h
  have h1 : keptOn (.line (0 - b) a 0) (lineP a b e) := (on_low n).mpr (by grind)
  rw [q] at h1
  have h2 := (on_low n).mp h1
  have : (a * a + b * b) * (a * a + b * b) = 0 := by grind
  rcases Int.mul_eq_zero.mp this with z | z <;> exact n z
theorem can_p {a b e : Int} (h : 0 < a ∨ a = 0 ∧ 0 < b) : Can (lineP a b e) := low_can (ab_ne h)
theorem can_q {a b e : Int} (h : 0 < a ∨ a = 0 ∧ 0 < b) : Can (lineQ a b e) := low_can (ab_ne h)
theorem line_all {a b e : Int} (h : 0 < a ∨ a = 0 ∧ 0 < b) (q : ∀ z, Can z → keptOn (.line a b e) z) : False := by
  have h1 : a * 0 + b * 0 = e * 1 := q zero can_zero
  have h2 : a * 1 + b * 0 = e * 1 := q one can_one
  have h3 : a * 0 + b * 1 = e * 1 := q img can_img
  omega
theorem spot_all {w : Num} (q : ∀ z, Can z → keptOn (.spot w) z) : False := by
  have h1 : zero = w := q zero can_zero
  have h2 : one = w := q one can_one
  have : zero = one := h1.trans h2.symm
  exact absurd this (by decide)
theorem spot_line {w : Num} {a b e : Int} (h : 0 < a ∨ a = 0 ∧ 0 < b) (q : ∀ z, Can z → (keptOn (.spot w) z ↔ keptOn (.line a b e) z)) : False := by
  have h1 : lineP a b e = w := (q _ (can_p h)).mpr (line_p h)
  have h2 : lineQ a b e = w := (q _ (can_q h)).mpr (line_q h)
  exact line_pq h (h1.trans h2.symm)
theorem line_line {a b e a' b' e' : Int} (h : (0 < a ∨ a = 0 ∧ 0 < b) ∧ gz (gz a b) e = 1) (h' : (0 < a' ∨ a' = 0 ∧ 0 < b') ∧ gz (gz a' b') e' = 1) (q : ∀ z, Can z → (keptOn (.line a b e) z ↔ keptOn (.line a' b' e') z)) : a = a' ∧ b = b' ∧ e = e' := by
  have n := ab_ne h.1
  have h1 := (on_low n).mp ((q _ (can_p h.1)).mp (line_p h.1))
  have h2 := (on_low n).mp ((q _ (can_q h.1)).mp (line_q h.1))
  have e1 : a * b' = a' * b := by
    have : (a * b' - a' * b) * (a * a + b * b) = 0 := by grind
    rcases Int.mul_eq_zero.mp this with z | z
    · omega
    · exact absurd z n
  have e2 : a * e' = a' * e := by
    have : (a * e' - a' * e) * (a * a + b * b) = 0 := by grind
    rcases Int.mul_eq_zero.mp this with z | z
    · omega
    · exact absurd z n
  have e3 : b * e' = b' * e := by
    have : (b * e' - b' * e) * (a * a + b * b) = 0 := by grind
    rcases Int.mul_eq_zero.mp this with z | z
    · omega
    · exact absurd z n
  exact line_uniq h.1 h.2 h'.1 h'.2 e1 e2 e3
theorem Kp.uniq {K L : Kp} (hK : K.nf) (hL : L.nf) (q : ∀ z, Can z → (keptOn K z ↔ keptOn L z)) : K = L := by
  cases K with
  | all =>
    cases L with
    | all => rfl
    | none => exact False.elim ((q zero can_zero).mp trivial)
    | spot w => exact False.elim (spot_all fun z hz => (q z hz).mp trivial)
    | line a b e => exact False.elim (line_all hL.1 fun z hz => (q z hz).mp trivial)
  | none =>
    cases L with
    | all => exact False.elim ((q zero can_zero).mpr trivial)
    | none => rfl
    | spot w => exact False.elim ((q w hL).mpr rfl)
    | line a b e => exact False.elim ((q _ (can_p hL.1)).mpr (line_p hL.1))
  | spot w =>
    cases L with
    | all => exact False.elim (spot_all fun z hz => (q z hz).mpr trivial)
    | none => exact False.elim ((q w hK).mp rfl)
    | spot v => rw [show w = v from (q w hK).mp rfl]
    | line a b e => exact False.elim (spot_line hL.1 q)
  | line a b e =>
    cases L with
    | all => exact False.elim (line_all hK.1 fun z hz => (q z hz).mpr trivial)
    | none => exact False.elim ((q _ (can_p hK.1)).mp (line_p hK.1))
    | spot w => exact False.elim (spot_line hK.1 fun z hz => (q z hz).symm)
    | line a' b' e' =>
      obtain ⟨r1, r2, r3⟩ := line_line hK hL q
      rw [r1, r2, r3]
/-! ### where two copies meet -/
end L3

/-! ## CM6 -/
set_option Elab.async false
set_option linter.all false
set_option maxHeartbeats 1000000
/-! Copies done several times. -/
namespace L3
open NM L2
/-! ### whole numbers of two parts -/
def gp (X Y : Int) : Nat → Int × Int
  | 0 => (1, 0)
  | n + 1 => ((gp X Y n).1 * X - (gp X Y n).2 * Y, (gp X Y n).1 * Y + (gp X Y n).2 * X)
/-! ### turns of copies done several times -/
/-! ### the first time that a copy, done again and again, carries all spots to themselves -/
end L3

/-! ## LW2 -/
set_option Elab.async false
set_option linter.all false
set_option maxRecDepth 100000
set_option maxHeartbeats 4000000
namespace L3
open PySem NM L2
section
variable {Γ : CL} {μ : MH} {Q : D → MH → Prop} {a b c : Cp}
end
end L3

/-! ## V6 -/
set_option Elab.async false
set_option linter.all false
set_option maxRecDepth 100000
set_option maxHeartbeats 1000000
namespace L3
open PySem NM L2
theorem vc_is_int_in (Γ : CL) : ∀ ds μ R, sp_is_int_in Γ ds μ R → rd_is_int_in Γ (fin R) (startD 3 ds) μ := by
  rintro ds μ R ⟨d, lo, hi, rfl, ok, h⟩
  unfold rd_is_int_in
  rw [show startD 3 [d, .int lo, .int hi] = [some d, some (.int lo), some (.int hi)] from rfl]
  have isi : ∀ (T : String) (b : Bool) (Q : D → MH → Prop), tyOK T = true → isiD T d = some b → res μ d = d → Q (.bl b) μ → gIsi [d, .ty T] μ Q := by
    intro T b Q hT hb hr hQ
    refine ⟨hT, ?_⟩
    rw [hr, hb]
    exact hQ
  have no : ∀ (hr : res μ d = d), isiD "int" d = some false → inIntD d lo hi = false → rRet (rAndV (rCl gIsi (rCons (rVar 0) (rCons (rC (.ty "int")) rNil))) (rAndV (rNotV (rCl gIsi (rCons (rVar 0) (rCons (rC (.ty "bool")) rNil)))) (rChain gLe gLe (rVar 1) (rVar 0) (rVar 2)))) (fin R) [some d, some (.int lo), some (.int hi)] μ := by
    intro hr h1 h2
    simp only [rRet, rAndV, rCl, rCons, rVar, rC, rNil, gt]
    refine isi "int" false _ (by decide) h1 hr ?_
    simp only [Bool.false_eq_true, if_false]
    rw [h2] at h
    exact h
  cases d with
  | int i =>
    simp only [rRet, rAndV, rNotV, rCl, rCons, rVar, rC, rNil, gt]
    refine isi "int" true _ (by decide) rfl rfl ?_
    simp only [if_true]
    refine isi "bool" false _ (by decide) rfl rfl ?_
    simp only [Bool.not_false, if_true, rChain, rVar, gt, gI0]
    have h : R (.bl (decide (lo ≤ i) && decide (i ≤ hi))) μ := h
    by_cases q : lo ≤ i
    · rw [decide_eq_true q] at h ⊢
      simp only [if_true]
      exact h
    · rw [decide_eq_false q] at h ⊢
      simp only [Bool.false_eq_true, if_false]
      exact h
  | bl b =>
    simp only [rRet, rAndV, rNotV, rCl, rCons, rVar, rC, rNil, gt]
    refine isi "int" true _ (by decide) rfl rfl ?_
    simp only [if_true]
    refine isi "bool" true _ (by decide) rfl rfl ?_
    simp only [Bool.not_true, Bool.false_eq_true, if_false]
    exact h
  | non => exact no rfl rfl rfl
  | str x => exact no rfl rfl rfl
  | tup x => exact no rfl rfl rfl
  | lst x => exact no rfl rfl rfl
  | ref a => cases ok
  | ins C fs => cases ok
  | scr x => cases ok
  | ty n => cases ok
end L3

/-! ## V7 -/
set_option Elab.async false
set_option linter.all false
set_option maxRecDepth 100000
set_option maxHeartbeats 1000000
namespace L3
open PySem NM L2
local macro_rules | `(tactic| walk_at "d") => `(tactic| (try (simp only [rSeq, rAsg, rRet, rRetN, rDrop, rIf, rNext, rPar, rPar3, rCons, rNil, rStar, rCl, rOp, rUn, rVar, rC, rGN, rTup, rLst, rB, rAnd, rOr, rNot, rIfE, rAndV, rOrV, rNotV, rNever, rFld, rOwn, rMeth, rMakeK, rMakeD, rFldS, rFrz, rSetIx, rMut, rILst, rITup, rIRng1, rIRng2, rFor, rLc, rLcM, rTrue, gt, st, gI, gI0, gU, gIx, gEq, gNe, gAdd, gSub, gMul, gDiv, gMod, gPow, gLt, gLe, gGt, gGe, gIsi, gAbs, gLen, gAll, gIsN, gNotN, isNonD, seqD, res, atI_0, atI_1, atI_2, atI_3, atI_4, List.getElem?_cons_zero, List.getElem?_cons_succ, List.length_cons, List.length_nil, decide_eq_true_eq, List.map_cons, List.map_nil, startD, List.cons_append, List.nil_append, List.replicate, Nat.zero_add, if_true, if_false, Bool.false_eq_true, and_self, true_and, ite_true, ite_false, Nat.reduceAdd, Nat.reduceSub, ln, Nat.reduceLeDiff, fin, String.reduceBEq, Bool.not_true, Bool.not_false, pureN, deq_int, deq_tt, deq_t0, deq_bl, List.all_cons, List.all_nil, Bool.and_true, Bool.true_and, Bool.and_eq_true, List.append_nil, lk_turn, lk_shift, lk_mirrored, lk_key, insD_copy, own2_c, own1_c, rG_nil, rG_cons, rGLst_i, updM_same, updM_updM, Option.map_some, Option.map_none])))
/-! ### arms -/
/-! ### copies about a pole -/
/-! ### chains -/
theorem atI_last {α : Type} (l : List α) (x : α) : atI (l ++ [x]) (-1) = some x := by
  unfold atI ixN
  have h1 : ¬ (0 : Int) ≤ -1 := by decide
  have h2 : -((l ++ [x]).length : Int) ≤ -1 := by rw [List.length_append]; show -(((l.length + 1 : Nat)) : Int) ≤ -1; omega
  rw [if_neg h1, if_pos h2]
  have e : (-1 + ((l ++ [x]).length : Int)).toNat = l.length := by rw [List.length_append]; show (-1 + (((l.length + 1 : Nat)) : Int)).toNat = _; omega
  show (l ++ [x])[(-1 + ((l ++ [x]).length : Int)).toNat]? = _
  rw [e, List.getElem?_append_right (Nat.le_refl _), Nat.sub_self]
  rfl
/-! ### the law's own arms -/
theorem vc_law_step (Γ : CL) : ∀ ds μ R, sp_law_step Γ ds μ R → rd_law_step Γ (fin R) (startD 2 ds) μ := by
  rintro ds μ R ⟨g, n, xs, rfl, n0, n10, hm, hx, h⟩
  unfold rd_law_step
  rw [show startD 2 [.ref g, .int n] = [some (.ref g), some (.int n)] from rfl]
  have cb : CBig 2 n := ⟨bt_small (by decide) (by decide), bt_small (by omega) (by decide)⟩
  simp only [rRet, rTup, rCons, rOp, rCl, rVar, rC, rNil, gt, gMul, gI, gAdd, gSub, gI0]
  refine ⟨cb, g, 2 * n + 1, xs, rfl, by omega, by omega, hm, hx, fun a ys a0 a1 hy => ?_⟩
  refine ⟨cb, g, 2 * n + 1, ys, rfl, by omega, by omega, updM_same, hy, fun b ys2 b0 b1 hy2 => ?_⟩
  refine ⟨by show 3 ≤ 2 ^ 24; decide, ?_⟩
  rw [updM_updM]
  exact h (a - n) (b - n) ys2 (by omega) (by omega) (by omega) (by omega) hy2
theorem can_i1 (x y : Int) : Can ⟨x, y, 1⟩ := ⟨by show (0 : Int) < 1; decide, by
  show gz (gz x y) 1 = 1
  have h1 := gz_dr (gz x y) 1
  have h2 := gz_pos (a := gz x y) (show (1 : Int) ≠ 0 by decide)
  have := Int.le_of_dvd (by decide) h1
  omega⟩
end L3

/-! ## V9 -/
set_option Elab.async false
set_option linter.all false
set_option maxRecDepth 100000
set_option maxHeartbeats 1000000
namespace L3
open PySem NM L2
section
variable {Γ : CL} {μ : MH} {Q : D → MH → Prop}
end
/-! ### zones -/
end L3

/-! ## V10 -/
set_option Elab.async false
set_option linter.all false
set_option maxRecDepth 100000
set_option maxHeartbeats 1000000
namespace L3
open PySem NM L2
/-! ### what several pairs leave of the poles -/
/-! ### == of what is told -/
/-! ### the defs -/
end L3

/-! ## SP2 -/
set_option Elab.async false
set_option linter.all false
set_option maxRecDepth 100000
set_option maxHeartbeats 4000000
/-! Specs of drawings and codes. -/
namespace L3
open PySem NM L2
abbrev Stk := List Num
def strD (s : Stk) : D := .tup (s.map numD)
def strsD (ss : List Stk) : D := .tup (ss.map strD)
def drawFs (ss : List Stk) : List (Str × D) := [("strokes", strsD ss)]
def drawD (Γ : CL) (ss : List Stk) : D := .ins Γ.Drawing (drawFs ss)
/-- no spot stands twice in a row -/
def moves : Stk → Prop
  | [] => True
  | [_] => True
  | a :: b :: r => a ≠ b ∧ moves (b :: r)
structure okSt (n : Nat) (s : Stk) : Prop where
  ne : 1 ≤ s.length
  le : s.length ≤ 12
  mv : moves s
  can : ∀ z ∈ s, Can z ∧ Sz n z
structure okDr (n : Nat) (ss : List Stk) : Prop where
  le : ss.length ≤ 12
  st : ∀ s ∈ ss, okSt n s
theorem okSt.mono {n m : Nat} {s : Stk} (h : okSt n s) (l : n ≤ m) : okSt m s := ⟨h.ne, h.le, h.mv, fun z hz => ⟨(h.can z hz).1, (h.can z hz).2.mono l⟩⟩
theorem okDr.mono {n m : Nat} {ss : List Stk} (h : okDr n ss) (l : n ≤ m) : okDr m ss := ⟨h.le, fun s hs => (h.st s hs).mono l⟩
theorem okDr.nil {n : Nat} : okDr n [] := ⟨by decide, fun s hs => nomatch hs⟩
theorem okDr.one {n : Nat} {s : Stk} (h : okSt n s) : okDr n [s] := ⟨by show 1 ≤ 12; decide, fun t ht => by
  rcases List.mem_cons.mp ht with rfl | ht
  · exact h
  · exact nomatch ht⟩
def c_MAX_SPOTS : D := .int 12
def c_MAX_STROKES : D := .int 12
def sp_check_stroke (Γ : CL) : GN := fun ds μ R => ∃ s d, ds = [strD s, d] ∧ okSt big s ∧ R .non μ
def sp_Drawing___init (Γ : CL) : GN := fun ds μ R => match ds with
  | [.ref a, .tup xs] => ∃ ss : List Stk, xs = ss.map strD ∧ okDr big ss ∧ μ a = some (.ins Γ.Drawing []) ∧ R .non (updM μ a (.ins Γ.Drawing (drawFs ss)))
  | _ => False
def sp_Drawing___add (Γ : CL) : GN := fun ds μ R => ∃ as bs, ds = [drawD Γ as, drawD Γ bs] ∧ okDr big (as ++ bs) ∧ R (drawD Γ (as ++ bs)) μ
def movedBy (c : Cp) (ss : List Stk) : List Stk := ss.map fun s => s.map c.at
def sp_Drawing_copied (Γ : CL) : GN := fun ds μ R => ∃ ss c, ds = [drawD Γ ss, copyD Γ c] ∧ c.ok ∧ c.sz quart ∧ okDr quart ss ∧ R (drawD Γ (movedBy c ss)) μ
/-! the law's helpers -/
def okSm (s : Stk) : Prop := 1 ≤ s.length ∧ s.length ≤ 4 ∧ moves s ∧ ∀ z ∈ s, Small z
def sp_law_drawing (Γ : CL) : GN := fun ds μ R => ∃ ss, ds = [strsD ss] ∧ okDr big ss ∧ R (drawD Γ ss) μ
/-! ### codes -/
def intsD (l : List Int) : List D := l.map D.int
/-- nothing that was is lost -/
def Ext (μ μ' : MH) : Prop := ∀ a m, μ a = some m → μ' a = some m
theorem Ext.refl {μ : MH} : Ext μ μ := fun _ _ h => h
theorem Ext.trans {μ μ1 μ2 : MH} (h : Ext μ μ1) (l : Ext μ1 μ2) : Ext μ μ2 := fun a m q => l a m (h a m q)
theorem Ext.upd {μ μ1 : MH} {p : Addr} {m : MO} (h : Ext μ μ1) (hp : μ p = none) : Ext μ (updM μ1 p m) := fun a n q => by
  rw [updM_ne (fun e => by rw [e, hp] at q; cases q)]
  exact h a n q
def rdFs (l : List Int) (k : Nat) : List (Str × D) := [("codes", .lst (intsD l)), ("place", .int k)]
def rdO (Γ : CL) (l : List Int) (k : Nat) : MO := .ins Γ.Reader (rdFs l k)
end L3

/-! ## RB2 -/
set_option Elab.async false
set_option linter.all false
set_option maxRecDepth 100000
set_option maxHeartbeats 4000000
namespace L3
open PySem NM L2
/-- check_stroke(stroke, index) : 0 stroke, 1 index, 2 spot, 3 e, 4 is_still, 5 one, 6 other -/
def rd_check_stroke (Γ : CL) : RS := (rSeq (rFor (rITup (rVar 0)) (rGN 2)
 (rDrop (rCl (sp_check_spot Γ) (rCons (rVar 2) rNil))))
 (rSeq (rAsg (rCl gAny (rCons (rLc (rIZip (rCons (rVar 0) (rCons (rSl (rVar 0) (rPart (rC (.int 1))) rNoPart) rNil))) (rGTup 2 (rGCons (rGN 5) (rGCons (rGN 6) rGNil))) rTrue (rOp gEq (rVar 5) (rVar 6)) [5, 6]) rNil)) (rGN 4))
 (rIf (rOr (rNot (rB (rChain gLe gLe (rC (.int 1)) (rCl gLen (rCons (rVar 0) rNil)) (rC c_MAX_SPOTS)))) (rB (rVar 4)))
 rNever
 rNext)))
/-- Drawing.__init__(self, strokes) : 0 self, 1 strokes, 2 index, 3 stroke -/
def rd_Drawing___init (Γ : CL) : RS := (rSeq (rFor (rIEnum (rCons (rVar 1) rNil)) (rGTup 2 (rGCons (rGN 2) (rGCons (rGN 3) rGNil)))
 (rDrop (rCl (sp_check_stroke Γ) (rCons (rVar 3) (rCons (rVar 2) rNil)))))
 (rSeq (rIf (rB (rOp gGt (rCl gLen (rCons (rVar 1) rNil)) (rC c_MAX_STROKES)))
 rNever
 rNext)
 (rFldS Γ.Drawing "strokes" (rVar 0) (rVar 1))))
/-- Drawing.__add__(self, other) : 0 self, 1 other, 2 strokes -/
def rd_Drawing___add (Γ : CL) : RS := (rSeq (rAsg (rTup (rStar (rFld Γ.Drawing "strokes" (rVar 0)) (rStar (rFld Γ.Drawing "strokes" (rVar 1)) rNil))) (rGN 2))
 (rRet (rCl (gMakeS Γ.Drawing (sp_Drawing___init Γ)) (rStar (rVar 2) rNil))))
/-- _law_drawing(_law_strokes_here) : 0 _law_strokes_here, 1 _law_drawing_here, 2 _law_stroke_here -/
def rd_law_drawing (Γ : CL) : RS := (rSeq (rAsg (rCl (gMakeS Γ.Drawing (sp_Drawing___init Γ)) rNil) (rGN 1))
 (rSeq (rFor (rITup (rVar 0)) (rGN 2)
 (rAsg (rOp (gOwn2 Γ.Drawing (sp_Drawing___add Γ)) (rVar 1) (rCl (gMakeS Γ.Drawing (sp_Drawing___init Γ)) (rCons (rVar 2) rNil))) (rGN 1)))
 (rRet (rVar 1))))
/-- Drawing.copied(self, copy) : 0 self, 1 copy, 2 strokes, 3 spot, 4 stroke -/
def rd_Drawing_copied (Γ : CL) : RS := (rSeq (rAsg (rLc (rITup (rFld Γ.Drawing "strokes" (rVar 0))) (rGN 4) rTrue (rCl gTuple (rCons (rLc (rITup (rVar 4)) (rGN 3) rTrue (rCl (sp_carried Γ) (rCons (rVar 1) (rCons (rVar 3) rNil))) [3]) rNil)) [4]) (rGN 2))
 (rRet (rCl (gMakeS Γ.Drawing (sp_Drawing___init Γ)) (rStar (rVar 2) rNil))))
end L3

/-! ## SP3 -/
set_option Elab.async false
set_option linter.all false
set_option maxRecDepth 100000
set_option maxHeartbeats 4000000
/-! Promises of what is raised. -/
namespace L3
open PySem NM L2
end L3

/-! ## RB3 -/
set_option Elab.async false
set_option linter.all false
set_option maxRecDepth 100000
set_option maxHeartbeats 4000000
namespace L3
open PySem NM L2
end L3

/-! ## V17 -/
set_option Elab.async false
set_option linter.all false
set_option maxRecDepth 100000
set_option maxHeartbeats 1000000
/-! Errors told. -/
namespace L3
open PySem NM L2
theorem isEx_i {a : Addr} {b : Bool} {i : Nat} {ρ : EV} {μ : MH} {R : D → MH → Prop} (h : gt ρ i = some (.ref a)) (q : R (.bl b) μ) : rIsEx a b (rVar i) ρ μ R := by
  simp only [rIsEx, rVar, h]
  exact ⟨trivial, q⟩
theorem gAdd_lll {as bs : List D} {μ : MH} {R : D → MH → Prop} (hl : as.length + bs.length ≤ 1000) (h : R (.lst (as ++ bs)) μ) : gAdd (.lst as) (.lst bs) μ R := ⟨Nat.le_trans hl (by decide), h⟩
def kindsD (bs : Nat → Bool) : List D := [.bl (bs 0), .bl (bs 1), .bl (bs 2), .bl (bs 3), .bl (bs 4), .bl (bs 5), .bl (bs 6), .bl (bs 7), .bl (bs 8), .bl (bs 9), .bl (bs 10), .bl (bs 11), .bl (bs 12), .bl (bs 13), .bl (bs 14), .bl (bs 15), .bl (bs 16), .bl (bs 17), .bl (bs 18), .bl (bs 19)]
def namesD : List D := [.str "spot", .str "turn", .str "times", .str "few", .str "stroke", .str "open", .str "reach", .str "out", .str "many", .str "size", .str "box", .str "contra", .str "text", .str "row", .str "unknown", .str "name", .str "code", .str "arm", .str "free", .str "operation"]
theorem gEq_s {x y : Str} {b : Bool} (hx : PyData.strOk x = true) (hy : PyData.strOk y = true) (h : (x == y) = b) {μ : MH} {R : D → MH → Prop} (q : R (.bl b) μ) : gEq (.str x) (.str y) μ R := ⟨hx, hy, by
  show R (.bl (deq (.str x) (.str y))) μ
  rw [deq_str, h]
  exact q⟩
theorem kinds_get {bs : Nat → Bool} {j : Nat} {z : D} (h : (kindsD bs)[j]? = some z) : z = .bl (bs j) := by
  rw [show kindsD bs = (List.range 20).map (fun j => D.bl (bs j)) from rfl, List.getElem?_map] at h
  cases w : (List.range 20)[j]? with
  | none => rw [w] at h; cases h
  | some k =>
    rw [w] at h
    obtain ⟨h1, h2⟩ := List.getElem?_eq_some_iff.mp w
    rw [List.getElem_range] at h2
    subst h2
    exact (Option.some.inj h).symm
theorem no_before {m : Nat} : ∀ j z, j < m → (kindsD fun j => decide (j = m))[j]? = some z → deq z (.bl true) = false := fun j z hj h => by
  rw [kinds_get h]
  show deq (.bl (decide (j = m))) (.bl true) = false
  rw [decide_eq_false (by omega)]
  rfl
/-! ### copies done too often -/
end L3

/-! ## V18 -/
set_option Elab.async false
set_option linter.all false
set_option maxRecDepth 100000
set_option maxHeartbeats 1000000
/-! What check_spot, check_turn, poles raise. -/
namespace L3
open PySem NM L2
end L3

/-! ## V11 -/
set_option Elab.async false
set_option linter.all false
set_option maxRecDepth 100000
set_option maxHeartbeats 1000000
/-! Drawings. -/
namespace L3
open PySem NM L2
theorem cut_from1 (ds : List D) : cutD ds (some 1) none = ds.drop 1 := by
  unfold cutD
  rw [HT.sIx_none, show (some (1 : Int)) = some ((1 : Nat) : Int) from rfl, HT.sIx_nat]
  cases ds with
  | nil => rfl
  | cons d r =>
    rw [Nat.min_eq_left (by simp), List.take_of_length_le]
    rw [List.length_drop]
    omega
theorem bools_rep' (n : Nat) (b : Bool) : bools (List.replicate n (D.bl b)) = some (List.replicate n b) := by
  induction n with
  | zero => rfl
  | succ n ih =>
    show (bools (List.replicate n (D.bl b))).map (b :: ·) = _
    rw [ih]
    rfl
theorem any_rep (n : Nat) : (List.replicate n false).any _root_.id = false := by
  induction n with
  | zero => rfl
  | succ n ih => exact ih
theorem gEq_num {z w : Num} {μ : MH} {R : D → MH → Prop} : gEq (numD z) (numD w) μ R = R (.bl (decide (z = w))) μ := by
  have e : deq (numD z) (numD w) = decide (z = w) := deq_num
  unfold gEq
  rw [show res μ (numD z) = numD z from rfl, show res μ (numD w) = numD w from rfl, e]
  exact propext ⟨fun h => h.2.2, fun h => ⟨rfl, rfl, h⟩⟩
theorem gNe_num {z w : Num} {μ : MH} {R : D → MH → Prop} : gNe (numD z) (numD w) μ R = R (.bl (!decide (z = w))) μ := by
  have e : deq (numD z) (numD w) = decide (z = w) := deq_num
  unfold gNe
  rw [show res μ (numD z) = numD z from rfl, show res μ (numD w) = numD w from rfl, e]
  exact propext ⟨fun h => h.2.2, fun h => ⟨rfl, rfl, h⟩⟩
/-! ### strokes -/
theorem stk_check_loop {Γ : CL} {E : Ed} {s0 s1 s3 s4 s5 s6 : Option D} {μ : MH} : ∀ (r : Stk) (x : Option D), (∀ z ∈ r, Can z ∧ Sz big z) → (∀ x, E.nx [s0, s1, x, s3, s4, s5, s6] μ) →
    forD (rGN 2) (rDrop (rCl (sp_check_spot Γ) (rCons (rVar 2) rNil))) tru E (r.map numD) [s0, s1, x, s3, s4, s5, s6] μ
  | [], x, _, h => ⟨trivial, h x⟩
  | z :: r, x, hz, h => by
    refine ⟨trivial, ?_⟩
    simp only [rGN, st, rDrop, rCl, rCons, rVar, rNil, gt]
    obtain ⟨h1, h2⟩ := hz z (List.mem_cons_self ..)
    exact ⟨h1, h2, stk_check_loop r _ (fun w hw => hz w (List.mem_cons_of_mem _ hw)) h⟩
theorem still_lc {s0 s1 s2 s3 s4 : Option D} {μ : MH} {R : List D → MH → Prop} : ∀ (s : Stk) (acc : List D), moves s → R (acc ++ List.replicate (s.length - 1) (.bl false)) μ →
    lcD (rGTup 2 (rGCons (rGN 5) (rGCons (rGN 6) rGNil))) rTrue (rOp gEq (rVar 5) (rVar 6)) tru [s0, s1, s2, s3, s4, none, none] (zipD (s.map numD) ((s.map numD).drop 1)) acc μ R
  | [], acc, _, h => ⟨trivial, by simpa using h⟩
  | [a], acc, _, h => ⟨trivial, by simpa using h⟩
  | a :: b :: r, acc, hm, h => by
    refine ⟨trivial, ?_⟩
    have e : (fun ρ1 μ1 => rTrue ρ1 μ1 fun c μ2 => if c = true then rOp gEq (rVar 5) (rVar 6) ρ1 μ2 fun y μ3 => lcD (rGTup 2 (rGCons (rGN 5) (rGCons (rGN 6) rGNil))) rTrue (rOp gEq (rVar 5) (rVar 6)) tru [s0, s1, s2, s3, s4, none, none] (zipD ((b :: r).map numD) (((b :: r).map numD).drop 1)) (acc ++ [y]) μ3 R
      else lcD (rGTup 2 (rGCons (rGN 5) (rGCons (rGN 6) rGNil))) rTrue (rOp gEq (rVar 5) (rVar 6)) tru [s0, s1, s2, s3, s4, none, none] (zipD ((b :: r).map numD) (((b :: r).map numD).drop 1)) acc μ2 R) [s0, s1, s2, s3, s4, some (numD a), some (numD b)] μ := by
      simp only [rTrue, if_true, rOp, rVar, gt, gEq_num, decide_eq_false hm.1]
      refine still_lc (b :: r) _ hm.2 ?_
      rw [List.append_assoc]
      exact h
    exact ⟨rfl, rfl, e⟩
theorem vc_check_stroke (Γ : CL) : ∀ ds μ R, sp_check_stroke Γ ds μ R → rd_check_stroke Γ (fin R) (startD 7 ds) μ := by
  rintro ds μ R ⟨s, d, rfl, k, h⟩
  unfold rd_check_stroke
  rw [show startD 7 [strD s, d] = [some (strD s), some d, none, none, none, none, none] from rfl]
  refine seq_g fun N hN => ?_
  simp only [rFor, rITup, rVar, gt, strD]
  refine stk_check_loop s none k.can fun x => ?_
  refine hN _ _ ?_
  clear hN N
  refine seq_g fun N hN => ?_
  simp only [rAsg, rCl, rCons, rNil, rLc, rIZip, rSl, rVar, rC, rPart, rNoPart, gt, gSl, res, rowD, cut_from1]
  have k12 := k.le
  refine ⟨by rw [zipD_len, List.length_drop, List.length_map]; show _ ≤ 2 ^ 24; omega, ?_⟩
  simp only [rms, rm]
  refine still_lc s [] k.mv ?_
  simp only [List.nil_append, gAny, res, bools_rep', any_rep, rGN, st]
  refine hN _ _ ?_
  clear hN N
  simp only [rIf, rOr, rNot, rB, rChain, rC, rCl, rCons, rVar, rNil, gt, gLen, res, seqD, gLe, gI0, List.length_map, c_MAX_SPOTS]
  have k1 := k.ne
  rw [decide_eq_true (show (1 : Int) ≤ (s.length : Int) by omega), if_pos rfl, decide_eq_true (show (s.length : Int) ≤ 12 by omega)]
  simp only [Bool.not_true, Bool.false_eq_true, if_false, rNext]
  exact h
theorem check_i {Γ : CL} {s : Stk} {d : D} {μ : MH} {Q : D → MH → Prop} (k : okSt big s) (q : Q .non μ) : sp_check_stroke Γ [strD s, d] μ Q := ⟨s, d, rfl, k, q⟩
/-! ### drawings -/
theorem draw_loop {Γ : CL} {E : Ed} {s0 s1 : Option D} {μ : MH} : ∀ (r : List Stk) (n : Nat) (x y : Option D), (∀ s ∈ r, okSt big s) → (∀ x y, E.nx [s0, s1, x, y] μ) →
    forD (rGTup 2 (rGCons (rGN 2) (rGCons (rGN 3) rGNil))) (rDrop (rCl (sp_check_stroke Γ) (rCons (rVar 3) (rCons (rVar 2) rNil)))) tru E (numbered n (r.map strD)) [s0, s1, x, y] μ
  | [], n, x, y, _, h => ⟨trivial, h x y⟩
  | s :: r, n, x, y, hs, h => by
    refine ⟨trivial, rfl, rfl, ?_⟩
    simp only [st, rDrop, rCl, rCons, rVar, rNil, gt]
    refine check_i (hs s (List.mem_cons_self ..)) ?_
    exact draw_loop r (n + 1) _ _ (fun t ht => hs t (List.mem_cons_of_mem _ ht)) h
theorem vc_Drawing___init (Γ : CL) : ∀ ds μ R, sp_Drawing___init Γ ds μ R → rd_Drawing___init Γ (fin R) (startD 4 ds) μ := by
  intro ds μ R h
  unfold sp_Drawing___init at h
  split at h <;> first | exact h.elim | skip
  rename_i a xs
  obtain ⟨ss, rfl, k, hm, h⟩ := h
  unfold rd_Drawing___init
  rw [show startD 4 [.ref a, .tup (ss.map strD)] = [some (.ref a), some (.tup (ss.map strD)), none, none] from rfl]
  refine seq_g fun N hN => ?_
  simp only [rFor, rIEnum, rCons, rVar, rNil, gt, rowD]
  refine draw_loop ss 0 none none k.st fun x y => ?_
  refine hN _ _ ?_
  clear hN N
  refine seq_g fun N hN => ?_
  simp only [rIf, rB, rOp, rCl, rCons, rVar, rC, rNil, gt, gLen, res, seqD, c_MAX_STROKES, gI0, List.length_map]
  have k12 := k.le
  refine ite_no (by simp; omega) ?_
  refine hN _ _ ?_
  clear hN N
  simp only [rFldS, rVar, gt, hm]
  exact ⟨trivial, by show 0 < 1000; decide, h⟩
theorem make_draw {Γ : CL} {ss : List Stk} {μ : MH} {R : D → MH → Prop} (k : okDr big ss) (h : R (drawD Γ ss) μ) : gMakeS Γ.Drawing (sp_Drawing___init Γ) (ss.map strD) μ R := by
  refine ⟨by rw [List.length_map]; exact Nat.le_trans k.le (by decide), fun x hx => ?_⟩
  refine ⟨ss, rfl, k, updM_same, rfl, ?_⟩
  rw [updM_updM, updM_same]
  show R _ (delM (updM μ x _) x)
  rw [delM_updM hx]
  exact h
theorem lk_strokes (ss : List Stk) : (drawFs ss).lookup ("strokes" : Str) = some (strsD ss) := rfl
theorem insD_draw {Γ : CL} {μ : MH} {ss : List Stk} : insD μ (drawD Γ ss) = some (Γ.Drawing, drawFs ss) := rfl
theorem ownD_i {Γ : CL} {μ : MH} {s : GN} {R : D → MH → Prop} {a b : List Stk} : gOwn2 Γ.Drawing s (drawD Γ a) (drawD Γ b) μ R = s [drawD Γ a, drawD Γ b] μ R := propext ⟨fun h => h.2.2, fun h => ⟨rfl, rfl, h⟩⟩
theorem vc_Drawing___add (Γ : CL) : ∀ ds μ R, sp_Drawing___add Γ ds μ R → rd_Drawing___add Γ (fin R) (startD 3 ds) μ := by
  rintro ds μ R ⟨as, bs, rfl, k, h⟩
  unfold rd_Drawing___add
  rw [show startD 3 [drawD Γ as, drawD Γ bs] = [some (drawD Γ as), some (drawD Γ bs), none] from rfl]
  refine seq_g fun N hN => ?_
  simp only [rAsg, rTup, rStar, rFld, rVar, rNil, gt, insD_draw, lk_strokes, strsD, res, seqD, true_and, List.append_nil, rGN, st]
  have k12 := k.le
  rw [List.length_append] at k12
  refine ⟨by rw [List.length_append, List.length_map, List.length_map]; exact Nat.le_trans k12 (by decide), ?_⟩
  refine hN _ _ ?_
  simp only [rRet, rCl, rStar, rVar, rNil, gt, res, seqD, List.append_nil]
  rw [← List.map_append]
  exact make_draw k h
theorem ldraw_loop {Γ : CL} {E : Ed} {s0 : Option D} {μ : MH} : ∀ (rs as : List Stk) (x : Option D), okDr big (as ++ rs) → (∀ x, E.nx [s0, some (drawD Γ (as ++ rs)), x] μ) →
    forD (rGN 2) (rAsg (rOp (gOwn2 Γ.Drawing (sp_Drawing___add Γ)) (rVar 1) (rCl (gMakeS Γ.Drawing (sp_Drawing___init Γ)) (rCons (rVar 2) rNil))) (rGN 1)) tru E (rs.map strD) [s0, some (drawD Γ as), x] μ
  | [], as, x, _, h => ⟨trivial, by have := h x; rw [List.append_nil] at this; exact this⟩
  | a :: rs, as, x, k, h => by
    refine ⟨trivial, ?_⟩
    simp only [rGN, st, rAsg, rOp, rCl, rCons, rVar, rNil, gt]
    have ka : okSt big a := k.st a (by simp)
    refine make_draw (ss := [a]) (.one ka) ?_
    rw [ownD_i]
    have e : (as ++ [a]) ++ rs = as ++ a :: rs := by rw [List.append_assoc]; rfl
    have kl := k.le
    rw [List.length_append, List.length_cons] at kl
    refine ⟨as, [a], rfl, ⟨by rw [List.length_append]; show as.length + 1 ≤ 12; omega, fun s hs => k.st s (by
      rw [← e]
      exact List.mem_append_left _ hs)⟩, ?_⟩
    refine ldraw_loop rs (as ++ [a]) _ (by rw [e]; exact k) (fun x => ?_)
    rw [e]
    exact h x
theorem vc_law_drawing (Γ : CL) : ∀ ds μ R, sp_law_drawing Γ ds μ R → rd_law_drawing Γ (fin R) (startD 3 ds) μ := by
  rintro ds μ R ⟨ss, rfl, k, h⟩
  unfold rd_law_drawing
  rw [show startD 3 [strsD ss] = [some (strsD ss), none, none] from rfl]
  refine seq_g fun N hN => ?_
  simp only [rAsg, rCl, rNil]
  refine make_draw (ss := []) .nil ?_
  simp only [rGN, st]
  refine hN _ _ ?_
  clear hN N
  refine seq_g fun N hN => ?_
  simp only [rFor, rITup, rVar, gt, strsD]
  refine ldraw_loop ss [] none k (fun x => ?_)
  refine hN _ _ ?_
  simp only [rRet, rVar, gt, List.nil_append]
  exact h
/-! ### the same drawing -/
/-! ### carried -/
theorem Cp.at_inj {c : Cp} {z w : Num} (h : c.ok) (hz : Can z) (hw : Can w) (e : c.at z = c.at w) : z = w := by
  rw [← Cp.inv_at h hz, e, Cp.inv_at h hw]
theorem moves_at {c : Cp} (h : c.ok) : ∀ {s : Stk}, (∀ z ∈ s, Can z) → moves s → moves (s.map c.at)
  | [], _, _ => trivial
  | [_], _, _ => trivial
  | a :: b :: r, k, m => ⟨fun e => m.1 (Cp.at_inj h (k a (by simp)) (k b (by simp)) e), moves_at h (fun z hz => k z (List.mem_cons_of_mem _ hz)) m.2⟩
theorem okSt.at {c : Cp} {n m : Nat} {s : Stk} (h : c.ok) (hs : c.sz n) (k : okSt m s) : okSt (n + m + 1 + n + 1) (s.map c.at) :=
  ⟨by rw [List.length_map]; exact k.ne, by rw [List.length_map]; exact k.le, moves_at h (fun z hz => (k.can z hz).1) k.mv, fun z hz => by
    obtain ⟨w, hw, rfl⟩ := List.mem_map.mp hz
    exact ⟨Cp.can_at h (k.can w hw).1, Cp.sz_at h (k.can w hw).1 hs (k.can w hw).2⟩⟩
theorem okDr.at {c : Cp} {n m : Nat} {ss : List Stk} (h : c.ok) (hs : c.sz n) (k : okDr m ss) : okDr (n + m + 1 + n + 1) (movedBy c ss) :=
  ⟨by unfold movedBy; rw [List.length_map]; exact k.le, fun s q => by
    obtain ⟨t, ht, rfl⟩ := List.mem_map.mp q
    exact (k.st t ht).at h hs⟩
theorem car_lc {Γ : CL} {ρ : EV} {c : Cp} {μ : MH} {R : List D → MH → Prop} (h1 : ∀ d, gt (st ρ 3 d) 1 = some (copyD Γ c)) (h3 : ∀ d, gt (st ρ 3 d) 3 = some d) (kc : c.ok) (sc : c.sz quart) : ∀ (s : Stk) (acc : List D), (∀ z ∈ s, Can z ∧ Sz quart z) → R (acc ++ (s.map c.at).map numD) μ →
    lcD (rGN 3) rTrue (rCl (sp_carried Γ) (rCons (rVar 1) (rCons (rVar 3) rNil))) tru ρ (s.map numD) acc μ R
  | [], acc, _, h => ⟨trivial, by simpa using h⟩
  | z :: s, acc, k, h => by
    refine ⟨trivial, ?_⟩
    simp only [rGN, rTrue, if_true, rCl, rCons, rVar, rNil, h1, h3]
    obtain ⟨k1, k2⟩ := k z (List.mem_cons_self ..)
    refine ⟨c, z, rfl, kc, sc, k1, k2, ?_⟩
    refine car_lc h1 h3 kc sc s _ (fun w hw => k w (List.mem_cons_of_mem _ hw)) ?_
    rw [List.append_assoc]
    exact h
theorem cop_lc {Γ : CL} {s0 s2 : Option D} {c : Cp} {μ : MH} {R : List D → MH → Prop} (kc : c.ok) (sc : c.sz quart) : ∀ (ss : List Stk) (acc : List D), (∀ s ∈ ss, okSt quart s) → R (acc ++ (movedBy c ss).map strD) μ →
    lcD (rGN 4) rTrue (rCl gTuple (rCons (rLc (rITup (rVar 4)) (rGN 3) rTrue (rCl (sp_carried Γ) (rCons (rVar 1) (rCons (rVar 3) rNil))) [3]) rNil)) tru [s0, some (copyD Γ c), s2, none, none] (ss.map strD) acc μ R
  | [], acc, _, h => ⟨trivial, by simpa [movedBy] using h⟩
  | s :: ss, acc, k, h => by
    refine ⟨trivial, ?_⟩
    have ks := k s (List.mem_cons_self ..)
    have k12 := ks.le
    simp only [rGN, st, rTrue, if_true, rCl, rCons, rLc, rITup, rVar, rNil, gt, strD]
    refine ⟨by rw [List.length_map]; exact Nat.le_trans k12 (by decide), ?_⟩
    refine car_lc (ρ := rms [s0, some (copyD Γ c), s2, none, some (.tup (s.map numD))] [3]) (fun d => rfl) (fun d => rfl) kc sc s [] ks.can ?_
    simp only [List.nil_append, gTuple, res]
    refine cop_lc kc sc ss _ (fun t ht => k t (List.mem_cons_of_mem _ ht)) ?_
    rw [List.append_assoc]
    exact h
theorem vc_Drawing_copied (Γ : CL) : ∀ ds μ R, sp_Drawing_copied Γ ds μ R → rd_Drawing_copied Γ (fin R) (startD 5 ds) μ := by
  rintro ds μ R ⟨ss, c, rfl, kc, sc, k, h⟩
  unfold rd_Drawing_copied
  rw [show startD 5 [drawD Γ ss, copyD Γ c] = [some (drawD Γ ss), some (copyD Γ c), none, none, none] from rfl]
  refine seq_g fun N hN => ?_
  simp only [rAsg, rLc, rITup, rFld, rVar, gt, insD_draw, lk_strokes, strsD, true_and]
  refine ⟨by rw [List.length_map]; exact Nat.le_trans k.le (by decide), ?_⟩
  simp only [rms, rm]
  refine cop_lc kc sc ss [] k.st ?_
  simp only [List.nil_append, rGN, st]
  refine hN _ _ ?_
  simp only [rRet, rCl, rStar, rVar, rNil, gt, res, seqD, List.append_nil]
  exact make_draw ((k.at kc sc).mono (by decide)) h
/-! ### random strokes -/
theorem Small.num {z : Num} (h : Small z) : Can z ∧ Sz 5 z := h
theorem okSm.ok {s : Stk} (h : okSm s) : okSt 5 s := ⟨h.1, by have := h.2.1; omega, h.2.2.1, fun z hz => h.2.2.2 z hz⟩
theorem moves_snoc : ∀ {s : Stk} {a b : Num}, moves (s ++ [a]) → a ≠ b → moves (s ++ [a] ++ [b])
  | [], a, b, _, h => ⟨h, trivial⟩
  | [x], a, b, m, h => ⟨m.1, h, trivial⟩
  | x :: y :: r, a, b, m, h => ⟨m.1, moves_snoc (s := y :: r) m.2 h⟩
theorem atI_lastD (s : Stk) (a : Num) : atI ((s ++ [a]).map numD) (-(1 : Int)) = some (numD a) := by
  rw [List.map_append]
  exact atI_last _ _
theorem updM_idL {μ : MH} {g : Addr} {xs : List D} (hm : μ g = some (.lst xs)) : updM μ g (.lst xs) = μ := by
  funext b
  unfold updM
  by_cases q : b = g
  · rw [if_pos q, q, hm]
  · rw [if_neg q]
theorem gAdd_tt {as bs : List D} {μ : MH} {R : D → MH → Prop} (hl : as.length + bs.length ≤ sizeLine) (h : R (.tup (as ++ bs)) μ) : gAdd (.tup as) (.tup bs) μ R := ⟨hl, h⟩
end L3

/-! ## V11b -/
set_option Elab.async false
set_option linter.all false
set_option maxRecDepth 100000
set_option maxHeartbeats 1000000
/-! Rules about drawings for the laws. -/
namespace L3
open PySem NM L2
section
variable {Γ : CL} {μ : MH} {Q : D → MH → Prop} {as bs ss : List Stk}
theorem copied_i {c : Cp} (kc : c.ok) (sc : c.sz quart) (k : okDr quart ss) (q : Q (drawD Γ (movedBy c ss)) μ) : sp_Drawing_copied Γ [drawD Γ ss, copyD Γ c] μ Q := ⟨ss, c, rfl, kc, sc, k, q⟩
end
theorem lk_copied (ss : List Stk) : (drawFs ss).lookup ("copied" : Str) = none := rfl
theorem okDr.sm {n : Nat} {ss : List Stk} (h : (ss.length : Int) ≤ 12) (k : ∀ s ∈ ss, okSm s) (l : 5 ≤ n) : okDr n ss := ⟨by omega, fun s hs => (k s hs).ok.mono l⟩
end L3

/-! ## SP4 -/
set_option Elab.async false
set_option linter.all false
set_option maxRecDepth 100000
set_option maxHeartbeats 4000000
/-! What a law tells of errors, with their attributes. -/
namespace L3
open PySem NM L2
def errTx (m : Nat) : Str := (["spot", "turn", "times", "few", "stroke", "open", "reach", "out", "many", "size", "box", "contra", "text", "row", "unknown", "name", "code", "arm", "free", "operation"] : List Str).getD m ""
/-- what stands behind the error's name -/
def tailE (m : Nat) (ds : List D) : D := match m with
  | 4 => ds.headD .non
  | 16 => ds.headD .non
  | 19 => ds.headD .non
  | 7 => .tup ds
  | 12 => .tup ds
  | 13 => .tup ds
  | _ => .int 0
def valE (m : Nat) (ds : List D) : D := .tup [.str (errTx m), tailE m ds]
/-- L: which classes, by their places in the law's list -/
def resE (Γ : CL) (L : List Nat) : Addr → List (Str × D) → D → Prop := fun C fs v => ∃ m ∈ L, ∃ ds, ds.length = (attrNs m).length ∧ C = Γ.gx (errN m) ∧ fs = ((attrNs m).zip ds).reverse ∧ v = valE m ds
/-! ### fractions -/
def fr (q : Rat) : D := .tup [.int q.num, .int (q.den : Int)]
def SzQ (n : Nat) (q : Rat) : Prop := Bt n q.num ∧ Bt n (q.den : Int)
def qmin (p q : Rat) : Rat := if q < p then q else p
def qmax (p q : Rat) : Rat := if p < q then q else p
/-- a spot that is not too large -/
def SpOk (z : Num) : Prop := Can z ∧ Sz 250 z
def segs : Stk → List (Num × Num)
  | a :: b :: r => (a, b) :: segs (b :: r)
  | _ => []
def partsL : Stk → List (Num × Num)
  | [z] => [(z, z)]
  | s => segs s
def sp_common_multiple (Γ : CL) : GN := fun ds μ R => ∃ (l : List Int) (N : Int), ds = [.lst (l.map D.int)] ∧ 0 < N ∧ Bt 7900 N ∧ (∀ x ∈ l, 0 < x ∧ x ∣ N) ∧ ∀ S : Int, 0 < S → S ∣ N → (∀ x ∈ l, x ∣ S) → R (.int S) μ
def joinS : Option (Rat × Rat) → Rat × Rat → Option (Rat × Rat)
  | none, x => some x
  | some o, x => some (qmin o.1 x.1, qmax o.2 x.2)
/-! ### chains that draw -/
/-- a copy of size 1 -/
def Cp.unit (c : Cp) : Prop := re c.t * re c.t + im c.t * im c.t = 1
end L3

/-! ## RB4 -/
set_option Elab.async false
set_option linter.all false
set_option maxRecDepth 100000
set_option maxHeartbeats 4000000
namespace L3
open PySem NM L2
/-- common_multiple(values) : 0 values, 1 found, 2 value -/
def rd_common_multiple (Γ : CL) : RS := (rSeq (rAsg (rC (.int 1)) (rGN 1))
 (rSeq (rFor (rILst (rVar 0)) (rGN 2)
 (rAsg (rOp gMul (rOp gDiv (rVar 1) (rCl (sp_common_divisor Γ) (rCons (rVar 1) (rCons (rVar 2) rNil)))) (rVar 2)) (rGN 1)))
 (rRet (rVar 1))))
/-- the suite of _law_error_of : 0 _law_call, 1 e, 2 _law_kinds, 3 _law_names, 4 _law_name -/
def rd_errF (a : Addr) (fs : List (Str × D)) (bs : Nat → Bool) : RS := (rSeq (rAsg (rLst (rCons (rIsEx a (bs 0) (rVar 1)) (rCons (rIsEx a (bs 1) (rVar 1)) (rCons (rIsEx a (bs 2) (rVar 1)) rNil)))) (rGN 2))
 (rSeq (rAsg (rOp gAdd (rVar 2) (rLst (rCons (rIsEx a (bs 3) (rVar 1)) (rCons (rIsEx a (bs 4) (rVar 1)) (rCons (rIsEx a (bs 5) (rVar 1)) rNil))))) (rGN 2))
 (rSeq (rAsg (rOp gAdd (rVar 2) (rLst (rCons (rIsEx a (bs 6) (rVar 1)) (rCons (rIsEx a (bs 7) (rVar 1)) (rCons (rIsEx a (bs 8) (rVar 1)) rNil))))) (rGN 2))
 (rSeq (rAsg (rOp gAdd (rVar 2) (rLst (rCons (rIsEx a (bs 9) (rVar 1)) (rCons (rIsEx a (bs 10) (rVar 1)) (rCons (rIsEx a (bs 11) (rVar 1)) rNil))))) (rGN 2))
 (rSeq (rAsg (rOp gAdd (rVar 2) (rLst (rCons (rIsEx a (bs 12) (rVar 1)) (rCons (rIsEx a (bs 13) (rVar 1)) (rCons (rIsEx a (bs 14) (rVar 1)) rNil))))) (rGN 2))
 (rSeq (rAsg (rOp gAdd (rVar 2) (rLst (rCons (rIsEx a (bs 15) (rVar 1)) (rCons (rIsEx a (bs 16) (rVar 1)) (rCons (rIsEx a (bs 17) (rVar 1)) rNil))))) (rGN 2))
 (rSeq (rAsg (rOp gAdd (rVar 2) (rLst (rCons (rIsEx a (bs 18) (rVar 1)) (rCons (rIsEx a (bs 19) (rVar 1)) rNil)))) (rGN 2))
 (rSeq (rIf (rOr (rB (rOp gNe (rBM gCount (rVar 2) (rCons (rC (.bl true)) rNil)) (rC (.int 1)))) (rNot (rB (rIsEx a true (rVar 1)))))
 rNever
 rNext)
 (rSeq (rAsg (rLst (rCons (rC (.str "spot")) (rCons (rC (.str "turn")) (rCons (rC (.str "times")) (rCons (rC (.str "few")) (rCons (rC (.str "stroke")) (rCons (rC (.str "open")) (rCons (rC (.str "reach")) (rCons (rC (.str "out")) (rCons (rC (.str "many")) (rCons (rC (.str "size")) (rCons (rC (.str "box")) (rCons (rC (.str "contra")) rNil))))))))))))) (rGN 3))
 (rSeq (rAsg (rOp gAdd (rVar 3) (rLst (rCons (rC (.str "text")) (rCons (rC (.str "row")) (rCons (rC (.str "unknown")) (rCons (rC (.str "name")) (rCons (rC (.str "code")) (rCons (rC (.str "arm")) (rCons (rC (.str "free")) (rCons (rC (.str "operation")) rNil)))))))))) (rGN 3))
 (rSeq (rAsg (rOp gIx (rVar 3) (rBM gIndex (rVar 2) (rCons (rC (.bl true)) rNil))) (rGN 4))
 (rSeq (rIf (rB (rOp gEq (rVar 4) (rC (.str "stroke"))))
 (rRetA1 a fs 1 "index" (rVar 4))
 rNext)
 (rSeq (rIf (rB (rOp gEq (rVar 4) (rC (.str "out"))))
 (rRetA3 a fs 1 "arm" "stroke" "part" (rVar 4))
 rNext)
 (rSeq (rIf (rB (rOp gEq (rVar 4) (rC (.str "text"))))
 (rRetA2 a fs 1 "row" "word" (rVar 4))
 rNext)
 (rSeq (rIf (rB (rOp gEq (rVar 4) (rC (.str "row"))))
 (rRetA2 a fs 1 "row" "reason" (rVar 4))
 rNext)
 (rRetAI a fs 1 "place" (rB (rOp gIn (rVar 4) (rLst (rCons (rC (.str "code")) (rCons (rC (.str "operation")) rNil))))) (rVar 4) (rC (.int 0))))))))))))))))))
end L3

/-! ## V19 -/
set_option Elab.async false
set_option linter.all false
set_option maxRecDepth 100000
set_option maxHeartbeats 1000000
/-! Fractions, reach, misses. -/
namespace L3
open PySem NM L2
/-! ### fractions -/
theorem SzQ.mono {n m : Nat} {q : Rat} (h : SzQ n q) (l : n ≤ m) : SzQ m q := ⟨h.1.mono l, h.2.mono l⟩
/-! ### near and far -/
section
variable {Γ : CL} {μ : MH} {Q : D → MH → Prop}
end
theorem lcm_step {s v : Int} (hs : 0 < s) (hv : 0 < v) : 0 < s.fdiv (gz s v) * v ∧ s ∣ s.fdiv (gz s v) * v ∧ v ∣ s.fdiv (gz s v) * v ∧ s.fdiv (gz s v) * v ≤ s * v ∧ (s.fdiv (gz s v)).natAbs ≤ s.natAbs := by
  have hg : 0 < gz s v := gz_pos (by omega)
  obtain ⟨k, hk⟩ := gz_dl s v
  obtain ⟨l, hl⟩ := gz_dr s v
  generalize gz s v = g at *
  have e : s.fdiv g = k := by rw [hk]; exact fdiv_mul' (by omega)
  have kp : 0 < k := by
    have : 0 < g * k := by omega
    exact Int.pos_of_mul_pos_right this hg
  rw [e]
  have h1 : 1 ≤ g := by omega
  have h2 : k ≤ s := by rw [hk]; have := Int.mul_le_mul_of_nonneg_right h1 (Int.le_of_lt kp); omega
  refine ⟨Int.mul_pos kp hv, ⟨l, by rw [hl, hk]; grind⟩, ⟨k, by grind⟩, Int.mul_le_mul_of_nonneg_right h2 (Int.le_of_lt hv), by omega⟩
theorem lcm_dvd {s v N : Int} (hs : 0 < s) (hv : 0 < v) (h1 : s ∣ N) (h2 : v ∣ N) : s.fdiv (gz s v) * v ∣ N := by
  have hg : 0 < gz s v := gz_pos (by omega)
  have hc := gz_mul_g s v
  obtain ⟨k, hk⟩ := gz_dl s v
  obtain ⟨l, hl⟩ := gz_dr s v
  generalize gz s v = g at *
  have e : s.fdiv g = k := by rw [hk]; exact fdiv_mul' (by omega)
  rw [e]
  have cop : Nat.Coprime k.natAbs l.natAbs := hc k l hk hl hg
  obtain ⟨a, ha⟩ := h1
  obtain ⟨b, hb⟩ := h2
  have e2 : k * a = l * b := by
    have : g * (k * a) = g * (l * b) := by
      have : s * a = v * b := by rw [← ha, hb]
      rw [hk, hl] at this
      grind
    exact Int.eq_of_mul_eq_mul_left (by omega) this
  have dk : k ∣ b := by
    refine Int.natAbs_dvd_natAbs.mp (cop.dvd_of_dvd_mul_left ?_)
    rw [← Int.natAbs_mul]
    exact Int.natAbs_dvd_natAbs.mpr ⟨a, e2.symm⟩
  obtain ⟨c, hc⟩ := dk
  exact ⟨c, by rw [hb, hc]; grind⟩
theorem vc_common_multiple (Γ : CL) : ∀ ds μ R, sp_common_multiple Γ ds μ R → rd_common_multiple Γ (fin R) (startD 3 ds) μ := by
  rintro ds μ R ⟨l, N0, rfl, hN0, bN, hl, h⟩
  unfold rd_common_multiple
  rw [show startD 3 [.lst (l.map D.int)] = [some (.lst (l.map D.int)), none, none] from rfl]
  have bd : ∀ x : Int, 0 < x → x ∣ N0 → Bt 7900 x := fun x hx hd => bN.le (by
    have := Int.le_of_dvd hN0 hd
    omega)
  have loop : ∀ (r pre : List Int) (s : Int) (x : Option D) (E : Ed) (μ : MH), 0 < s → s ∣ N0 → (∀ x ∈ r, 0 < x ∧ x ∣ N0) → (∀ x ∈ pre, x ∣ s) → (∀ s' y, 0 < s' → s' ∣ N0 → (∀ x ∈ pre ++ r, x ∣ s') → E.nx [some (.lst (l.map D.int)), some (.int s'), y] μ) →
      forD (rGN 2) (rAsg (rOp gMul (rOp gDiv (rVar 1) (rCl (sp_common_divisor Γ) (rCons (rVar 1) (rCons (rVar 2) rNil)))) (rVar 2)) (rGN 1)) tru E (r.map D.int) [some (.lst (l.map D.int)), some (.int s), x] μ := by
    intro r
    induction r with
    | nil => intro pre s x E μ hs hd _ hp k; exact ⟨trivial, k s x hs hd (by simpa using hp)⟩
    | cons v r ih =>
      intro pre s x E μ hs hd hr hp k
      obtain ⟨hv, dv⟩ := hr v (List.mem_cons_self ..)
      obtain ⟨k1, k2, k3, k4, k5⟩ := lcm_step hs hv
      have k6 := lcm_dvd hs hv hd dv
      refine ⟨trivial, ?_⟩
      simp only [rGN, st, rAsg, rOp, rVar, rCl, rCons, rNil, gt]
      show _ ∧ _
      refine ⟨⟨gz_ne (by omega), bt_gz (by omega) ((bd v hv dv).mono (by decide))⟩, ?_⟩
      refine ⟨⟨((bd s hs hd).le k5).mono (by decide), (bd v hv dv).mono (by decide)⟩, ?_⟩
      refine ih (pre ++ [v]) _ _ _ _ k1 k6 (fun y m => hr y (List.mem_cons_of_mem _ m)) (fun y m => ?_) (fun s' y a b c => k s' y a b (by rw [List.append_assoc] at c; exact c))
      rcases List.mem_append.mp m with m | m
      · exact Int.dvd_trans (hp y m) k2
      · have : y = v := by simpa using m
        exact this ▸ k3
  refine seq_g fun N hN => ?_
  simp only [rAsg, rC, rGN, st]
  refine hN _ _ ?_
  clear hN N
  refine seq_g fun N hN => ?_
  simp only [rFor, rILst, rVar, gt]
  refine loop l [] 1 none _ _ (by decide) (Int.one_dvd _) hl (fun _ m => nomatch m) fun s' y h1 h2 h3 => ?_
  refine hN _ _ ?_
  simp only [rRet, rVar, gt]
  exact h s' h1 h2 h3
/-! ### the distance from a part -/
/-! ### parts -/
theorem segs_mem : ∀ {s : Stk} {x : Num × Num}, x ∈ segs s → x.1 ∈ s ∧ x.2 ∈ s
  | [], x, h => nomatch h
  | [a], x, h => nomatch h
  | a :: b :: r, x, h => by
    rcases List.mem_cons.mp h with rfl | h
    · simp
    · have := segs_mem h
      exact ⟨List.mem_cons_of_mem _ this.1, List.mem_cons_of_mem _ this.2⟩
theorem parts_mem {s : Stk} {x : Num × Num} (h : x ∈ partsL s) : x.1 ∈ s ∧ x.2 ∈ s := by
  unfold partsL at h
  split at h
  · rcases List.mem_cons.mp h with rfl | h
    · simp
    · exact nomatch h
  · exact segs_mem h
theorem segs_len : ∀ {s : Stk}, (segs s).length = s.length - 1
  | [] => rfl
  | [a] => rfl
  | a :: b :: r => by
    have := segs_len (s := b :: r)
    simp only [segs, List.length_cons] at this ⊢
    omega
theorem cut1 (xs : List D) : cutD xs (some 1) none = xs.drop 1 := by
  unfold cutD HT.sIx
  cases xs with
  | nil => simp
  | cons x r => simp
theorem okSt.sp {s : Stk} (h : okSt 250 s) {x : Num × Num} (hx : x ∈ partsL s) : SpOk x.1 ∧ SpOk x.2 := ⟨h.can _ (parts_mem hx).1, h.can _ (parts_mem hx).2⟩
theorem Am.sz.mono {a : Am} {n m : Nat} (s : a.sz n) (h : n ≤ m) : a.sz m := ⟨s.1.mono h, s.2.mono h⟩
end L3

/-! ## V20 -/
set_option Elab.async false
set_option linter.all false
set_option maxRecDepth 100000
set_option maxHeartbeats 1000000
/-! Reach that is needed, what the law tells of misses. -/
namespace L3
open PySem NM L2
/-! ### the span of a drawing -/
/-! ### what the law tells -/
/-! ### a chain can draw what the law does not miss -/
end L3

/-! ## V22 -/
set_option Elab.async false
set_option linter.all false
set_option maxRecDepth 100000
set_option maxHeartbeats 1000000
/-! Errors with attributes, told. -/
namespace L3
open PySem NM L2
def rd_errTl (a : Addr) (fs : List (Str × D)) : RS := (rSeq (rIf (rB (rOp gEq (rVar 4) (rC (.str "stroke"))))
 (rRetA1 a fs 1 "index" (rVar 4))
 rNext)
 (rSeq (rIf (rB (rOp gEq (rVar 4) (rC (.str "out"))))
 (rRetA3 a fs 1 "arm" "stroke" "part" (rVar 4))
 rNext)
 (rSeq (rIf (rB (rOp gEq (rVar 4) (rC (.str "text"))))
 (rRetA2 a fs 1 "row" "word" (rVar 4))
 rNext)
 (rSeq (rIf (rB (rOp gEq (rVar 4) (rC (.str "row"))))
 (rRetA2 a fs 1 "row" "reason" (rVar 4))
 rNext)
 (rRetAI a fs 1 "place" (rB (rOp gIn (rVar 4) (rLst (rCons (rC (.str "code")) (rCons (rC (.str "operation")) rNil))))) (rVar 4) (rC (.int 0)))))))
theorem vcF_head {bs : Nat → Bool} {m : Nat} {nm : Str} {fs : List (Str × D)} (h1 : ((kindsD bs).countP fun y => deq y (.bl true)) = 1) (hm : (kindsD bs)[m]? = some (.bl true)) (hno : ∀ j z, j < m → (kindsD bs)[j]? = some z → deq z (.bl true) = false) (hp : pureN 20 (.lst (kindsD bs)) = true)
    (hn : namesD[m]? = some (.str nm)) (a : Addr) (μ : MH) (DD : Ed) (q : rd_errTl a fs DD [none, some (.ref a), some (.lst (kindsD bs)), some (.lst namesD), some (.str nm)] μ) : rd_errF a fs bs DD (st (List.replicate 5 none) 1 (.ref a)) μ := by
  unfold rd_errF
  rw [show st (List.replicate 5 none) 1 (.ref a) = [none, some (.ref a), none, none, none] from rfl]
  have two : ∀ x : D, ([x, x] : List D).length ≤ sizeLine := fun _ => (by decide : 2 ≤ 2 ^ 24)
  have e : ∀ (b : Bool) (s2 s3 s4 : Option D) (R : D → MH → Prop), R (.bl b) μ → rIsEx a b (rVar 1) [none, some (.ref a), s2, s3, s4] μ R := fun b s2 s3 s4 R q => isEx_i rfl q
  refine seq_g fun N hN => ?_
  simp only [rAsg, rLst, rCons, rNil]
  refine e _ _ _ _ _ (e _ _ _ _ _ (e _ _ _ _ _ ?_))
  refine ⟨(by decide : 3 ≤ 2 ^ 24), ?_⟩
  simp only [rGN, st]
  refine hN _ _ ?_
  clear hN N
  refine seq_g fun N hN => ?_
  simp only [rAsg, rOp, rVar, gt, rLst, rCons, rNil]
  refine e _ _ _ _ _ (e _ _ _ _ _ (e _ _ _ _ _ ?_))
  refine ⟨(by decide : 3 ≤ 2 ^ 24), gAdd_lll (by show 3 + 3 ≤ 1000; decide) ?_⟩
  simp only [rGN, st, List.cons_append, List.nil_append]
  refine hN _ _ ?_
  clear hN N
  refine seq_g fun N hN => ?_
  simp only [rAsg, rOp, rVar, gt, rLst, rCons, rNil]
  refine e _ _ _ _ _ (e _ _ _ _ _ (e _ _ _ _ _ ?_))
  refine ⟨(by decide : 3 ≤ 2 ^ 24), gAdd_lll (by show 6 + 3 ≤ 1000; decide) ?_⟩
  simp only [rGN, st, List.cons_append, List.nil_append]
  refine hN _ _ ?_
  clear hN N
  refine seq_g fun N hN => ?_
  simp only [rAsg, rOp, rVar, gt, rLst, rCons, rNil]
  refine e _ _ _ _ _ (e _ _ _ _ _ (e _ _ _ _ _ ?_))
  refine ⟨(by decide : 3 ≤ 2 ^ 24), gAdd_lll (by show 9 + 3 ≤ 1000; decide) ?_⟩
  simp only [rGN, st, List.cons_append, List.nil_append]
  refine hN _ _ ?_
  clear hN N
  refine seq_g fun N hN => ?_
  simp only [rAsg, rOp, rVar, gt, rLst, rCons, rNil]
  refine e _ _ _ _ _ (e _ _ _ _ _ (e _ _ _ _ _ ?_))
  refine ⟨(by decide : 3 ≤ 2 ^ 24), gAdd_lll (by show 12 + 3 ≤ 1000; decide) ?_⟩
  simp only [rGN, st, List.cons_append, List.nil_append]
  refine hN _ _ ?_
  clear hN N
  refine seq_g fun N hN => ?_
  simp only [rAsg, rOp, rVar, gt, rLst, rCons, rNil]
  refine e _ _ _ _ _ (e _ _ _ _ _ (e _ _ _ _ _ ?_))
  refine ⟨(by decide : 3 ≤ 2 ^ 24), gAdd_lll (by show 15 + 3 ≤ 1000; decide) ?_⟩
  simp only [rGN, st, List.cons_append, List.nil_append]
  refine hN _ _ ?_
  clear hN N
  refine seq_g fun N hN => ?_
  simp only [rAsg, rOp, rVar, gt, rLst, rCons, rNil]
  refine e _ _ _ _ _ (e _ _ _ _ _ ?_)
  refine ⟨(by decide : 2 ≤ 2 ^ 24), gAdd_lll (by show 18 + 2 ≤ 1000; decide) ?_⟩
  simp only [rGN, st, List.cons_append, List.nil_append]
  refine hN _ _ ?_
  clear hN N
  show rSeq _ _ DD [none, some (.ref a), some (.lst (kindsD bs)), none, none] μ
  refine seq_g fun N hN => ?_
  simp only [rIf, rOr, rNot, rB, rOp, rBM, rVar, gt, rCons, rC, rNil, gCount]
  refine ⟨hp, rfl, ?_⟩
  rw [h1]
  simp only [gNe_i]
  refine ite_no (by decide) ?_
  refine e _ _ _ _ _ ?_
  simp only [Bool.not_true, Bool.false_eq_true, if_false, rNext]
  refine hN _ _ ?_
  clear hN N
  refine seq_g fun N hN => ?_
  simp only [rAsg, rLst, rCons, rC, rNil]
  refine ⟨(by decide : 12 ≤ 2 ^ 24), ?_⟩
  simp only [rGN, st]
  refine hN _ _ ?_
  clear hN N
  refine seq_g fun N hN => ?_
  simp only [rAsg, rOp, rVar, gt, rLst, rCons, rC, rNil]
  refine ⟨(by decide : 8 ≤ 2 ^ 24), gAdd_lll (by show 12 + 8 ≤ 1000; decide) ?_⟩
  simp only [rGN, st, List.cons_append, List.nil_append]
  refine hN _ _ ?_
  clear hN N
  show rSeq _ _ DD [none, some (.ref a), some (.lst (kindsD bs)), some (.lst namesD), none] μ
  refine seq_g fun N hN => ?_
  simp only [rAsg, rOp, rVar, gt, rBM, rCons, rC, rNil, gIndex]
  refine ⟨hp, rfl, m, _, hm, rfl, hno, ?_⟩
  rw [gIx_l, atI_lit, hn]
  simp only [rGN, st]
  refine hN _ _ ?_
  clear hN N
  exact q
theorem tl_no {nm x : Str} {b : Bool} (ok : PyData.strOk nm = true) (ox : PyData.strOk x = true) (e : (nm == x) = b) {a : Addr} {s2 s3 : Option D} {μ : MH} {R : Bool → MH → Prop} (q : R b μ) : rB (rOp gEq (rVar 4) (rC (.str x))) [none, some (.ref a), s2, s3, some (.str nm)] μ R := by
  simp only [rB, rOp, rVar, gt, rC]
  exact gEq_s ok ox e q
theorem vcF_9 {ds : List D} (hl : ds.length = (attrNs 9).length) (a : Addr) (μ : MH) (DD : Ed) (q : DD.rt (valE 9 ds) μ) : rd_errF a (((attrNs 9).zip ds).reverse) (fun j => decide (j = 9)) DD (st (List.replicate 5 none) 1 (.ref a)) μ := by
  match ds, hl, q with
  | [], _, q =>
    refine vcF_head (m := 9) (nm := "size") (by decide) (by rfl) no_before (by decide) (by rfl) a μ DD ?_
    unfold rd_errTl
    refine seq_g fun N hN => ?_
    simp only [rIf]
    refine tl_no (b := false) (by decide +kernel) (by decide +kernel) (by decide +kernel) ?_
    simp only [Bool.false_eq_true, if_false, rNext]
    refine hN _ _ ?_
    clear hN N
    refine seq_g fun N hN => ?_
    simp only [rIf]
    refine tl_no (b := false) (by decide +kernel) (by decide +kernel) (by decide +kernel) ?_
    simp only [Bool.false_eq_true, if_false, rNext]
    refine hN _ _ ?_
    clear hN N
    refine seq_g fun N hN => ?_
    simp only [rIf]
    refine tl_no (b := false) (by decide +kernel) (by decide +kernel) (by decide +kernel) ?_
    simp only [Bool.false_eq_true, if_false, rNext]
    refine hN _ _ ?_
    clear hN N
    refine seq_g fun N hN => ?_
    simp only [rIf]
    refine tl_no (b := false) (by decide +kernel) (by decide +kernel) (by decide +kernel) ?_
    simp only [Bool.false_eq_true, if_false, rNext]
    refine hN _ _ ?_
    clear hN N
    simp only [rRetAI, rVar, gt, rB, rOp, rLst, rCons, rC, rNil]
    refine ⟨(by decide : 2 ≤ 2 ^ 24), (by decide +kernel : PyData.strOk "size" = true), (by decide +kernel), ?_⟩
    simp only [res]
    refine ite_no (by decide +kernel) ?_
    exact q
end L3

/-! ## L4c -/
set_option Elab.async false
set_option linter.all false
set_option maxRecDepth 100000
set_option maxHeartbeats 4000000
/-! xs[::-1] of a list. -/
namespace L3
open PySem PySem.Spec PyProof.Rows L2
def rRevL (fe : RX) : RX := fun ρ μ R => fe ρ μ fun d μ1 => match res μ1 d with
  | .lst ds => R (.lst ds.reverse) μ1
  | _ => False
theorem de_revL {X : Cx} {e : Expr} {fe : RX} {k : Nat} {p1 p2 p3 pos : Pos} (he : DE X e fe) : DE X (.Subscript e (.Slice none none (some (.UnaryOp .USub (.Constant (.int 1) k p1) p2)) p3) pos) (rRevL fe) := pe_imp (pe_revL he) fun σ H Q ⟨S, μ, ρ, R, k, e, h, post⟩ => by
  refine ⟨S, μ, ρ, _, k, e, h, fun S1 μ1 H1 v1 d1 k1 s1 r1 h1 => ?_⟩
  cases q : res μ1 d1 with
  | lst ds =>
    rw [q] at h1
    obtain ⟨p, vs, rfl, h2, r2⟩ := res_lst k1 r1 q
    refine ⟨p, vs, rfl, .of h2, fun q hq => ?_⟩
    obtain ⟨k2, s2⟩ := k1.alloc (o := .lst vs.reverse) hq
    exact post _ _ _ _ _ k2 (s1.trans s2) (.lst upd_same (r2.reverse.mono s2.same)) h1
  | _ => rw [q] at h1; exact h1.elim
end L3

/-! ## SP5 -/
set_option Elab.async false
set_option linter.all false
set_option maxRecDepth 100000
set_option maxHeartbeats 4000000
/-! Spots in reach of chains. -/
namespace L3
open PySem NM L2

def c_MAX_SIZE : D := .int 20
def intsL (lo : Int) : Nat → List Int
  | 0 => []
  | n + 1 => lo :: intsL (lo + 1) n
theorem rangeD_intsL : ∀ (n : Nat) (lo : Int), rangeD lo n = (intsL lo n).map D.int
  | 0, _ => rfl
  | n + 1, lo => congrArg (D.int lo :: ·) (rangeD_intsL n (lo + 1))
theorem intsL_len : ∀ (n : Nat) (lo : Int), (intsL lo n).length = n
  | 0, _ => rfl
  | n + 1, lo => congrArg Nat.succ (intsL_len n (lo + 1))
theorem intsL_mem : ∀ {n : Nat} {lo i : Int}, i ∈ intsL lo n ↔ lo ≤ i ∧ i < lo + n
  | 0, lo, i => by simp [intsL]
  | n + 1, lo, i => by
    show i ∈ lo :: intsL (lo + 1) n ↔ _
    rw [List.mem_cons, intsL_mem (n := n)]
    omega
/-- the whole numbers from -n to n -/
def sideL (n : Int) : List Int := intsL (0 - n) (n + 1 - (0 - n)).toNat
end L3

/-! ## RB5 -/
set_option Elab.async false
set_option linter.all false
set_option maxRecDepth 100000
set_option maxHeartbeats 4000000
namespace L3
open PySem NM L2
end L3

/-! ## SP6 -/
set_option Elab.async false
set_option linter.all false
set_option maxRecDepth 100000
set_option maxHeartbeats 4000000
/-! Chains: equal ones, too many arms. -/
namespace L3
open PySem NM L2
end L3

/-! ## RB6 -/
set_option Elab.async false
set_option linter.all false
set_option maxRecDepth 100000
set_option maxHeartbeats 4000000
namespace L3
open PySem NM L2
end L3

/-! ## IK1 -/
set_option Elab.async false
set_option linter.all false
set_option maxRecDepth 100000
set_option maxHeartbeats 1000000
/-! Sets of spots that dots and stretches of lines cover; the normal form is the only one. -/
namespace L3.Ink
abbrev Q2 := Rat × Rat
def lt (a b : Q2) : Prop := a.1 < b.1 ∨ (a.1 = b.1 ∧ a.2 < b.2)
def le (a b : Q2) : Prop := a.1 < b.1 ∨ (a.1 = b.1 ∧ a.2 ≤ b.2)
instance (a b : Q2) : Decidable (lt a b) := by unfold lt; exact inferInstance
instance (a b : Q2) : Decidable (le a b) := by unfold le; exact inferInstance
def crs (a b p : Q2) : Rat := (p.1 - a.1) * (b.2 - a.2) - (p.2 - a.2) * (b.1 - a.1)
section
variable {a b c d p q : Q2}
theorem lt_trans (h : lt a b) (k : lt b c) : lt a c := by unfold lt at *; grind
theorem le_trans (h : le a b) (k : le b c) : le a c := by unfold le at *; grind
theorem lt_le (h : lt a b) (k : le b c) : lt a c := by unfold lt le at *; grind
theorem le_iff : le a b ↔ ¬ lt b a := by unfold le lt; grind
theorem lt_iff : lt a b ↔ ¬ le b a := by unfold le lt; grind
theorem le_anti (h : le a b) (k : le b a) : a = b := by unfold le at *; apply Prod.ext <;> grind
theorem lt_irrefl : ¬ lt a a := by unfold lt; grind
theorem le_refl : le a a := by unfold le; grind
theorem lt.le (h : lt a b) : le a b := le_iff.mpr fun z => lt_irrefl (lt_trans h z)
theorem le_of_eq (h : a = b) : le a b := h ▸ le_refl
theorem lt_or_eq (h : le a b) : lt a b ∨ a = b := by
  by_cases q : lt a b
  · exact .inl q
  · exact .inr (le_anti h (le_iff.mpr q))
theorem tri : lt a b ∨ a = b ∨ lt b a := by
  by_cases h : lt a b
  · exact .inl h
  · exact .inr ((lt_or_eq (le_iff.mpr h)).elim .inr fun e => .inl e.symm)
def mid (a b : Q2) : Q2 := ((a.1 + b.1) / 2, (a.2 + b.2) / 2)
theorem mid_lt (h : lt a b) : lt a (mid a b) ∧ lt (mid a b) b := by unfold lt mid at *; grind
theorem mid_on (h : crs a b p = 0) (k : crs a b q = 0) : crs a b (mid p q) = 0 := by unfold crs mid at *; grind
theorem on_l : crs a b a = 0 := by unfold crs; grind
theorem on_r : crs a b b = 0 := by unfold crs; grind
/-- parallel to the same -/
theorem par {ux uy vx vy wx wy : Rat} (hv : ¬ (vx = 0 ∧ vy = 0)) (h1 : ux * vy = uy * vx) (h2 : wx * vy = wy * vx) : ux * wy = uy * wx := by
  by_cases h : vx = 0
  · have hy : vy ≠ 0 := fun e => hv ⟨h, e⟩
    have e1 : vy * (ux * wy - uy * wx) = 0 := by grind
    rcases Rat.mul_eq_zero.mp e1 with e | e
    · exact absurd e hy
    · grind
  · have e1 : vx * (ux * wy - uy * wx) = 0 := by grind
    rcases Rat.mul_eq_zero.mp e1 with e | e
    · exact absurd e h
    · grind
theorem dir_ne (h : lt a b) : ¬ (b.1 - a.1 = 0 ∧ b.2 - a.2 = 0) := by unfold lt at h; grind
/-- two spots of a line tell it -/
theorem on_two (h : lt a b) (k : lt c d) (hc : crs a b c = 0) (hd : crs a b d = 0) : crs c d p = 0 ↔ crs a b p = 0 := by
  have v := dir_ne h
  have w := dir_ne k
  have pw : (d.1 - c.1) * (b.2 - a.2) = (d.2 - c.2) * (b.1 - a.1) := by unfold crs at *; grind
  constructor
  · intro hp
    have z : (p.1 - c.1) * (b.2 - a.2) = (p.2 - c.2) * (b.1 - a.1) := par (vx := d.1 - c.1) (vy := d.2 - c.2) w (by unfold crs at hp; grind) (by grind)
    unfold crs at *
    grind
  · intro hp
    have z : (p.1 - c.1) * (d.2 - c.2) = (p.2 - c.2) * (d.1 - c.1) := par (vx := b.1 - a.1) (vy := b.2 - a.2) v (by unfold crs at *; grind) (by grind)
    unfold crs
    grind
end
def seg (a b p : Q2) : Prop := crs a b p = 0 ∧ le a p ∧ le p b
theorem seg_l {a b : Q2} (h : lt a b) : seg a b a := ⟨on_l, le_refl, h.le⟩
theorem seg_r {a b : Q2} (h : lt a b) : seg a b b := ⟨on_r, h.le, le_refl⟩
/-- a line that leaves another one meets it in one spot at most -/
theorem meet_one {a b c d p q : Q2} (h : lt a b) (k : lt c d) (n : ¬ (crs a b c = 0 ∧ crs a b d = 0)) (h1 : crs a b p = 0) (h2 : crs a b q = 0) (h3 : crs c d p = 0) (h4 : crs c d q = 0) : p = q := by
  rcases tri (a := p) (b := q) with z | z | z
  · exact absurd ⟨(on_two h z h1 h2).mp ((on_two k z h3 h4).mpr on_l), (on_two h z h1 h2).mp ((on_two k z h3 h4).mpr on_r)⟩ n
  · exact z
  · exact absurd ⟨(on_two h z h2 h1).mp ((on_two k z h4 h3).mpr on_l), (on_two h z h2 h1).mp ((on_two k z h4 h3).mpr on_r)⟩ n
/-- a spot of the line, just behind a, that finitely many spots leave alone -/
theorem near {a b a0 b0 : Q2} (h : lt a b) (ha : crs a0 b0 a = 0) (hb : crs a0 b0 b = 0) : ∀ bs : List (Q2 → Prop), (∀ B ∈ bs, ∀ q q', crs a0 b0 q = 0 → crs a0 b0 q' = 0 → B q → B q' → q = q') →
    ∃ p, crs a0 b0 p = 0 ∧ lt a p ∧ lt p b ∧ ∀ B ∈ bs, ∀ q, crs a0 b0 q = 0 → B q → ¬ (lt a q ∧ le q p)
  | [], _ => ⟨mid a b, mid_on ha hb, (mid_lt h).1, (mid_lt h).2, fun _ x => nomatch x⟩
  | B :: bs, u => by
    obtain ⟨p, p1, p2, p3, p4⟩ := near h ha hb bs fun C m => u C (List.mem_cons_of_mem _ m)
    by_cases e : ∃ f, crs a0 b0 f = 0 ∧ B f ∧ lt a f ∧ le f p
    · obtain ⟨f, f1, f2, f3, f4⟩ := e
      have m := mid_lt f3
      refine ⟨mid a f, mid_on ha f1, m.1, lt_le m.2 (le_trans f4 p3.le), fun C hC q q1 q2 ⟨q3, q4⟩ => ?_⟩
      rcases List.mem_cons.mp hC with rfl | hC
      · have := u C (List.mem_cons_self ..) f q f1 q1 f2 q2
        subst this
        exact lt_irrefl (lt_le m.2 q4 |> fun z => by exact z)
      · exact p4 C hC q q1 q2 ⟨q3, le_trans q4 (lt_le m.2 f4).le⟩
    · refine ⟨p, p1, p2, p3, fun C hC q q1 q2 q3 => ?_⟩
      rcases List.mem_cons.mp hC with rfl | hC
      · exact e ⟨q, q1, q2, q3⟩
      · exact p4 C hC q q1 q2 q3
abbrev Ln := Q2 × Q2
def cov (ds : List Q2) (ls : List Ln) (p : Q2) : Prop := p ∈ ds ∨ ∃ l ∈ ls, seg l.1 l.2 p
def ltL (l m : Ln) : Prop := lt l.1 m.1 ∨ (l.1 = m.1 ∧ lt l.2 m.2)
structure NF (ds : List Q2) (ls : List Ln) : Prop where
  asc : ∀ l ∈ ls, lt l.1 l.2
  apart : ∀ l ∈ ls, ∀ m ∈ ls, crs l.1 l.2 m.1 = 0 → crs l.1 l.2 m.2 = 0 → ∀ p, seg l.1 l.2 p → seg m.1 m.2 p → l = m
  off : ∀ d ∈ ds, ∀ l ∈ ls, ¬ seg l.1 l.2 d
  sd : ds.Pairwise lt
  sl : ls.Pairwise ltL
open Classical in
/-- what tells a covering thing on the line through a0, b0 -/
noncomputable def thin (a0 b0 : Q2) (l : Ln) : Q2 → Prop := if crs a0 b0 l.1 = 0 ∧ crs a0 b0 l.2 = 0 then fun q => q = l.1 else fun q => seg l.1 l.2 q
/-- a stretch that is covered lies within one of the longest stretches -/
theorem inside {ds : List Q2} {ls : List Ln} (n : NF ds ls) {a b : Q2} (h : lt a b) (c : ∀ p, seg a b p → cov ds ls p) : ∃ m ∈ ls, crs a b m.1 = 0 ∧ crs a b m.2 = 0 ∧ le m.1 a ∧ le b m.2 := by
  have bad : ∀ B ∈ (ds.map fun d => (fun q => q = d)) ++ ls.map (thin a b), ∀ q q', crs a b q = 0 → crs a b q' = 0 → B q → B q' → q = q' := by
    intro B hB q q' h1 h2 h3 h4
    rcases List.mem_append.mp hB with m | m
    · obtain ⟨d, _, rfl⟩ := List.mem_map.mp m
      exact h3.trans h4.symm
    · obtain ⟨l, hl, rfl⟩ := List.mem_map.mp m
      unfold thin at h3 h4
      by_cases e : crs a b l.1 = 0 ∧ crs a b l.2 = 0
      · rw [if_pos e] at h3 h4
        exact h3.trans h4.symm
      · rw [if_neg e] at h3 h4
        exact meet_one h (n.asc l hl) e h1 h2 h3.1 h4.1
  -- the stretch that covers what comes just behind c
  have step : ∀ x, crs a b x = 0 → le a x → lt x b → ∃ m ∈ ls, crs a b m.1 = 0 ∧ crs a b m.2 = 0 ∧ le m.1 x ∧ lt x m.2 := by
    intro x hx ax xb
    obtain ⟨p, p1, p2, p3, p4⟩ := near xb hx (on_r (a := a) (b := b)) _ bad
    rcases c p ⟨p1, le_trans ax p2.le, p3.le⟩ with hd | ⟨l, hl, hs⟩
    · exact absurd ⟨p2, le_refl⟩ (p4 (fun q => q = p) (List.mem_append_left _ (List.mem_map.mpr ⟨p, hd, rfl⟩)) p p1 rfl)
    · have mem := List.mem_append_right (ds.map fun d => (fun q : Q2 => q = d)) (List.mem_map.mpr ⟨l, hl, rfl⟩ : thin a b l ∈ ls.map (thin a b))
      by_cases e : crs a b l.1 = 0 ∧ crs a b l.2 = 0
      · refine ⟨l, hl, e.1, e.2, ?_, lt_le p2 hs.2.2⟩
        have z := p4 _ mem l.1 e.1 (by unfold thin; rw [if_pos e])
        rw [le_iff]
        exact fun w => z ⟨w, hs.2.1⟩
      · exact absurd ⟨p2, le_refl⟩ (p4 _ mem p p1 (by unfold thin; rw [if_neg e]; exact hs))
  obtain ⟨m, hm, m1, m2, m3, m4⟩ := step a on_l le_refl h
  refine ⟨m, hm, m1, m2, m3, ?_⟩
  rw [le_iff]
  intro w
  obtain ⟨k, hk, k1, k2, k3, k4⟩ := step m.2 m2 m4.le w
  have am := n.asc m hm
  have ak := n.asc k hk
  have e := n.apart m hm k hk ((on_two h am m1 m2).mpr k1) ((on_two h am m1 m2).mpr k2) m.2 (seg_r am) ⟨(on_two h ak k1 k2).mpr m2, k3, k4.le⟩
  subst e
  exact lt_irrefl k4
theorem lines_in {ds ds' : List Q2} {ls ls' : List Ln} (n : NF ds ls) (n' : NF ds' ls') (c : ∀ p, cov ds ls p ↔ cov ds' ls' p) : ∀ l ∈ ls, l ∈ ls' := by
  intro l hl
  have al := n.asc l hl
  obtain ⟨m, hm, m1, m2, m3, m4⟩ := inside n' al fun p hp => (c p).mp (.inr ⟨l, hl, hp⟩)
  have am := n'.asc m hm
  obtain ⟨k, hk, k1, k2, k3, k4⟩ := inside n am fun p hp => (c p).mpr (.inr ⟨m, hm, hp⟩)
  have ak := n.asc k hk
  have o1 : crs l.1 l.2 k.1 = 0 := (on_two al am m1 m2).mp k1
  have o2 : crs l.1 l.2 k.2 = 0 := (on_two al am m1 m2).mp k2
  have e := n.apart l hl k hk o1 o2 l.1 (seg_l al) ⟨(on_two al ak o1 o2).mpr on_l, le_trans k3 m3, le_trans al.le (le_trans m4 k4)⟩
  subst e
  have e1 : m.1 = l.1 := le_anti m3 k3
  have e2 : m.2 = l.2 := le_anti k4 m4
  have : m = l := Prod.ext e1 e2
  exact this ▸ hm
theorem sorted_eq {α : Type} {r : α → α → Prop} (ir : ∀ a, ¬ r a a) (tr : ∀ a b c, r a b → r b c → r a c) : ∀ {xs ys : List α}, xs.Pairwise r → ys.Pairwise r → (∀ x, x ∈ xs ↔ x ∈ ys) → xs = ys
  | [], [], _, _, _ => rfl
  | [], y :: ys, _, _, h => nomatch (h y).mpr (List.mem_cons_self ..)
  | x :: xs, [], _, _, h => nomatch (h x).mp (List.mem_cons_self ..)
  | x :: xs, y :: ys, hx, hy, h => by
    rw [List.pairwise_cons] at hx hy
    have e : x = y := by
      rcases List.mem_cons.mp ((h x).mp (List.mem_cons_self ..)) with e | e
      · exact e
      · rcases List.mem_cons.mp ((h y).mpr (List.mem_cons_self ..)) with f | f
        · exact f.symm
        · exact absurd (tr _ _ _ (hx.1 y f) (hy.1 x e)) (ir x)
    subst e
    congr 1
    refine sorted_eq ir tr hx.2 hy.2 fun z => ⟨fun m => ?_, fun m => ?_⟩
    · rcases List.mem_cons.mp ((h z).mp (List.mem_cons_of_mem _ m)) with e | e
      · exact absurd (e ▸ hx.1 z m) (ir x)
      · exact e
    · rcases List.mem_cons.mp ((h z).mpr (List.mem_cons_of_mem _ m)) with e | e
      · exact absurd (e ▸ hy.1 z m) (ir x)
      · exact e
theorem ltL_irrefl {l : Ln} : ¬ ltL l l := fun h => h.elim lt_irrefl fun z => lt_irrefl z.2
theorem ltL_trans {l m k : Ln} (h : ltL l m) (g : ltL m k) : ltL l k := by
  rcases h with h | ⟨e, h⟩
  · rcases g with g | ⟨f, g⟩
    · exact .inl (lt_trans h g)
    · exact .inl (f ▸ h)
  · rcases g with g | ⟨f, g⟩
    · exact .inl (e ▸ g)
    · exact .inr ⟨e.trans f, lt_trans h g⟩
/-- the normal form is the only one -/
theorem unique {ds ds' : List Q2} {ls ls' : List Ln} (n : NF ds ls) (n' : NF ds' ls') (c : ∀ p, cov ds ls p ↔ cov ds' ls' p) : ds = ds' ∧ ls = ls' := by
  have hl : ∀ l, l ∈ ls ↔ l ∈ ls' := fun l => ⟨lines_in n n' c l, lines_in n' n (fun p => (c p).symm) l⟩
  refine ⟨sorted_eq (fun _ => lt_irrefl) (fun _ _ _ => lt_trans) n.sd n'.sd fun d => ⟨fun hd => ?_, fun hd => ?_⟩, sorted_eq (fun _ => ltL_irrefl) (fun _ _ _ => ltL_trans) n.sl n'.sl hl⟩
  · rcases (c d).mp (.inl hd) with z | ⟨l, h, s⟩
    · exact z
    · exact absurd s (n.off d hd l ((hl l).mpr h))
  · rcases (c d).mpr (.inl hd) with z | ⟨l, h, s⟩
    · exact z
    · exact absurd s (n'.off d hd l ((hl l).mp h))
end L3.Ink

/-! ## IK2 -/
set_option Elab.async false
set_option linter.all false
set_option maxRecDepth 100000
set_option maxHeartbeats 1000000
/-! The ink of places of whole numbers: keys of lines, joined stretches, dots. -/
namespace L3.Ink
open NM
abbrev Pl := Int × Int
abbrev Sg := Pl × Pl
abbrev Ky := Int × Int × Int
def ltI (a b : Pl) : Prop := a.1 < b.1 ∨ (a.1 = b.1 ∧ a.2 < b.2)
def leI (a b : Pl) : Prop := a.1 < b.1 ∨ (a.1 = b.1 ∧ a.2 ≤ b.2)
instance (a b : Pl) : Decidable (ltI a b) := by unfold ltI; exact inferInstance
instance (a b : Pl) : Decidable (leI a b) := by unfold leI; exact inferInstance
def minI (a b : Pl) : Pl := if ltI b a then b else a
def maxI (a b : Pl) : Pl := if ltI a b then b else a
/-- what tells the line through two places -/
def keyI (a b : Pl) : Ky :=
  let r := (b.1 - a.1).fdiv (gz (b.1 - a.1) (b.2 - a.2))
  let u := (b.2 - a.2).fdiv (gz (b.1 - a.1) (b.2 - a.2))
  if r < 0 ∨ r = 0 ∧ u < 0 then (0 - r, 0 - u, a.1 * (0 - u) - a.2 * (0 - r)) else (r, u, a.1 * u - a.2 * r)
/-- (right, up) of a key -/
def KyOk (k : Ky) : Prop := gz k.1 k.2.1 = 1 ∧ (0 < k.1 ∨ k.1 = 0 ∧ 0 < k.2.1)
theorem gz_mul_l {g a b : Int} (h : 0 < g) : gz (g * a) (g * b) = g * gz a b := by
  unfold gz
  rw [Int.gcd_mul_left]
  have : (g.natAbs : Int) = g := by omega
  rw [Int.natCast_mul, this]
theorem key_spec {a b : Pl} (h : a ≠ b) : ∃ g : Int, g ≠ 0 ∧ b.1 - a.1 = g * (keyI a b).1 ∧ b.2 - a.2 = g * (keyI a b).2.1 ∧ KyOk (keyI a b) ∧ (keyI a b).2.2 = a.1 * (keyI a b).2.1 - a.2 * (keyI a b).1 := by
  have ne : ¬ (b.1 - a.1 = 0 ∧ b.2 - a.2 = 0) := fun ⟨e1, e2⟩ => h (Prod.ext (by omega) (by omega))
  have g0 : 0 < gz (b.1 - a.1) (b.2 - a.2) := by
    by_cases e : b.2 - a.2 = 0
    · have e1 : b.1 - a.1 ≠ 0 := fun z => ne ⟨z, e⟩
      unfold gz
      rw [Int.gcd_comm]
      exact gz_pos e1
    · exact gz_pos e
  obtain ⟨r, hr⟩ := gz_dl (b.1 - a.1) (b.2 - a.2)
  obtain ⟨u, hu⟩ := gz_dr (b.1 - a.1) (b.2 - a.2)
  have er : (b.1 - a.1).fdiv (gz (b.1 - a.1) (b.2 - a.2)) = r := by
    conv => lhs; arg 1; rw [hr]
    exact fdiv_mul' (by omega)
  have eu : (b.2 - a.2).fdiv (gz (b.1 - a.1) (b.2 - a.2)) = u := by
    conv => lhs; arg 1; rw [hu]
    exact fdiv_mul' (by omega)
  have cop : gz r u = 1 := by
    have := gz_mul_l (a := r) (b := u) g0
    rw [← hr, ← hu] at this
    have z : gz (b.1 - a.1) (b.2 - a.2) * 1 = gz (b.1 - a.1) (b.2 - a.2) * gz r u := by rw [Int.mul_one]; exact this
    exact (Int.eq_of_mul_eq_mul_left (by omega) z).symm
  generalize hg : gz (b.1 - a.1) (b.2 - a.2) = g at *
  unfold keyI
  rw [hg, er, eu]
  dsimp only
  by_cases c : r < 0 ∨ r = 0 ∧ u < 0
  · rw [if_pos c]
    refine ⟨-g, by omega, by dsimp only; rw [hr]; grind, by dsimp only; rw [hu]; grind, ⟨by dsimp only; rw [gz_neg, gz_neg']; exact cop, by dsimp only; omega⟩, rfl⟩
  · rw [if_neg c]
    refine ⟨g, by omega, hr, hu, ⟨cop, ?_⟩, rfl⟩
    have : ¬ (r = 0 ∧ u = 0) := fun ⟨e1, e2⟩ => by
      rw [e1, e2] at cop
      exact absurd cop (by decide)
    dsimp only
    omega
theorem cop_dvd {r u x : Int} (h : gz r u = 1) (k : r ∣ x * u) : r ∣ x := by
  unfold gz at h
  have h : Nat.Coprime r.natAbs u.natAbs := by
    have : Int.gcd r u = 1 := by exact_mod_cast h
    exact this
  refine Int.natAbs_dvd_natAbs.mp (h.dvd_of_dvd_mul_right ?_)
  rw [← Int.natAbs_mul]
  exact Int.natAbs_dvd_natAbs.mpr k
/-- two ways that go along each other are the same -/
theorem way_one {r u r' u' : Int} (h : gz r u = 1) (s : 0 < r ∨ r = 0 ∧ 0 < u) (h' : gz r' u' = 1) (s' : 0 < r' ∨ r' = 0 ∧ 0 < u') (e : r * u' = r' * u) : r = r' ∧ u = u' := by
  have d1 : r ∣ r' := cop_dvd h ⟨u', by rw [e]⟩
  have d2 : r' ∣ r := cop_dvd h' ⟨u, by rw [← e]⟩
  have er : r = r' := Int.dvd_antisymm (by omega) (by omega) d1 d2
  subst er
  refine ⟨rfl, ?_⟩
  by_cases z : r = 0
  · subst z
    have a1 : u.natAbs = 1 := by
      have : gz 0 u = (u.natAbs : Int) := by unfold gz; rw [Int.gcd_zero_left]
      omega
    have a2 : u'.natAbs = 1 := by
      have : gz 0 u' = (u'.natAbs : Int) := by unfold gz; rw [Int.gcd_zero_left]
      omega
    omega
  · exact (Int.eq_of_mul_eq_mul_left z e).symm
/-- a place lies on a line -/
def onK (k : Ky) (p : Pl) : Prop := p.1 * k.2.1 - p.2 * k.1 = k.2.2
theorem key_on {a b : Pl} (h : a ≠ b) : onK (keyI a b) a ∧ onK (keyI a b) b := by
  obtain ⟨g, hg, e1, e2, _, e3⟩ := key_spec h
  unfold onK
  have b1 : b.1 = a.1 + g * (keyI a b).1 := by omega
  have b2 : b.2 = a.2 + g * (keyI a b).2.1 := by omega
  refine ⟨e3.symm, ?_⟩
  rw [e3, b1, b2]
  grind
/-- two different places of a line tell its key -/
theorem key_one {a b : Pl} (h : a ≠ b) {k : Ky} (ok : KyOk k) (ha : onK k a) (hb : onK k b) : keyI a b = k := by
  obtain ⟨g, hg, e1, e2, ⟨c, s⟩, e3⟩ := key_spec h
  unfold onK at ha hb
  have z : g * ((keyI a b).1 * k.2.1) = g * (k.1 * (keyI a b).2.1) := by
    have : (b.1 - a.1) * k.2.1 = (b.2 - a.2) * k.1 := by grind
    rw [e1, e2] at this
    grind
  obtain ⟨q1, q2⟩ := way_one c s ok.1 ok.2 (Int.eq_of_mul_eq_mul_left hg z)
  refine Prod.ext q1 (Prod.ext q2 ?_)
  rw [e3, q1, q2]
  exact ha
/-! ### places as spots -/
def qP (S : Int) (p : Pl) : Q2 := ((p.1 : Rat) / (S : Rat), (p.2 : Rat) / (S : Rat))
def qL (S : Int) (s : Sg) : Ln := (qP S s.1, qP S s.2)
section
variable {S : Int} (hS : 0 < S) {a b c : Pl}
include hS
theorem rS : (0 : Rat) < (S : Rat) := by exact_mod_cast hS
theorem div_lt (x y : Int) : (x : Rat) / (S : Rat) < (y : Rat) / (S : Rat) ↔ x < y := by
  have := rS hS
  rw [Rat.div_lt_iff this, Rat.div_mul_cancel (by grind)]
  exact_mod_cast Iff.rfl
theorem div_eq (x y : Int) : (x : Rat) / (S : Rat) = (y : Rat) / (S : Rat) ↔ x = y := by
  have h1 := div_lt hS x y
  have h2 := div_lt hS y x
  constructor
  · intro e
    rw [e] at h1 h2
    have n : ¬ ((y : Rat) / (S : Rat) < (y : Rat) / (S : Rat)) := by grind
    have : ¬ x < y := fun z => n (h1.mpr z)
    have : ¬ y < x := fun z => n (h2.mpr z)
    omega
  · intro e; rw [e]
theorem qP_lt : lt (qP S a) (qP S b) ↔ ltI a b := by
  unfold lt ltI qP
  dsimp only
  rw [div_lt hS, div_lt hS, div_eq hS]
theorem qP_le : le (qP S a) (qP S b) ↔ leI a b := by
  rw [le_iff, qP_lt hS]
  unfold ltI leI
  omega
theorem qP_inj (h : qP S a = qP S b) : a = b := by
  unfold qP at h
  have h1 := congrArg Prod.fst h
  have h2 := congrArg Prod.snd h
  exact Prod.ext ((div_eq hS _ _).mp h1) ((div_eq hS _ _).mp h2)
/-- on the line through two places -/
theorem crs_key (h : a ≠ b) (q : Q2) : crs (qP S a) (qP S b) q = 0 ↔ q.1 * ((keyI a b).2.1 : Rat) - q.2 * ((keyI a b).1 : Rat) = ((keyI a b).2.2 : Rat) / (S : Rat) := by
  obtain ⟨g, hg, e1, e2, _, e3⟩ := key_spec h
  have s := rS hS
  have b1 : ((b.1 : Int) : Rat) = (a.1 : Rat) + (g : Rat) * ((keyI a b).1 : Rat) := by
    have : b.1 = a.1 + g * (keyI a b).1 := by omega
    exact_mod_cast this
  have b2 : ((b.2 : Int) : Rat) = (a.2 : Rat) + (g : Rat) * ((keyI a b).2.1 : Rat) := by
    have : b.2 = a.2 + g * (keyI a b).2.1 := by omega
    exact_mod_cast this
  have b3 : ((keyI a b).2.2 : Rat) = (a.1 : Rat) * ((keyI a b).2.1 : Rat) - (a.2 : Rat) * ((keyI a b).1 : Rat) := by exact_mod_cast e3
  have g0 : (g : Rat) ≠ 0 := cast_ne hg
  generalize ((keyI a b).1 : Rat) = r at *
  generalize ((keyI a b).2.1 : Rat) = u at *
  have e : crs (qP S a) (qP S b) q = (g : Rat) / (S : Rat) * (q.1 * u - q.2 * r - ((keyI a b).2.2 : Rat) / (S : Rat)) := by
    unfold crs qP
    dsimp only
    rw [b1, b2, b3]
    grind
  rw [e]
  constructor
  · intro z
    rcases Rat.mul_eq_zero.mp z with z | z
    · exfalso
      have : (g : Rat) = 0 := by grind
      exact g0 this
    · grind
  · intro z
    rw [z]
    grind
theorem crs_same {a' b' : Pl} (h : a ≠ b) (h' : a' ≠ b') (e : keyI a b = keyI a' b') (q : Q2) : crs (qP S a) (qP S b) q = 0 ↔ crs (qP S a') (qP S b') q = 0 := by
  rw [crs_key hS h, crs_key hS h', e]
theorem crs_onK (h : a ≠ b) : crs (qP S a) (qP S b) (qP S c) = 0 ↔ onK (keyI a b) c := by
  rw [crs_key hS h]
  have s := rS hS
  unfold qP onK
  dsimp only
  have e : (c.1 : Rat) / (S : Rat) * ((keyI a b).2.1 : Rat) - (c.2 : Rat) / (S : Rat) * ((keyI a b).1 : Rat) = ((c.1 * (keyI a b).2.1 - c.2 * (keyI a b).1 : Int) : Rat) / (S : Rat) := by
    push_cast
    grind
  rw [e, div_eq hS]
theorem key_eq {a' b' : Pl} (h : a ≠ b) (h' : a' ≠ b') (e1 : crs (qP S a) (qP S b) (qP S a') = 0) (e2 : crs (qP S a) (qP S b) (qP S b') = 0) : keyI a' b' = keyI a b := by
  obtain ⟨_, _, _, _, ok, _⟩ := key_spec h
  exact key_one h' ok ((crs_onK hS h).mp e1) ((crs_onK hS h).mp e2)
end
end L3.Ink

/-! ## IK3 -/
set_option Elab.async false
set_option linter.all false
set_option maxRecDepth 100000
set_option maxHeartbeats 1000000
/-! The ink of places of whole numbers is the normal form of what they cover. -/
namespace L3.Ink
open NM
section
variable {a b c : Pl}
theorem leI_iff : leI a b ↔ ¬ ltI b a := by unfold leI ltI; omega
theorem ltI_iff : ltI a b ↔ ¬ leI b a := by unfold leI ltI; omega
theorem leI_refl : leI a a := by unfold leI; omega
theorem leI_trans (h : leI a b) (k : leI b c) : leI a c := by unfold leI at *; omega
theorem leI_anti (h : leI a b) (k : leI b a) : a = b := by unfold leI at *; exact Prod.ext (by omega) (by omega)
theorem leI_total : leI a b ∨ leI b a := by unfold leI; omega
theorem ltI_le (h : ltI a b) : leI a b := by unfold leI ltI at *; omega
theorem ltI_of (h : leI a b) (k : leI b c) (n : ltI a b ∨ ltI b c) : ltI a c := by unfold leI ltI at *; omega
theorem ltI_ne (h : ltI a b) : a ≠ b := fun e => by subst e; unfold ltI at h; omega
theorem mm_lt (h : a ≠ b) : ltI (minI a b) (maxI a b) := by
  have : ¬ (a.1 = b.1 ∧ a.2 = b.2) := fun e => h (Prod.ext e.1 e.2)
  unfold minI maxI
  by_cases c : ltI b a
  · have : ¬ ltI a b := by unfold ltI at *; omega
    rw [if_pos c, if_neg this]; exact c
  · have : ltI a b := by unfold ltI at *; omega
    rw [if_neg c, if_pos this]; exact this
theorem mm_or : (minI a b = a ∧ maxI a b = b) ∨ (minI a b = b ∧ maxI a b = a) := by
  unfold minI maxI
  by_cases c : ltI b a
  · have : ¬ ltI a b := by unfold ltI at *; omega
    rw [if_pos c, if_neg this]; exact .inr ⟨rfl, rfl⟩
  · rw [if_neg c]
    by_cases d : ltI a b
    · rw [if_pos d]; exact .inl ⟨rfl, rfl⟩
    · rw [if_neg d]
      have : a = b := Prod.ext (by unfold ltI at *; omega) (by unfold ltI at *; omega)
      exact .inl ⟨rfl, this⟩
theorem maxI_l : leI a (maxI a b) := by unfold maxI; split <;> first | exact ltI_le ‹_› | exact leI_refl
theorem maxI_r : leI b (maxI a b) := by unfold maxI; split <;> first | exact leI_refl | exact leI_iff.mpr ‹_›
theorem maxI_or : maxI a b = a ∨ maxI a b = b := by unfold maxI; split <;> simp
end
/-! ### stretches joined -/
def leS (a b : Sg) : Bool := decide (ltI a.1 b.1 ∨ (a.1 = b.1 ∧ leI a.2 b.2))
def leP (a b : Pl) : Bool := decide (leI a b)
def joinR : List Sg → List Sg → List Sg
  | acc, [] => acc.reverse
  | [], s :: r => joinR [s] r
  | l :: acc, s :: r => if leI s.1 l.2 then joinR ((l.1, maxI l.2 s.2) :: acc) r else joinR (s :: l :: acc) r
def In (S : Int) (z : Q2) (s : Sg) : Prop := le (qP S s.1) z ∧ le z (qP S s.2)
theorem joinR_spec {S : Int} (hS : 0 < S) : ∀ (ss acc : List Sg), (∀ s ∈ ss, ltI s.1 s.2) → (∀ s ∈ acc, ltI s.1 s.2) → acc.Pairwise (fun a b => ltI b.2 a.1) → ss.Pairwise (fun a b => leI a.1 b.1) → (∀ l ∈ acc.head?, ∀ s ∈ ss, leI l.1 s.1) →
    (∀ s ∈ joinR acc ss, ltI s.1 s.2) ∧ (joinR acc ss).Pairwise (fun a b => ltI a.2 b.1) ∧
    (∀ z, (∃ s ∈ joinR acc ss, In S z s) ↔ ∃ s ∈ acc ++ ss, In S z s) ∧
    (∀ s ∈ joinR acc ss, (∃ t ∈ acc ++ ss, s.1 = t.1) ∧ ∃ t ∈ acc ++ ss, s.2 = t.2)
  | [], acc, h1, h2, h3, h4, h5 => by
    have e : joinR acc [] = acc.reverse := by cases acc <;> rfl
    rw [e]
    refine ⟨fun s m => h2 s (by simpa using m), ?_, fun z => by simp, fun s m => ?_⟩
    · rw [List.pairwise_reverse]; exact h3
    · have : s ∈ acc ++ [] := by simpa using m
      exact ⟨⟨s, this, rfl⟩, s, this, rfl⟩
  | s :: r, [], h1, h2, h3, h4, h5 => by
    rw [List.pairwise_cons] at h4
    have := joinR_spec hS r [s] (fun t m => h1 t (List.mem_cons_of_mem _ m)) (fun t m => by
      rcases List.mem_cons.mp m with rfl | m
      · exact h1 _ (List.mem_cons_self ..)
      · exact nomatch m) (List.pairwise_singleton ..) h4.2 (fun l m t k => by
      simp only [List.head?_cons, Option.mem_def, Option.some.injEq] at m
      subst m
      exact h4.1 t k)
    exact this
  | s :: r, l :: acc, h1, h2, h3, h4, h5 => by
    rw [List.pairwise_cons] at h4
    have hs := h1 s (List.mem_cons_self ..)
    have hl := h2 l (List.mem_cons_self ..)
    have h1' : ∀ t ∈ r, ltI t.1 t.2 := fun t m => h1 t (List.mem_cons_of_mem _ m)
    have ls : leI l.1 s.1 := h5 l (by simp) s (List.mem_cons_self ..)
    have lr : ∀ t ∈ r, leI l.1 t.1 := fun t m => h5 l (by simp) t (List.mem_cons_of_mem _ m)
    unfold joinR
    by_cases c : leI s.1 l.2
    · rw [if_pos c]
      have asc : ltI l.1 (maxI l.2 s.2) := ltI_of (ltI_le hl) maxI_l (.inl hl)
      rw [List.pairwise_cons] at h3
      obtain ⟨p1, p2, p3, p4⟩ := joinR_spec hS r ((l.1, maxI l.2 s.2) :: acc) h1' (fun t m => by
        rcases List.mem_cons.mp m with rfl | m
        · exact asc
        · exact h2 t (List.mem_cons_of_mem _ m)) (List.pairwise_cons.mpr ⟨h3.1, h3.2⟩) h4.2 (fun t m u k => by
        simp only [List.head?_cons, Option.mem_def, Option.some.injEq] at m
        subst m
        exact lr u k)
      refine ⟨p1, p2, fun z => ?_, fun t m => ?_⟩
      · rw [p3 z]
        simp only [List.cons_append, List.mem_cons, List.mem_append]
        constructor
        · rintro ⟨t, (rfl | m | m), i1, i2⟩
          · dsimp only at i1 i2
            by_cases q : le z (qP S l.2)
            · exact ⟨l, .inl rfl, i1, q⟩
            · have q : lt (qP S l.2) z := lt_iff.mpr q
              rcases maxI_or (a := l.2) (b := s.2) with e | e
              · rw [e] at i2
                exact absurd i2 (lt_iff.mp q)
              · rw [e] at i2
                exact ⟨s, .inr (.inr (.inl rfl)), le_trans ((qP_le hS).mpr c) q.le, i2⟩
          · exact ⟨t, .inr (.inl m), i1, i2⟩
          · exact ⟨t, .inr (.inr (.inr m)), i1, i2⟩
        · rintro ⟨t, (rfl | m | rfl | m), i1, i2⟩
          · exact ⟨(t.1, maxI t.2 s.2), .inl rfl, i1, le_trans i2 ((qP_le hS).mpr maxI_l)⟩
          · exact ⟨t, .inr (.inl m), i1, i2⟩
          · exact ⟨(l.1, maxI l.2 t.2), .inl rfl, le_trans ((qP_le hS).mpr ls) i1, le_trans i2 ((qP_le hS).mpr maxI_r)⟩
          · exact ⟨t, .inr (.inr m), i1, i2⟩
      · obtain ⟨⟨t1, m1, e1⟩, t2, m2, e2⟩ := p4 t m
        simp only [List.cons_append, List.mem_cons, List.mem_append] at m1 m2 ⊢
        refine ⟨?_, ?_⟩
        · rcases m1 with rfl | m1 | m1
          · exact ⟨l, .inl rfl, e1⟩
          · exact ⟨t1, .inr (.inl m1), e1⟩
          · exact ⟨t1, .inr (.inr (.inr m1)), e1⟩
        · rcases m2 with rfl | m2 | m2
          · rcases maxI_or (a := l.2) (b := s.2) with e | e
            · exact ⟨l, .inl rfl, e2.trans e⟩
            · exact ⟨s, .inr (.inr (.inl rfl)), e2.trans e⟩
          · exact ⟨t2, .inr (.inl m2), e2⟩
          · exact ⟨t2, .inr (.inr (.inr m2)), e2⟩
    · rw [if_neg c]
      have c : ltI l.2 s.1 := ltI_iff.mpr c
      obtain ⟨p1, p2, p3, p4⟩ := joinR_spec hS r (s :: l :: acc) h1' (fun t m => by
        rcases List.mem_cons.mp m with rfl | m
        · exact hs
        · exact h2 t m) (List.pairwise_cons.mpr ⟨fun t m => by
          rcases List.mem_cons.mp m with rfl | m
          · exact c
          · rw [List.pairwise_cons] at h3
            exact ltI_of (ltI_le (h3.1 t m)) ls (.inl (h3.1 t m)), h3⟩) h4.2 (fun t m u k => by
        simp only [List.head?_cons, Option.mem_def, Option.some.injEq] at m
        subst m
        exact h4.1 u k)
      have sw : ∀ t, t ∈ s :: l :: acc ++ r ↔ t ∈ l :: acc ++ s :: r := fun t => by
        simp only [List.cons_append, List.mem_cons, List.mem_append]
        constructor
        · rintro (h | h | h | h)
          · exact .inr (.inr (.inl h))
          · exact .inl h
          · exact .inr (.inl h)
          · exact .inr (.inr (.inr h))
        · rintro (h | h | h | h)
          · exact .inr (.inl h)
          · exact .inr (.inr (.inl h))
          · exact .inl h
          · exact .inr (.inr (.inr h))
      refine ⟨p1, p2, fun z => ?_, fun t m => ?_⟩
      · rw [p3 z]
        exact ⟨fun ⟨t, m, i⟩ => ⟨t, (sw t).mp m, i⟩, fun ⟨t, m, i⟩ => ⟨t, (sw t).mpr m, i⟩⟩
      · obtain ⟨⟨t1, m1, e1⟩, t2, m2, e2⟩ := p4 t m
        exact ⟨⟨t1, (sw t1).mp m1, e1⟩, t2, (sw t2).mp m2, e2⟩
theorem leS_trans (a b c : Sg) (h : leS a b = true) (k : leS b c = true) : leS a c = true := by
  unfold leS at *
  simp only [decide_eq_true_eq] at *
  rcases h with h | ⟨e, h⟩
  · rcases k with k | ⟨f, k⟩
    · exact .inl (ltI_of (ltI_le h) (ltI_le k) (.inl h))
    · exact .inl (f ▸ h)
  · rcases k with k | ⟨f, k⟩
    · exact .inl (e ▸ k)
    · exact .inr ⟨e.trans f, leI_trans h k⟩
theorem leS_total (a b : Sg) : (leS a b || leS b a) = true := by
  unfold leS
  simp only [Bool.or_eq_true, decide_eq_true_eq]
  by_cases h : ltI a.1 b.1
  · exact .inl (.inl h)
  · by_cases k : ltI b.1 a.1
    · exact .inr (.inl k)
    · have e : a.1 = b.1 := leI_anti (leI_iff.mpr k) (leI_iff.mpr h)
      rcases leI_total (a := a.2) (b := b.2) with z | z
      · exact .inl (.inr ⟨e, z⟩)
      · exact .inr (.inr ⟨e.symm, z⟩)
theorem leS_fst {a b : Sg} (h : leS a b = true) : leI a.1 b.1 := by
  unfold leS at h
  simp only [decide_eq_true_eq] at h
  rcases h with h | ⟨e, _⟩
  · exact ltI_le h
  · exact e ▸ leI_refl
/-- stretches of one line, joined -/
def joinS (l : List Sg) : List Sg := joinR [] (l.mergeSort leS)
theorem joinS_spec {S : Int} (hS : 0 < S) {l : List Sg} (h : ∀ s ∈ l, ltI s.1 s.2) : (∀ s ∈ joinS l, ltI s.1 s.2) ∧ (joinS l).Pairwise (fun a b => ltI a.2 b.1) ∧ (∀ z, (∃ s ∈ joinS l, In S z s) ↔ ∃ s ∈ l, In S z s) ∧ (∀ s ∈ joinS l, (∃ t ∈ l, s.1 = t.1) ∧ ∃ t ∈ l, s.2 = t.2) := by
  have pm := List.mergeSort_perm l leS
  have so : (l.mergeSort leS).Pairwise (fun a b => leI a.1 b.1) := (List.pairwise_mergeSort leS_trans leS_total l).imp leS_fst
  obtain ⟨p1, p2, p3, p4⟩ := joinR_spec hS (l.mergeSort leS) [] (fun s m => h s (pm.mem_iff.mp m)) (fun _ m => nomatch m) List.Pairwise.nil so (fun _ m => nomatch m)
  refine ⟨p1, p2, fun z => ?_, fun s m => ?_⟩
  · unfold joinS
    rw [p3 z]
    exact ⟨fun ⟨t, m, i⟩ => ⟨t, pm.mem_iff.mp m, i⟩, fun ⟨t, m, i⟩ => ⟨t, pm.mem_iff.mpr m, i⟩⟩
  · obtain ⟨⟨t1, m1, e1⟩, t2, m2, e2⟩ := p4 s m
    exact ⟨⟨t1, pm.mem_iff.mp m1, e1⟩, t2, pm.mem_iff.mp m2, e2⟩
/-! ### parts by their lines -/
def segsI : List Pl → List (Pl × Pl)
  | a :: b :: r => (a, b) :: segsI (b :: r)
  | _ => []
def partsI (ss : List (List Pl)) : List (Pl × Pl) := ss.flatMap segsI
def mmS (x : Pl × Pl) : Sg := (minI x.1 x.2, maxI x.1 x.2)
def insK (k : Ky) (s : Sg) : List (Ky × List Sg) → List (Ky × List Sg)
  | [] => [(k, [s])]
  | x :: r => if x.1 = k then (x.1, x.2 ++ [s]) :: r else x :: insK k s r
def putP (G : List (Ky × List Sg)) (x : Pl × Pl) : List (Ky × List Sg) := insK (keyI x.1 x.2) (mmS x) G
def groupI (ps : List (Pl × Pl)) : List (Ky × List Sg) := ps.foldl putP []
def linesI (ss : List (List Pl)) : List (Ky × List Sg) := (groupI (partsI ss)).map fun x => (x.1, joinS x.2)
theorem insK_mem {k : Ky} {s : Sg} {x : Ky × List Sg} : ∀ {G : List (Ky × List Sg)}, x ∈ insK k s G → x ∈ G ∨ (x.1 = k ∧ ((∃ l, (k, l) ∈ G ∧ x.2 = l ++ [s]) ∨ x.2 = [s]))
  | [], h => by
    have : x = (k, [s]) := by simpa [insK] using h
    subst this
    exact .inr ⟨rfl, .inr rfl⟩
  | y :: G, h => by
    unfold insK at h
    by_cases c : y.1 = k
    · rw [if_pos c] at h
      rcases List.mem_cons.mp h with e | e
      · subst e
        refine .inr ⟨c, .inl ⟨y.2, ?_, rfl⟩⟩
        rw [← c]
        exact List.mem_cons_self ..
      · exact .inl (List.mem_cons_of_mem _ e)
    · rw [if_neg c] at h
      rcases List.mem_cons.mp h with e | e
      · exact .inl (e ▸ List.mem_cons_self ..)
      · rcases insK_mem e with z | ⟨z, ⟨l, m, w⟩ | w⟩
        · exact .inl (List.mem_cons_of_mem _ z)
        · exact .inr ⟨z, .inl ⟨l, List.mem_cons_of_mem _ m, w⟩⟩
        · exact .inr ⟨z, .inr w⟩
theorem insK_keys {k : Ky} {s : Sg} : ∀ {G : List (Ky × List Sg)}, (insK k s G).map (·.1) = if k ∈ G.map (·.1) then G.map (·.1) else G.map (·.1) ++ [k]
  | [] => by simp [insK]
  | y :: G => by
    unfold insK
    by_cases c : y.1 = k
    · rw [if_pos c]
      simp [c]
    · rw [if_neg c, List.map_cons, insK_keys (G := G), List.map_cons]
      have e : k ∈ y.1 :: G.map (·.1) ↔ k ∈ G.map (·.1) := by
        rw [List.mem_cons]
        exact ⟨fun h => h.elim (fun z => absurd z.symm c) id, .inr⟩
      by_cases d : k ∈ G.map (·.1)
      · rw [if_pos d, if_pos (e.mpr d)]
      · rw [if_neg d, if_neg (fun z => d (e.mp z))]
        rfl
theorem insK_has {k : Ky} {s : Sg} : ∀ {G : List (Ky × List Sg)}, (∃ l, (k, l) ∈ insK k s G ∧ s ∈ l) ∧ ∀ x ∈ G, ∃ l, (x.1, l) ∈ insK k s G ∧ ∀ t ∈ x.2, t ∈ l
  | [] => ⟨⟨[s], by simp [insK], by simp⟩, fun x h => nomatch h⟩
  | y :: G => by
    unfold insK
    by_cases c : y.1 = k
    · rw [if_pos c]
      refine ⟨⟨y.2 ++ [s], by rw [← c]; exact List.mem_cons_self .., by simp⟩, fun x h => ?_⟩
      rcases List.mem_cons.mp h with e | e
      · subst e
        exact ⟨_, List.mem_cons_self .., fun t m => List.mem_append_left _ m⟩
      · exact ⟨x.2, List.mem_cons_of_mem _ e, fun t m => m⟩
    · rw [if_neg c]
      obtain ⟨⟨l, m, q⟩, z⟩ := insK_has (k := k) (s := s) (G := G)
      refine ⟨⟨l, List.mem_cons_of_mem _ m, q⟩, fun x h => ?_⟩
      rcases List.mem_cons.mp h with e | e
      · subst e
        exact ⟨x.2, List.mem_cons_self .., fun t m => m⟩
      · obtain ⟨l', m', q'⟩ := z x e
        exact ⟨l', List.mem_cons_of_mem _ m', q'⟩
structure GOk (ps : List (Pl × Pl)) (G : List (Ky × List Sg)) : Prop where
  nd : (G.map (·.1)).Nodup
  from_ : ∀ x ∈ G, x.2 ≠ [] ∧ ∀ s ∈ x.2, ∃ y ∈ ps, keyI y.1 y.2 = x.1 ∧ mmS y = s
  has : ∀ y ∈ ps, ∃ l, (keyI y.1 y.2, l) ∈ G ∧ mmS y ∈ l
theorem GOk.step {ps : List (Pl × Pl)} {G : List (Ky × List Sg)} (g : GOk ps G) (x : Pl × Pl) : GOk (ps ++ [x]) (putP G x) := by
  unfold putP
  refine ⟨?_, fun y h => ?_, fun y h => ?_⟩
  · rw [insK_keys]
    by_cases c : keyI x.1 x.2 ∈ G.map (·.1)
    · rw [if_pos c]; exact g.nd
    · rw [if_neg c, List.nodup_append]
      refine ⟨g.nd, by simp, fun a ha b hb e => ?_⟩
      have : b = keyI x.1 x.2 := by simpa using hb
      exact c (this ▸ e ▸ ha)
  · rcases insK_mem h with z | ⟨z, ⟨l, m, w⟩ | w⟩
    · obtain ⟨n, q⟩ := g.from_ y z
      exact ⟨n, fun s hs => let ⟨p, m, e⟩ := q s hs; ⟨p, List.mem_append_left _ m, e⟩⟩
    · obtain ⟨n, q⟩ := g.from_ _ m
      rw [w, z]
      refine ⟨by simp, fun s hs => ?_⟩
      rcases List.mem_append.mp hs with hs | hs
      · obtain ⟨p, m, e⟩ := q s hs
        exact ⟨p, List.mem_append_left _ m, e⟩
      · have : s = mmS x := by simpa using hs
        exact ⟨x, by simp, rfl, this.symm⟩
    · rw [w, z]
      refine ⟨by simp, fun s hs => ?_⟩
      have : s = mmS x := by simpa using hs
      exact ⟨x, by simp, rfl, this.symm⟩
  · obtain ⟨h1, h2⟩ := insK_has (k := keyI x.1 x.2) (s := mmS x) (G := G)
    rcases List.mem_append.mp h with h | h
    · obtain ⟨l, m, q⟩ := g.has y h
      obtain ⟨l', m', q'⟩ := h2 _ m
      exact ⟨l', m', q' _ q⟩
    · have : y = x := by simpa using h
      subst this
      exact h1
theorem GOk.fold : ∀ {qs ps : List (Pl × Pl)} {G : List (Ky × List Sg)}, GOk ps G → GOk (ps ++ qs) (qs.foldl putP G)
  | [], ps, G, g => by simpa using g
  | x :: qs, ps, G, g => by
    have := GOk.fold (qs := qs) (g.step x)
    rw [List.append_assoc] at this
    exact this
theorem group_ok (ps : List (Pl × Pl)) : GOk ps (groupI ps) := by
  have := GOk.fold (qs := ps) (ps := []) (G := []) ⟨List.Pairwise.nil, (fun _ h => nomatch h), (fun _ h => nomatch h)⟩
  exact this
/-! ### dots, all together -/
instance (k : Ky) (p : Pl) : Decidable (onK k p) := by unfold onK; exact inferInstance
def lieI (p : Pl) (L : List (Ky × List Sg)) : Bool := L.any fun x => decide (onK x.1 p) && x.2.any fun s => decide (leI s.1 p) && decide (leI p s.2)
def putDot (L : List (Ky × List Sg)) (acc : List Pl) (s : List Pl) : List Pl := match s with
  | [p] => if lieI p L = true then acc else if p ∈ acc then acc else acc ++ [p]
  | _ => acc
def dotsI (ss : List (List Pl)) (L : List (Ky × List Sg)) : List Pl := ss.foldl (putDot L) []
def inkDots (ss : List (List Pl)) : List Pl := (dotsI ss (linesI ss)).mergeSort leP
def inkLines (ss : List (List Pl)) : List Sg := ((linesI ss).flatMap (·.2)).mergeSort leS
theorem dots_fold {L : List (Ky × List Sg)} : ∀ (ss : List (List Pl)) (acc : List Pl), acc.Nodup → (ss.foldl (putDot L) acc).Nodup ∧ ∀ p, p ∈ ss.foldl (putDot L) acc ↔ p ∈ acc ∨ ([p] ∈ ss ∧ lieI p L = false)
  | [], acc, h => ⟨h, fun p => by simp⟩
  | s :: ss, acc, h => by
    rw [List.foldl_cons]
    have key : (putDot L acc s).Nodup ∧ ∀ p, p ∈ putDot L acc s ↔ p ∈ acc ∨ (s = [p] ∧ lieI p L = false) := by
      unfold putDot
      split
      · rename_i q
        by_cases c : lieI q L = true
        · rw [if_pos c]
          refine ⟨h, fun p => ⟨.inl, fun z => z.elim id fun ⟨e, w⟩ => ?_⟩⟩
          have : q = p := by simpa using e
          subst this
          rw [c] at w; cases w
        · rw [if_neg c]
          by_cases d : q ∈ acc
          · rw [if_pos d]
            refine ⟨h, fun p => ⟨.inl, fun z => z.elim id fun ⟨e, w⟩ => ?_⟩⟩
            have : q = p := by simpa using e
            exact this ▸ d
          · rw [if_neg d]
            refine ⟨List.nodup_append.mpr ⟨h, by simp, fun a ha b hb e => ?_⟩, fun p => ?_⟩
            · have : b = q := by simpa using hb
              exact d (this ▸ e ▸ ha)
            · rw [List.mem_append]
              constructor
              · rintro (z | z)
                · exact .inl z
                · have : p = q := by simpa using z
                  subst this
                  exact .inr ⟨rfl, by simpa using c⟩
              · rintro (z | ⟨e, w⟩)
                · exact .inl z
                · have : q = p := by simpa using e
                  subst this
                  exact .inr (by simp)
      · rename_i n
        exact ⟨h, fun p => ⟨.inl, fun z => z.elim id fun ⟨e, w⟩ => absurd e (n p)⟩⟩
    obtain ⟨i1, i2⟩ := dots_fold ss (putDot L acc s) key.1
    refine ⟨i1, fun p => ?_⟩
    rw [i2 p, key.2 p, List.mem_cons]
    constructor
    · rintro ((z | ⟨e, w⟩) | ⟨e, w⟩)
      · exact .inl z
      · exact .inr ⟨.inl e.symm, w⟩
      · exact .inr ⟨.inr e, w⟩
    · rintro (z | ⟨e | e, w⟩)
      · exact .inl (.inl z)
      · exact .inl (.inr ⟨e.symm, w⟩)
      · exact .inr ⟨e, w⟩
/-- a spot between two, on their line -/
def sg (a b p : Q2) : Prop := crs a b p = 0 ∧ ((le a p ∧ le p b) ∨ (le b p ∧ le p a))
def covI (S : Int) (ss : List (List Pl)) (z : Q2) : Prop := ∃ s ∈ ss, (∃ p, s = [p] ∧ z = qP S p) ∨ ∃ y ∈ segsI s, sg (qP S y.1) (qP S y.2) z
section
variable {S : Int} (hS : 0 < S) {ss : List (List Pl)} (hd : ∀ y ∈ partsI ss, y.1 ≠ y.2)
include hS hd
theorem line_facts {x : Ky × List Sg} (hx : x ∈ linesI ss) : (∀ s ∈ x.2, ltI s.1 s.2 ∧ keyI s.1 s.2 = x.1) ∧ x.2.Pairwise (fun a b => ltI a.2 b.1) ∧
    (∀ z, (∃ s ∈ x.2, In S z s) ↔ ∃ y ∈ partsI ss, keyI y.1 y.2 = x.1 ∧ In S z (mmS y)) := by
  obtain ⟨g, hg, rfl⟩ := List.mem_map.mp hx
  have ok := group_ok (partsI ss)
  obtain ⟨_, q⟩ := ok.from_ g hg
  have lt : ∀ s ∈ g.2, ltI s.1 s.2 := fun s m => by
    obtain ⟨y, hy, _, e⟩ := q s m
    rw [← e]
    exact mm_lt (hd y hy)
  obtain ⟨p1, p2, p3, p4⟩ := joinS_spec hS lt
  have on : ∀ s ∈ g.2, KyOk g.1 ∧ onK g.1 s.1 ∧ onK g.1 s.2 := fun s m => by
    obtain ⟨y, hy, e1, e⟩ := q s m
    obtain ⟨_, _, _, _, ok, _⟩ := key_spec (hd y hy)
    obtain ⟨o1, o2⟩ := key_on (hd y hy)
    rw [e1] at ok o1 o2
    rw [← e]
    rcases mm_or (a := y.1) (b := y.2) with ⟨f1, f2⟩ | ⟨f1, f2⟩
    · exact ⟨ok, by show onK g.1 (minI y.1 y.2); rw [f1]; exact o1, by show onK g.1 (maxI y.1 y.2); rw [f2]; exact o2⟩
    · exact ⟨ok, by show onK g.1 (minI y.1 y.2); rw [f1]; exact o2, by show onK g.1 (maxI y.1 y.2); rw [f2]; exact o1⟩
  refine ⟨fun s m => ⟨p1 s m, ?_⟩, p2, fun z => ?_⟩
  · obtain ⟨⟨t1, m1, e1⟩, t2, m2, e2⟩ := p4 s m
    obtain ⟨k1, k2, _⟩ := on t1 m1
    obtain ⟨_, _, k3⟩ := on t2 m2
    exact key_one (ltI_ne (p1 s m)) k1 (e1 ▸ k2) (e2 ▸ k3)
  · rw [p3 z]
    constructor
    · rintro ⟨s, m, i⟩
      obtain ⟨y, hy, e1, e⟩ := q s m
      exact ⟨y, hy, e1, e ▸ i⟩
    · rintro ⟨y, hy, e1, i⟩
      obtain ⟨l, m, w⟩ := ok.has y hy
      have e : g = (keyI y.1 y.2, l) := by
        have nd := ok.nd
        obtain ⟨i1, hi1, z1⟩ := List.mem_iff_getElem.mp hg
        obtain ⟨i2, hi2, z2⟩ := List.mem_iff_getElem.mp m
        have : i1 = i2 := by
          refine (List.getElem_inj (h₀ := by simpa using hi1) (h₁ := by simpa using hi2) nd).mp ?_
          rw [List.getElem_map, List.getElem_map, z1, z2]
          exact e1.symm
        subst this
        exact z1.symm.trans z2
      exact ⟨mmS y, by rw [e]; exact w, i⟩
theorem line_one {x y : Ky × List Sg} (hx : x ∈ linesI ss) (hy : y ∈ linesI ss) (e : x.1 = y.1) : x = y := by
  have nd : ((linesI ss).map (·.1)).Nodup := by
    unfold linesI
    rw [List.map_map]
    exact (group_ok (partsI ss)).nd
  obtain ⟨i1, hi1, z1⟩ := List.mem_iff_getElem.mp hx
  obtain ⟨i2, hi2, z2⟩ := List.mem_iff_getElem.mp hy
  have : i1 = i2 := by
    refine (List.getElem_inj (h₀ := by simpa using hi1) (h₁ := by simpa using hi2) nd).mp ?_
    rw [List.getElem_map, List.getElem_map, z1, z2]
    exact e
  subst this
  exact z1.symm.trans z2
theorem mem_lines {s : Sg} : s ∈ inkLines ss ↔ ∃ x ∈ linesI ss, s ∈ x.2 := by
  unfold inkLines
  rw [(List.mergeSort_perm _ _).mem_iff, List.mem_flatMap]
theorem lie_iff {p : Pl} : lieI p (linesI ss) = true ↔ ∃ s ∈ inkLines ss, seg (qP S s.1) (qP S s.2) (qP S p) := by
  unfold lieI
  rw [List.any_eq_true]
  constructor
  · rintro ⟨x, hx, h⟩
    rw [Bool.and_eq_true, List.any_eq_true] at h
    obtain ⟨h1, s, hs, h2⟩ := h
    simp only [Bool.and_eq_true, decide_eq_true_eq] at h1 h2
    obtain ⟨f1, _, _⟩ := line_facts hS hd hx
    obtain ⟨a, e⟩ := f1 s hs
    exact ⟨s, (mem_lines hS hd).mpr ⟨x, hx, hs⟩, (crs_onK hS (ltI_ne a)).mpr (e ▸ h1), (qP_le hS).mpr h2.1, (qP_le hS).mpr h2.2⟩
  · rintro ⟨s, hs, h1, h2, h3⟩
    obtain ⟨x, hx, m⟩ := (mem_lines hS hd).mp hs
    obtain ⟨f1, _, _⟩ := line_facts hS hd hx
    obtain ⟨a, e⟩ := f1 s m
    refine ⟨x, hx, ?_⟩
    rw [Bool.and_eq_true, List.any_eq_true]
    refine ⟨decide_eq_true (e ▸ (crs_onK hS (ltI_ne a)).mp h1), s, m, ?_⟩
    rw [Bool.and_eq_true]
    exact ⟨decide_eq_true ((qP_le hS).mp h2), decide_eq_true ((qP_le hS).mp h3)⟩
theorem mem_dots {p : Pl} : p ∈ inkDots ss ↔ [p] ∈ ss ∧ lieI p (linesI ss) = false := by
  unfold inkDots dotsI
  rw [(List.mergeSort_perm _ _).mem_iff, (dots_fold ss [] List.Pairwise.nil).2 p]
  simp
theorem ink_nf : NF ((inkDots ss).map (qP S)) ((inkLines ss).map (qL S)) := by
  have two : ∀ {x : Ky × List Sg} {s t : Sg}, x ∈ linesI ss → s ∈ x.2 → t ∈ x.2 → s = t ∨ ltI s.2 t.1 ∨ ltI t.2 s.1 := fun {x s t} hx hs ht => by
    obtain ⟨_, pw, _⟩ := line_facts hS hd hx
    obtain ⟨i, hi, rfl⟩ := List.mem_iff_getElem.mp hs
    obtain ⟨j, hj, rfl⟩ := List.mem_iff_getElem.mp ht
    rw [List.pairwise_iff_getElem] at pw
    rcases Nat.lt_trichotomy i j with h | h | h
    · exact .inr (.inl (pw i j hi hj h))
    · subst h; exact .inl rfl
    · exact .inr (.inr (pw j i hj hi h))
  have ndl : (inkLines ss).Nodup := by
    unfold inkLines
    rw [(List.mergeSort_perm _ _).nodup_iff]
    unfold List.Nodup
    rw [List.pairwise_flatMap]
    refine ⟨fun x hx => ?_, ?_⟩
    · obtain ⟨f1, pw, _⟩ := line_facts hS hd hx
      have : x.2.Pairwise (fun a b => ltI a.2 b.1) := pw
      rw [List.pairwise_iff_getElem] at this ⊢
      intro i j hi hj h e
      have w := this i j hi hj h
      rw [← e] at w
      have a := (f1 _ (List.getElem_mem hi)).1
      exact absurd (ltI_of (ltI_le a) (ltI_le w) (.inl a)) (fun z => ltI_ne z rfl)
    · have nd : ((linesI ss).map (·.1)).Nodup := by
        unfold linesI
        rw [List.map_map]
        exact (group_ok (partsI ss)).nd
      unfold List.Nodup at nd
      rw [List.pairwise_map] at nd
      rw [List.pairwise_iff_getElem] at nd ⊢
      intro i j hi hj h s hs t ht e
      subst e
      have e1 := ((line_facts hS hd (List.getElem_mem hi)).1 s hs).2
      have e2 := ((line_facts hS hd (List.getElem_mem hj)).1 s ht).2
      exact nd i j hi hj h (e1.symm.trans e2)
  refine ⟨fun l hl => ?_, fun l hl m hm h1 h2 p hp hq => ?_, fun d hdd l hl hs => ?_, ?_, ?_⟩
  · obtain ⟨s, hs, rfl⟩ := List.mem_map.mp hl
    obtain ⟨x, hx, m⟩ := (mem_lines hS hd).mp hs
    exact (qP_lt hS).mpr ((line_facts hS hd hx).1 s m).1
  · obtain ⟨s, hs, rfl⟩ := List.mem_map.mp hl
    obtain ⟨t, ht, rfl⟩ := List.mem_map.mp hm
    obtain ⟨x, hx, ms⟩ := (mem_lines hS hd).mp hs
    obtain ⟨y, hy, mt⟩ := (mem_lines hS hd).mp ht
    obtain ⟨as, es⟩ := (line_facts hS hd hx).1 s ms
    obtain ⟨at_, et⟩ := (line_facts hS hd hy).1 t mt
    have e := key_eq hS (ltI_ne as) (ltI_ne at_) h1 h2
    have := line_one hS hd hx hy (es.symm.trans (e.symm.trans et))
    subst this
    rcases two hx ms mt with z | z | z
    · rw [z]
    · exact absurd (le_trans hq.2.1 hp.2.2) (lt_iff.mp ((qP_lt hS).mpr z))
    · exact absurd (le_trans hp.2.1 hq.2.2) (lt_iff.mp ((qP_lt hS).mpr z))
  · obtain ⟨p, hp, rfl⟩ := List.mem_map.mp hdd
    obtain ⟨s, hs', rfl⟩ := List.mem_map.mp hl
    have := ((mem_dots hS hd).mp hp).2
    rw [(lie_iff hS hd).mpr ⟨s, hs', hs⟩] at this
    cases this
  · rw [List.pairwise_map]
    have so : (inkDots ss).Pairwise (fun a b => leP a b = true) := List.pairwise_mergeSort (fun a b c h k => by
      unfold leP at *
      simp only [decide_eq_true_eq] at *
      exact leI_trans h k) (fun a b => by
      unfold leP
      simp only [Bool.or_eq_true, decide_eq_true_eq]
      exact leI_total) _
    have nd : (inkDots ss).Nodup := by
      unfold inkDots dotsI
      rw [(List.mergeSort_perm _ _).nodup_iff]
      exact (dots_fold ss [] List.Pairwise.nil).1
    refine (so.and nd).imp fun {a b} ⟨h, n⟩ => (qP_lt hS).mpr ?_
    unfold leP at h
    simp only [decide_eq_true_eq] at h
    exact ltI_iff.mpr fun z => n (leI_anti h z)
  · rw [List.pairwise_map]
    have so : (inkLines ss).Pairwise (fun a b => leS a b = true) := List.pairwise_mergeSort leS_trans leS_total _
    refine (so.and ndl).imp fun {a b} ⟨h, n⟩ => ?_
    unfold leS at h
    simp only [decide_eq_true_eq] at h
    rcases h with h | ⟨e, h⟩
    · exact .inl ((qP_lt hS).mpr h)
    · exact .inr ⟨congrArg (qP S) e, (qP_lt hS).mpr (ltI_iff.mpr fun z => n (Prod.ext e (leI_anti h z)))⟩
/-- the ends of the stretches are ends of parts -/
theorem ends_of {s : Sg} (h : s ∈ inkLines ss) : (∃ y ∈ partsI ss, s.1 = y.1 ∨ s.1 = y.2) ∧ ∃ y ∈ partsI ss, s.2 = y.1 ∨ s.2 = y.2 := by
  obtain ⟨x, hx, m⟩ := (mem_lines hS hd).mp h
  obtain ⟨g, hg, rfl⟩ := List.mem_map.mp hx
  obtain ⟨_, q⟩ := (group_ok (partsI ss)).from_ g hg
  have lt : ∀ s ∈ g.2, ltI s.1 s.2 := fun s m => by
    obtain ⟨y, hy, _, e⟩ := q s m
    rw [← e]
    exact mm_lt (hd y hy)
  obtain ⟨_, _, _, p4⟩ := joinS_spec hS lt
  obtain ⟨⟨t1, m1, e1⟩, t2, m2, e2⟩ := p4 s m
  obtain ⟨y1, h1, _, z1⟩ := q t1 m1
  obtain ⟨y2, h2, _, z2⟩ := q t2 m2
  refine ⟨⟨y1, h1, ?_⟩, y2, h2, ?_⟩
  · rw [e1, ← z1]
    rcases mm_or (a := y1.1) (b := y1.2) with ⟨f, _⟩ | ⟨f, _⟩
    · exact .inl f
    · exact .inr f
  · rw [e2, ← z2]
    rcases mm_or (a := y2.1) (b := y2.2) with ⟨_, f⟩ | ⟨_, f⟩
    · exact .inr f
    · exact .inl f
theorem in_mm {y : Pl × Pl} {z : Q2} : In S z (mmS y) ↔ (le (qP S y.1) z ∧ le z (qP S y.2)) ∨ (le (qP S y.2) z ∧ le z (qP S y.1)) := by
  unfold In mmS
  dsimp only
  rcases mm_or (a := y.1) (b := y.2) with ⟨f1, f2⟩ | ⟨f1, f2⟩
  · rw [f1, f2]
    refine ⟨.inl, fun h => h.elim id fun ⟨h1, h2⟩ => ?_⟩
    have : leI y.1 y.2 := by
      have := maxI_l (a := y.1) (b := y.2)
      rw [f2] at this; exact this
    have := (qP_le hS).mpr this
    exact ⟨le_trans this h1, le_trans h2 this⟩
  · rw [f1, f2]
    refine ⟨.inr, fun h => h.elim (fun ⟨h1, h2⟩ => ?_) id⟩
    have : leI y.2 y.1 := by
      have := maxI_r (a := y.1) (b := y.2)
      rw [f2] at this; exact this
    have := (qP_le hS).mpr this
    exact ⟨le_trans this h1, le_trans h2 this⟩
theorem ink_cov (z : Q2) : cov ((inkDots ss).map (qP S)) ((inkLines ss).map (qL S)) z ↔ covI S ss z := by
  constructor
  · rintro (h | ⟨l, hl, h⟩)
    · obtain ⟨p, hp, rfl⟩ := List.mem_map.mp h
      exact ⟨[p], ((mem_dots hS hd).mp hp).1, .inl ⟨p, rfl, rfl⟩⟩
    · obtain ⟨s, hs, rfl⟩ := List.mem_map.mp hl
      obtain ⟨x, hx, m⟩ := (mem_lines hS hd).mp hs
      obtain ⟨f1, _, f3⟩ := line_facts hS hd hx
      obtain ⟨a, e⟩ := f1 s m
      obtain ⟨y, hy, e1, i⟩ := (f3 z).mp ⟨s, m, h.2.1, h.2.2⟩
      obtain ⟨t, ht, hy'⟩ := List.mem_flatMap.mp hy
      exact ⟨t, ht, .inr ⟨y, hy', (crs_same hS (hd y hy) (ltI_ne a) (e1.trans e.symm) z).mpr h.1, (in_mm hS hd).mp i⟩⟩
  · rintro ⟨t, ht, ⟨p, rfl, rfl⟩ | ⟨y, hy, h1, h2⟩⟩
    · by_cases c : lieI p (linesI ss) = true
      · obtain ⟨s, hs, w⟩ := (lie_iff hS hd).mp c
        exact .inr ⟨qL S s, List.mem_map.mpr ⟨s, hs, rfl⟩, w⟩
      · exact .inl (List.mem_map.mpr ⟨p, (mem_dots hS hd).mpr ⟨ht, by simpa using c⟩, rfl⟩)
    · have hy' : y ∈ partsI ss := List.mem_flatMap.mpr ⟨t, ht, hy⟩
      obtain ⟨l, m, w⟩ := (group_ok (partsI ss)).has y hy'
      have hx : (keyI y.1 y.2, L3.Ink.joinS l) ∈ linesI ss := List.mem_map.mpr ⟨_, m, rfl⟩
      obtain ⟨f1, _, f3⟩ := line_facts hS hd hx
      obtain ⟨s, ms, i1, i2⟩ := (f3 z).mpr ⟨y, hy', rfl, (in_mm hS hd).mpr h2⟩
      obtain ⟨a, e⟩ := f1 s ms
      exact .inr ⟨qL S s, List.mem_map.mpr ⟨s, (mem_lines hS hd).mpr ⟨_, hx, ms⟩, rfl⟩, (crs_same hS (ltI_ne a) (hd y hy') e z).mpr h1, i1, i2⟩
end
end L3.Ink

/-! ## L5a -/
set_option Elab.async false
set_option linter.all false
set_option maxRecDepth 100000
set_option maxHeartbeats 4000000
/-! Dicts whose keys are tuples: what stands in the heap, and the rules over addresses. -/
namespace L3
open PySem PySem.Spec PyProof.Rows L2

/-! ### keys -/
mutual
/-- no text in it -/
def ktf : NestedKey → Bool
  | .none => true
  | .num _ => true
  | .text _ => false
  | .tup ks => ktfs ks
def ktfs : List NestedKey → Bool
  | [] => true
  | k :: ks => ktf k && ktfs ks
end
mutual
theorem hash_kh {w : World} : ∀ k : NestedKey, ktf k = true → k.hash w = kh k
  | .none, _ => by rw [NestedKey.hash, kh]
  | .num i, _ => by rw [NestedKey.hash, kh]
  | .text x, h => by rw [ktf] at h; cases h
  | .tup ks, h => by
    rw [ktf] at h
    rw [NestedKey.hash, kh, hash_khs ks h]
theorem hash_khs {w : World} : ∀ ks : List NestedKey, ktfs ks = true → NestedKey.hashes w ks = khs ks
  | [], _ => by rw [NestedKey.hashes, khs]
  | k :: ks, h => by
    rw [ktfs, Bool.and_eq_true] at h
    rw [NestedKey.hashes, khs, hash_kh k h.1, hash_khs ks h.2]
end
theorem nkDs_cons {d : D} {ds : List D} {ks : List NestedKey} (h : nkDs (d :: ds) = some ks) : ∃ k r, nkD d = some k ∧ nkDs ds = some r ∧ ks = k :: r := by
  rw [nkDs] at h
  split at h
  · rename_i k r e1 e2
    exact ⟨k, r, e1, e2, (Option.some.inj h).symm⟩
  · cases h
theorem nkD_tup {ds : List D} {k : NestedKey} (h : nkD (.tup ds) = some k) : ∃ ks, nkDs ds = some ks ∧ k = .tup ks := by
  rw [nkD] at h
  obtain ⟨ks, e, z⟩ := Option.map_eq_some_iff.mp h
  exact ⟨ks, e, z.symm⟩
section
variable {X : Cx} {pins : List (Addr × Obj)} {σ : L2.St} {H S : Hp} {s : Shared}
mutual
theorem nkD_tf {K : PySem.W.Frag} {S : Hp} : ∀ {v : V} {d : D} {k : NestedKey}, Rep K S v d → nkD d = some k → ktf k = true
  | _, _, _, .non, h => by rw [nkD] at h; cases h; rfl
  | _, _, _, .bl b, h => by rw [nkD] at h; cases h; rfl
  | _, _, _, .int i, h => by rw [nkD] at h; cases h; rfl
  | _, _, _, .str x, h => by rw [nkD] at h; cases h
  | _, _, _, .tup a r, h => by
    obtain ⟨ks, e, rfl⟩ := nkD_tup h
    rw [ktf]
    exact nkDs_tf r e
  | _, _, _, .lst a r, h => by rw [nkD] at h; cases h
  | _, _, _, .scr a r, h => by rw [nkD] at h; cases h
  | _, _, _, .ins a r, h => by rw [nkD] at h; cases h
  | _, _, _, .ref a, h => by rw [nkD] at h; cases h
  | _, _, _, .ty n, h => by rw [nkD] at h; cases h
theorem nkDs_tf {K : PySem.W.Frag} {S : Hp} : ∀ {vs : List V} {ds : List D} {ks : List NestedKey}, Reps K S vs ds → nkDs ds = some ks → ktfs ks = true
  | _, _, _, .nil, h => by rw [nkDs] at h; cases h; rfl
  | _, _, _, .cons r t, h => by
    obtain ⟨k, q, e1, e2, rfl⟩ := nkDs_cons h
    rw [ktfs, nkD_tf r e1, nkDs_tf t e2]
    rfl
end
mutual
theorem nis (I : Inv X pins σ H s) (sm : Same S H) : ∀ {v : V} {d : D} {k : NestedKey} {u : Value}, Rep X.K S v d → nkD d = some k → RelV v u → NestedIs s.heap k u
  | _, _, _, u, .non, h, r => by
    rw [nkD] at h; cases h
    obtain rfl : u = Value.none := r
    exact .none
  | _, _, _, u, .bl b, h, r => by
    rw [nkD] at h; cases h
    obtain rfl : u = Value.bool b := r
    exact .bool rfl
  | _, _, _, u, .int i, h, r => by
    rw [nkD] at h; cases h
    obtain ⟨t, rfl⟩ := (show ∃ t, u = Value.int i t from r)
    exact .int _ _
  | _, _, _, _, .str x, h, _ => by rw [nkD] at h; cases h
  | _, _, _, u, .tup a t, h, r => by
    obtain ⟨ks, e, rfl⟩ := nkD_tup h
    obtain ⟨its, vs, p, _⟩ := I.tuple (sqT_same sm a)
    obtain ⟨o, h1, h2, n, h3⟩ := p
    obtain rfl : u = Value.ref _ := r
    exact .tup h1 h2 h3 (by simpa using nisAll I sm t e vs)
  | _, _, _, _, .lst a t, h, _ => by rw [nkD] at h; cases h
  | _, _, _, _, .scr a t, h, _ => by rw [nkD] at h; cases h
  | _, _, _, _, .ins a t, h, _ => by rw [nkD] at h; cases h
  | _, _, _, _, .ref a, h, _ => by rw [nkD] at h; cases h
  | _, _, _, _, .ty n, h, _ => by rw [nkD] at h; cases h
theorem nisAll (I : Inv X pins σ H s) (sm : Same S H) : ∀ {vs : List V} {ds : List D} {ks : List NestedKey} {us : List Value}, Reps X.K S vs ds → nkDs ds = some ks → Vals vs us → NestedAll s.heap ks us
  | _, _, _, _, .nil, h, r => by
    rw [nkDs] at h; cases h; cases r; exact .nil
  | _, _, _, _, .cons q t, h, r => by
    obtain ⟨k, ks, e1, e2, rfl⟩ := nkDs_cons h
    cases r with
    | cons r1 r2 => exact .cons (nis I sm q e1 r1) (nisAll I sm t e2 r2)
end
end
/-- the tuple at b is the key k -/
def KvAt (K : PySem.W.Frag) (H : Hp) (b : Addr) (k : NestedKey) : Prop := ktf k = true ∧ k.depth ≤ 8 ∧ ∀ (X : Cx) (pins : List (Addr × Obj)) (σ : L2.St) (s : Shared), X.K = K → Inv X pins σ H s → NestedIs s.heap k (.ref b)
theorem kvAt_of {K : PySem.W.Frag} {S H : Hp} {b : Addr} {d : D} {k : NestedKey} (sm : Same S H) (r : Rep K S (.ref b) d) (h : nkD d = some k) (hd : k.depth ≤ 8) : KvAt K H b k :=
  ⟨nkD_tf r h, hd, fun X _ _ _ eK I => by subst eK; exact nis I sm r h rfl⟩
theorem KvAt.is {X : Cx} {H : Hp} {b : Addr} {k : NestedKey} {pins : List (Addr × Obj)} {σ : L2.St} {s : Shared} (x : KvAt X.K H b k) (I : Inv X pins σ H s) : (nestedKind X.prog X.w).is s.heap k b := ⟨x.2.2 X pins σ s rfl I, x.2.1⟩

/-! ### entries -/
abbrev Ent := NestedKey × Addr × V
abbrev EntV := NestedKey × Addr × Value
abbrev PR : List Ent → List EntV → Prop := Paired fun (p : Ent) (q : EntV) => p.1 = q.1 ∧ p.2.1 = q.2.1 ∧ RelV p.2.2 q.2.2
def atV (vs : List Ent) (k : NestedKey) : Option (Addr × V) := (vs.find? fun x => decide (x.1 = k)).map (·.2)
def putV (vs : List Ent) (k : NestedKey) (b : Addr) (v : V) : List Ent :=
  if (atV vs k).isSome then vs.map (fun x => if x.1 = k then (x.1, x.2.1, v) else x) else vs ++ [(k, b, v)]
theorem pr_keys {vs : List Ent} {xs : List EntV} (h : PR vs xs) : vs.map (·.1) = xs.map (·.1) := by
  induction h with
  | nil => rfl
  | cons r t ih => rw [List.map_cons, List.map_cons, r.1, ih]
theorem pr_at {vs : List Ent} {xs : List EntV} (h : PR vs xs) (k : NestedKey) :
    (atV vs k = none ∧ atKey xs k = none) ∨ ∃ b v u, atV vs k = some (b, v) ∧ atKey xs k = some (b, u) ∧ RelV v u := by
  induction h with
  | nil => exact .inl ⟨rfl, rfl⟩
  | @cons p q ps qs r t ih =>
    by_cases e : p.1 = k
    · refine .inr ⟨p.2.1, p.2.2, q.2.2, ?_, ?_, r.2.2⟩
      · unfold atV
        rw [List.find?_cons_of_pos (by simpa using e)]
        rfl
      · unfold atKey
        rw [List.find?_cons_of_pos (by rw [← r.1]; simpa using e), r.2.1]
        rfl
    · have e1 : atV (p :: ps) k = atV ps k := by
        unfold atV
        rw [List.find?_cons_of_neg (by simpa using e)]
      have e2 : atKey (q :: qs) k = atKey qs k := by
        unfold atKey
        rw [List.find?_cons_of_neg (by rw [← r.1]; simpa using e)]
      rw [e1, e2]
      exact ih
theorem pr_snoc {vs : List Ent} {xs : List EntV} {p : Ent} {q : EntV} (h : PR vs xs) (r : p.1 = q.1 ∧ p.2.1 = q.2.1 ∧ RelV p.2.2 q.2.2) : PR (vs ++ [p]) (xs ++ [q]) := Paired.snoc h r
theorem pr_map {vs : List Ent} {xs : List EntV} (h : PR vs xs) (k : NestedKey) {v : V} {u : Value} (r : RelV v u) : PR (vs.map (fun x => if x.1 = k then (x.1, x.2.1, v) else x)) (xs.map (putAt k u)) := by
  induction h with
  | nil => exact .nil
  | @cons p q ps qs z t ih =>
    rw [List.map_cons, List.map_cons]
    refine .cons ?_ ih
    unfold putAt
    by_cases e : p.1 = k
    · rw [if_pos e, if_pos (z.1.symm.trans e)]
      exact ⟨z.1, z.2.1, r⟩
    · rw [if_neg e, if_neg fun w => e (z.1.trans w)]
      exact z
theorem pr_put {vs : List Ent} {xs : List EntV} (h : PR vs xs) (k : NestedKey) (b : Addr) {v : V} {u : Value} (r : RelV v u) : PR (putV vs k b v) (storedH xs k b u) := by
  rcases pr_at h k with ⟨e1, e2⟩ | ⟨c, v', u', e1, e2, _⟩
  · rw [storedH_new e2]
    unfold putV
    rw [e1]
    exact pr_snoc h ⟨rfl, rfl, r⟩
  · rw [storedH_old e2]
    unfold putV
    rw [e1]
    exact pr_map h k r
theorem putV_mem {vs : List Ent} {k : NestedKey} {b : Addr} {v : V} {x : Ent} (h : x ∈ putV vs k b v) : (∃ y ∈ vs, y.1 = x.1 ∧ y.2.1 = x.2.1) ∨ (x.1 = k ∧ x.2.1 = b) := by
  unfold putV at h
  split at h
  · obtain ⟨y, hy, e⟩ := List.mem_map.mp h
    refine .inl ⟨y, hy, ?_⟩
    by_cases z : y.1 = k
    · rw [if_pos z] at e; subst e; exact ⟨rfl, rfl⟩
    · rw [if_neg z] at e; subst e; exact ⟨rfl, rfl⟩
  · rcases List.mem_append.mp h with z | z
    · exact .inl ⟨x, z, rfl, rfl⟩
    · have e : x = (k, b, v) := by simpa using z
      exact .inr (by rw [e]; exact ⟨rfl, rfl⟩)
theorem putV_len (vs : List Ent) (k : NestedKey) (b : Addr) (v : V) : (putV vs k b v).length ≤ vs.length + 1 := by
  unfold putV
  split
  · simp
  · simp

/-! ### the dict -/
def HDct (K : PySem.W.Frag) (H : Hp) (a : Addr) (o : Obj) (vs : List Ent) : Prop := H a = some (DctO a o vs) ∧ ∀ x ∈ vs, KvAt K H x.2.1 x.1
theorem ents_of {P : Program} {w : World} {xs : List EntV} (h : ∀ x ∈ xs, ktf x.1 = true) : xs.map ent0 = xs.map (entryOfKey (nestedKind P w)) := by
  refine List.map_congr_left fun x hx => ?_
  unfold ent0 entryOfKey
  rw [← hash_kh (w := w) x.1 (h x hx)]
  rfl
theorem pr_mem {vs : List Ent} {xs : List EntV} (h : PR vs xs) : ∀ y ∈ xs, ∃ x ∈ vs, x.1 = y.1 ∧ x.2.1 = y.2.1 := by
  induction h with
  | nil => intro y hy; exact nomatch hy
  | @cons p q ps qs r t ih =>
    intro y hy
    rcases List.mem_cons.mp hy with e | e
    · subst e; exact ⟨p, List.mem_cons_self .., r.1, r.2.1⟩
    · obtain ⟨x, hx, z⟩ := ih y e
      exact ⟨x, List.mem_cons_of_mem _ hx, z⟩
section
variable {X : Cx} {pins : List (Addr × Obj)} {σ : L2.St} {H : Hp} {s : Shared} {a b : Addr} {o : Obj} {vs : List Ent} {k : NestedKey} {v : V} {u : Value} {A : Around} {E : Value → Shared → Prop}
theorem dctOk (I : Inv X pins σ H s) (h : H a = some (DctO a o vs)) : DctOk a o vs s.heap := (I.hok a _ h).1
theorem dct_rd (I : Inv X pins σ H s) (h : HDct X.K H a o vs) : (a == sysModules) = false ∧ vs.length ≤ sizeLine ∧ ∃ xs, PR vs xs ∧ s.heap.DictOfH (nestedKind X.prog X.w) a xs := by
  obtain ⟨c1, c2, c3, c4, c5, es, ep, xs, c6, c7, c8⟩ := dctOk I h.1
  have all : ∀ y ∈ xs, ktf y.1 = true ∧ (nestedKind X.prog X.w).is s.heap y.1 y.2.1 := fun y hy => by
    obtain ⟨x, hx, e1, e2⟩ := pr_mem c8 y hy
    have k2 := h.2 x hx
    rw [e1, e2] at k2
    exact ⟨k2.1, k2.is I⟩
  refine ⟨c3, c4, xs, c8, o, es, ep, c1, c2, c6, ?_, fun y hy => (all y hy).2, ?_⟩
  · rw [c7]; exact ents_of fun y hy => (all y hy).1
  · rw [← pr_keys c8]; exact c5
theorem dctO_ok {P : Program} {w : World} {H : Hp} {h : Heap} (x : DctOk a o vs h) : ObjOk P w H h a (DctO a o vs) :=
  ⟨x, ⟨o, x.1⟩, fun _ _ p q => ⟨q _ p.1, p.2⟩⟩
theorem dctOk_of {h : Heap} {xs : List EntV} (hd : (a == sysModules) = false) (hl : vs.length ≤ sizeLine) (r : PR vs xs) (t : ∀ x ∈ vs, ktf x.1 = true) (d : h.DictOfH (nestedKind X.prog X.w) a xs) : ∃ o', DctOk a o' vs h := by
  obtain ⟨o', es, ep, c1, c2, c3, c4, c5, c6⟩ := d
  refine ⟨o', c1, c2, hd, hl, by rw [pr_keys r]; exact c6, es, ep, xs, c3, ?_, r⟩
  rw [c4]
  refine (ents_of fun y hy => ?_).symm
  obtain ⟨x, hx, e1, _⟩ := pr_mem r y hy
  exact e1 ▸ t x hx
theorem mutD (h : H a = some (DctO a o vs)) : Mut (H a) := by rw [h]; exact True.intro
theorem dct_new {h' : Heap} {t' : Nat} {xs : List EntV} (hd : (a == sysModules) = false) (hl : vs.length < sizeLine) (I : Inv X pins σ H s) (h : HDct X.K H a o vs) (hk : KvAt X.K H b k) (r : PR (putV vs k b v) xs) (d : h'.DictOfH (nestedKind X.prog X.w) a xs) (hs : Heap.SameBut a s.heap h') :
    ∃ o', Inv X pins σ (upd H a (DctO a o' (putV vs k b v))) { s with heap := h', toks := t' } := by
  obtain ⟨o', z⟩ := dctOk_of (X := X) (a := a) (vs := putV vs k b v) hd (by have := putV_len vs k b v; omega) r (fun x hx => by
    rcases putV_mem hx with ⟨y, hy, e1, _⟩ | ⟨e1, _⟩
    · exact e1 ▸ (h.2 y hy).1
    · rw [e1]; exact hk.1) d
  exact ⟨o', d_write I (mutD h.1) hs ⟨o', z.1⟩ (dctO_ok z)⟩
/-- d[y] = v by a comprehension -/
theorem dct_set {Q : Unit → Shared → Prop} (hu : A.units + 8 < cLine) (I : Inv X pins σ H s) (h : HDct X.K H a o vs) (hk : KvAt X.K H b k) (hl : vs.length < sizeLine) (rv : RelV v u) (q : ∀ o' s', Inv X pins σ (upd H a (DctO a o' (putV vs k b v))) s' → Q () s') :
    wpAny (model X.prog X.w) A (dictSet a (.ref b) u) Q E s := by
  obtain ⟨hd, hz, xs, r, d⟩ := dct_rd I h
  refine wpAny_dictSet_heap (hsz := by rw [← Paired.length r]; exact hz) (show A.units + 8 < cLine from hu) (hk.is I) d fun h' d' hs => ?_
  obtain ⟨o', I'⟩ := dct_new (v := v) hd hl I h hk (pr_put r k b rv) d' hs
  exact q o' _ I'
/-- d.setdefault(y, v) -/
theorem dct_setdef {Q : Value → Shared → Prop} (hu : A.units + 9 < cLine) (I : Inv X pins σ H s) (h : HDct X.K H a o vs) (hk : KvAt X.K H b k) (hl : vs.length < sizeLine) (rv : RelV v u)
    (q1 : ∀ p w' s', atV vs k = some p → Inv X pins σ H s' → RelV p.2 w' → Q w' s') (q2 : ∀ o' s', atV vs k = none → Inv X pins σ (upd H a (DctO a o' (putV vs k b v))) s' → Q u s') :
    wpAny (model X.prog X.w) A (call (.builtin "dict.setdefault") [.ref a, .ref b, u]) Q E s := by
  obtain ⟨hd, hz, xs, r, d⟩ := dct_rd I h
  refine call_setdefault_heap (hsz := by rw [← Paired.length r]; exact hz) (by show A.units + 1 + 8 < cLine; omega) (hk.is I) hd d (fun p hp => ?_) fun hn h' d' hs => ?_
  · rcases pr_at r k with ⟨_, e2⟩ | ⟨c, v', u', e1, e2, r2⟩
    · rw [hp] at e2; cases e2
    · rw [hp] at e2; cases e2
      exact q1 _ _ _ e1 (I.tok _) r2
  · rcases pr_at r k with ⟨e1, _⟩ | ⟨c, v', u', e1, e2, r2⟩
    · obtain ⟨o', I'⟩ := dct_new (v := v) hd hl I h hk (pr_put r k b rv) d' hs
      exact q2 o' _ e1 I'
    · rw [hn] at e2; cases e2
/-- {} -/
def emptyDo : Obj := { cls := .type "dict", data := .dict #[] }
theorem dct_empty {P : Program} {w : World} {H : Hp} (h : Heap) (hb : sysModules < h.objs.size) : ObjOk P w H (h.push emptyDo) h.objs.size (DctO h.objs.size emptyDo []) :=
  dctO_ok ⟨Heap.get?_push_size _ rfl, ⟨rfl, rfl, rfl⟩, beq_eq_false_iff_ne.mpr (Ne.symm (Nat.ne_of_lt hb)), Nat.zero_le _, List.nodup_nil, #[], 0, [], rfl, rfl, .nil⟩
end
end L3

/-! ## L5b -/
set_option Elab.async false
set_option linter.all false
set_option maxRecDepth 100000
set_option maxHeartbeats 4000000
/-! Dicts whose keys are tuples: walks, operations, comprehensions over addresses. -/
namespace L3
open PySem PySem.Spec PyProof.Rows L2

/-! ### walks -/
def entK (x : Ent) : V := .ref x.2.1
def entV (x : Ent) : V := x.2.2
/-- .. both, in a new pair -/
def ItCi (a : Addr) (o : Obj) : It :=
  ⟨fun i H => ∃ vs x, H a = some (DctO a o vs) ∧ vs[i]? = some x,
   fun i H v H' => ∃ T x y, v = .ref T ∧ H T = none ∧ H' = upd H T (.tup [x, y]) ∧ ∀ vs, H a = some (DctO a o vs) → ∃ e, vs[i]? = some e ∧ x = entK e ∧ y = entV e,
   fun i H => ∃ vs, H a = some (DctO a o vs) ∧ vs.length ≤ i⟩
theorem pr_get {vs : List Ent} {xs : List EntV} (h : PR vs xs) : ∀ {i : Nat} {x : Ent}, vs[i]? = some x → ∃ y, xs[i]? = some y ∧ x.1 = y.1 ∧ x.2.1 = y.2.1 ∧ RelV x.2.2 y.2.2 := by
  induction h with
  | nil => intro i x e; simp at e
  | @cons p q ps qs r t ih =>
    intro i x e
    cases i with
    | zero =>
      simp only [List.getElem?_cons_zero, Option.some.injEq] at e
      subst e
      exact ⟨q, rfl, r⟩
    | succ j =>
      simp only [List.getElem?_cons_succ] at e ⊢
      exact ih e
section
variable {X : Cx} {pins : List (Addr × Obj)} {σ : L2.St} {H : Hp} {s : Shared} {a : Addr} {o : Obj} {vs : List Ent}
theorem dct_raw (I : Inv X pins σ H s) (h : H a = some (DctO a o vs)) : s.heap.get? a = some o ∧ o.ExactDict ∧ (a == sysModules) = false ∧ vs.length ≤ sizeLine ∧
    ∃ es ep, o.data = .dict es ep ∧ es.size = vs.length ∧ ∀ (i : Nat) (x : Ent), vs[i]? = some x → ∃ hi : i < es.size, es[i].key = .ref x.2.1 ∧ RelV x.2.2 es[i].val := by
  obtain ⟨c1, c2, c3, c4, c5, es, ep, xs, c6, c7, c8⟩ := dctOk I h
  have sz : es.size = vs.length := by rw [Paired.length c8, ← Array.length_toList, c7, List.length_map]
  refine ⟨c1, c2, c3, c4, es, ep, c6, sz, fun i x hx => ?_⟩
  obtain ⟨y, hy, e1, e2, r⟩ := pr_get c8 hx
  have lt : i < es.size := by rw [sz]; exact (List.getElem?_eq_some_iff.mp hx).1
  have e3 : es.toList[i]? = some (ent0 y) := by rw [c7, List.getElem?_map, hy]; rfl
  have e4 : es[i] = ent0 y := by
    rw [Array.getElem?_toList, Array.getElem?_eq_getElem lt] at e3
    exact Option.some.inj e3
  refine ⟨lt, ?_, ?_⟩
  · rw [e4, e2]; rfl
  · rw [e4]; exact r
theorem dct_ep {es es' : Array DictEntry} {ep ep' : Nat} (h : o.data = .dict es ep) (h' : o.data = .dict es' ep') : es' = es ∧ ep' = ep := by
  rw [h] at h'
  cases h'
  exact ⟨rfl, rfl⟩
end
section
variable {P : Program} {w : World} {K : PySem.W.Frag} {tg : Expr} {a it : Addr} {o : Obj} {es : Array DictEntry} {ep : Nat}
theorem turn_itemsC {elts : List Expr} {kk : Nat} {tpos : Pos} (hod : o.data = .dict es ep) : Turn P w K (.Tuple elts kk tpos) (ItCi a o) [it] it (fun i h => ∃ ok ov, IsItemIter h it a i es.size ep ok ov) where
  mem := by simp
  obj := fun i h st b hb => by
    obtain rfl : b = it := by simpa using hb
    obtain ⟨ok, ov, e⟩ := st
    exact ⟨_, e, fun v z => nomatch z⟩
  keep := fun i h h' st k => let ⟨ok, ov, e⟩ := st; ⟨ok, ov, k it (by simp) _ e⟩
  item := by
    intro X hP hw hK hc i pins s σ H E I hf st hg
    subst hP hw hK
    obtain ⟨vs, x, hd, hx⟩ := hg
    obtain ⟨hgd, hex, hs, hl, es', ep', hdt, hsz, ent⟩ := dct_raw I hd
    obtain ⟨rfl, rfl⟩ := dct_ep hod hdt
    obtain ⟨hi, hk, hv⟩ := ent i x hx
    obtain ⟨ok, ov, he⟩ := st
    have hlt : it < s.heap.objs.size := Heap.lt_size he
    refine wpAny_pyNext_items_item_raw he ⟨o, hgd, hex, hdt⟩ hi fun h' ho hT hz kp => ?_
    refine ⟨_, rfl, wpAny_letOwnedTupleGo_items (s := { s with heap := h' }) ho fun h'' he' sb => ?_⟩
    have hT2 : h''.get? s.heap.objs.size = some { cls := .type "tuple", data := .seq #[es'[i].key, es'[i].val] } := (sb.2 _ (Nat.ne_of_gt hlt)).trans hT
    have rk : RelV (entK x) es'[i].key := hk
    have new : ObjOk X.prog X.w (upd H s.heap.objs.size (.tup [entK x, entV x])) h'' s.heap.objs.size (.tup [entK x, entV x]) :=
      ⟨(by decide : 2 ≤ sizeLine), [es'[i].key, es'[i].val], .cons rk (.cons hv .nil), ⟨_, hT2, rfl, _, rfl⟩⟩
    have I1 : Inv X pins σ (upd H s.heap.objs.size (.tup [entK x, entV x])) { s with heap := h'' } :=
      I.turnedNew (t' := s.toks) (ch := [it]) (fun b ob hb e => (sb.2 b (by simpa using hb)).trans (kp b ob (by simpa using hb) e)) hf (Nat.le_refl _) new
    refine ⟨.ref s.heap.objs.size, _, I1, rfl, ⟨_, entK x, entV x, rfl, I.hok.fresh (Nat.le_refl _), rfl, fun ws hw => ?_⟩, ⟨_, _, he'⟩, fun b hb => ?_⟩
    · obtain ⟨_, _, _, _, es2, ep2, hdt2, hsz2, ent2⟩ := dct_raw I hw
      obtain ⟨rfl, rfl⟩ := dct_ep hod hdt2
      have lt : i < ws.length := by rw [← hsz2]; exact hi
      obtain ⟨_, hk2, hv2⟩ := ent2 i ws[i] (List.getElem?_eq_getElem lt)
      have rk2 : RelV (entK ws[i]) es2[i].key := hk2
      exact ⟨ws[i], List.getElem?_eq_getElem lt, rk.inj rk2, hv.inj hv2⟩
    · obtain rfl : b = it := by simpa using hb
      rw [upd_ne (Nat.ne_of_lt hlt)]
      exact (hf b (by simp)).1
  done := by
    intro X hP hw hK hc i pins s σ H E I hf st hg
    subst hP hw hK
    obtain ⟨vs, hd, hi⟩ := hg
    obtain ⟨f0, f1, f2, f3, f4, f5⟩ := hf it (by simp)
    obtain ⟨hgd, hex, hs, hl, es', ep', hdt, hsz, ent⟩ := dct_raw I hd
    obtain ⟨rfl, rfl⟩ := dct_ep hod hdt
    obtain ⟨ok, ov, he⟩ := st
    exact wpAny_pyNext_items_end_raw (I.ok.hd hc) he ⟨o, hgd, hex, hdt⟩ (by omega) fun h' eb => ⟨rfl, I.turned (t' := s.toks) (fun b ob hb e => eb b ob hb e) f0 f1 f3 f4 f5⟩
  self := fun A i s Q E st h => let ⟨_, _, e⟩ := st; PySem.W.kcp_self e h
end
def iDct (J : Addr → Obj → It) (td : TE) : TI := fun σ H R => td σ H fun x H1 => ∃ a o vs, x = .ref a ∧ H1 a = some (DctO a o vs) ∧ R (J a o) H1
section
variable {X : Cx} {tg e : Expr} {td : TE} {apos cpos : Pos}
theorem pi_itemsC {elts : List Expr} {kk : Nat} {tpos : Pos} (he : PE X e td) (hbase : attributeBase e "items" X.env (eval e X.env) = eval e X.env := by rfl) (hline : (apos.endLine == cpos.line) = true := by rfl) :
    PI X (.Tuple elts kk tpos) (.Call (.Attribute e "items" apos) [] [] cpos) (iDct ItCi td) := by
  refine ⟨fun pins s σ H R I h => ?_⟩
  refine wpAny_Call_method (T := "dict") (id := "dict.items") hbase rfl hline F.plainAttrs_dict F.slot_dict_items F.type_dict_items (thn (he.run pins s σ H _ I h) fun u s1 ⟨x, H1, I1, rx, a, o, vs, ex, hd, q⟩ => ?_)
  subst ex
  obtain rfl : u = Value.ref a := rx
  obtain ⟨hgd, hex, hs, hl, es, ep, hdt, hsz, ent⟩ := dct_raw I1 hd
  have raw : s1.heap.DictRaw a es ep := ⟨o, hgd, hex, hdt⟩
  refine ⟨raw.typeIs, fun b e => ?_, ?_⟩
  · cases e; exact ⟨o, hgd, hex.2.1⟩
  have I2 : Inv X pins σ H1 { s1 with heap := s1.heap.push { cls := .type "dict_items", data := .fields #[.ref a] } } := I1.kept (t' := s1.toks) fun b ob q => Heap.get?_push_of_some _ q
  have fin : wpAny (model X.prog X.w) X.A (pyIter (.ref s1.heap.objs.size)) (PIE X pins σ (.Tuple elts kk tpos) R) X.xe { s1 with heap := s1.heap.push { cls := .type "dict_items", data := .fields #[.ref a] } } :=
    wpAny_pyIter_items_raw (d := a) (es := es) (ep := ep) ⟨_, Heap.get?_push_size _ rfl, rfl, rfl⟩ ⟨o, Heap.get?_push_of_some _ hgd, hex, hdt⟩ (pi_one (tk := s1.toks) I2 _ (turn_itemsC hdt) ⟨.none, .none, Heap.get?_push_size _ rfl⟩ q)
  show wpAny _ _ (callWith cpos (.builtin "dict.items") [.ref a] [] []) _ X.xe s1
  exact method_meetsIn F.slot_dict_items F.entry_dict_items rfl (PySem.evalArgs_none ⟨rfl, raw.typeIs, F.args_dict_items_1 _, _, meets_dict_items_raw a hs, ⟨es, ep, raw⟩, fin⟩)
end

/-! ### operations -/
def tCDef (K : PySem.W.Frag) (td ty tv : TE) : TE := fun σ H Q => td σ H fun x H1 => ∃ a o0 vs0, x = .ref a ∧ H1 a = some (DctO a o0 vs0) ∧ ty σ H1 fun y H2 => tv σ H2 fun v H3 => ∃ b o vs k, y = .ref b ∧ HDct K H3 a o vs ∧ KvAt K H3 b k ∧ vs.length < sizeLine ∧
  (∀ p, atV vs k = some p → Q p.2 H3) ∧ (atV vs k = none → ∀ o', Q v (upd H3 a (DctO a o' (putV vs k b v))))
def tCNew : TE := fun _ H Q => ∀ p, H p = none → Q (.ref p) (upd H p (DctO p emptyDo []))
section
variable {X : Cx} {o i e f value : Expr} {pos pos' apos cpos : Pos} {td ty tv : TE}
theorem pe_cdef (hu : X.A.units + 9 < cLine) (ho : PE X o td) (he : PE X e ty) (hf : PE X f tv) (m : M2 X o "setdefault" apos e f cpos) : PE X (.Call (.Attribute o "setdefault" apos) [e, f] [] cpos) (tCDef X.K td ty tv) := by
  refine ⟨fun pins s σ H Q I h => ?_⟩
  refine wpAny_Call_method m.base m.few m.line PySem.F.plainAttrs_dict PySem.F.slot_dict_setdefault PySem.F.type_dict_setdefault (thn (ho.run pins s σ H _ I h) fun u s1 ⟨x, H1, I1, rx, a, o0, vs0, ex, hd, q1⟩ => ?_)
  subst ex
  obtain rfl : u = Value.ref a := rx
  obtain ⟨hgd, hex, hs, hl, es, ep, hdt, hsz, ent⟩ := dct_raw I1 hd
  refine ⟨⟨o0, hgd, hex.1⟩, fun b e => ?_, ?_⟩
  · cases e; exact ⟨o0, hgd, hex.2.1⟩
  rw [m.trees]
  refine Calls.callWith_builtin rfl (Calls.evalArgs_plain (Calls.spliced_cons (thn (he.run pins s1 σ H1 _ I1 q1) fun iv s2 ⟨y, H2, I2, ry, q2⟩ =>
    Calls.spliced_cons (thn (hf.run pins s2 σ H2 _ I2 q2) fun fv s3 ⟨v, H3, I3, rv, b, o, vs, k, ey, g, hk, hl2, q3, q4⟩ => Calls.spliced_nil ?_))))
  subst ey
  obtain rfl : iv = Value.ref b := ry
  exact dct_setdef hu I3 g hk hl2 rv (fun p w' s' e I' r' => ⟨p.2, H3, I', r', q3 p e⟩) fun o' s' e I' => ⟨v, _, I', rv, q4 e o'⟩
theorem pe_cnew : PE X (.Dict [] [] pos) tCNew := ⟨fun pins s σ H Q I h =>
  wpAny_Dict_empty ⟨.ref s.heap.objs.size, _, I.laid (a := s.heap.objs.size) (o := DctO s.heap.objs.size emptyDo []) (t' := s.toks) (fun _ _ q => Heap.get?_push_of_some _ q) (Nat.le_refl _) (dct_empty s.heap I.big), rfl, h _ (I.hok.fresh (Nat.le_refl _))⟩⟩
end
end L3

/-! ## L5c -/
set_option Elab.async false
set_option linter.all false
set_option maxRecDepth 100000
set_option maxHeartbeats 4000000
/-! Dict comprehensions whose keys are tuples, over addresses. -/
namespace L3
open PySem PySem.Spec PyProof.Rows L2

section
variable {X : Cx}
/-- {k: v for target in iter if ..}: D the new dict -/
def tDcC (K : PySem.W.Frag) (wi : TI) (g : TG) (tt : TT) (tk tv : TE) (vs : List Nat) : TE := fun σ H Q => wi σ H fun J H1 => ∀ D, H1 D = none → ∃ W : Nat → Nat → Hp → Prop, (∃ m, W 0 m (upd H1 D (DctO D emptyDo []))) ∧ ∀ i m H, W i m H →
  (J.stop i H ∧ Q (.ref D) H) ∨ (J.go i H ∧ ∃ Nx : Hp → Prop, (∀ H', Nx H' → ∃ m', m' < m ∧ W (i + 1) m' H') ∧ ∀ x H', J.yld i H x H' → g x (wipe σ vs) H' fun σ2 H2 => wipe σ2 vs = wipe σ vs ∧ tt σ2 H2 fun b H3 =>
    if b = true then tk σ2 H3 fun y H4 => tv σ2 H4 fun z H5 => ∃ o ws b k, y = .ref b ∧ HDct K H5 D o ws ∧ KvAt K H5 b k ∧ ws.length < sizeLine ∧ ∀ o', Nx (upd H5 D (DctO D o' (putV ws k b z))) else Nx H3)
/-- the turns of a dict comprehension, from the block's start -/
theorem dcC_core {pins : List (Addr × Obj)} {s : Shared} {σ : L2.St} {H : Hp} {Q : VK} {kx vx tg iter : Expr} {ifs : List Expr} {scope : Scope} {own : List (Str × Nat)} {pos pos' : Pos} {wi : TI} {g : TG} {tt : TT} {tk tv : TE} {use : Option (Value → Sem Unit)} {Qf : Value → Shared → Prop}
    (hu : X.A.units + 8 < cLine) (hc : X.calm = true) (hN : X.N.Nodup) (I : Inv X pins σ H s) (hi : PI X tg iter wi) (ok : BlkOk X.N X.env.scope scope own)
    (hg : ∀ (s : Shared) (H : Hp) (C : Addr) (cl : List (Str × Addr)) (fp : List Addr), PG (X.blk s H scope (compEnvC scope cl C X.env) fp) tg g) (ht : ∀ (s : Shared) (H : Hp) (C : Addr) (cl : List (Str × Addr)) (fp : List Addr), PTs (X.blk s H scope (compEnvC scope cl C X.env) fp) ifs tt)
    (hk : ∀ (s : Shared) (H : Hp) (C : Addr) (cl : List (Str × Addr)) (fp : List Addr), PE (X.blk s H scope (compEnvC scope cl C X.env) fp) kx tk)
    (he : ∀ (s : Shared) (H : Hp) (C : Addr) (cl : List (Str × Addr)) (fp : List Addr), PE (X.blk s H scope (compEnvC scope cl C X.env) fp) vx tv) (hs : ∀ x, foldedSetIterable iter X.env x = pure x)
    (h : tDcC X.K wi g tt tk tv (own.map (·.2)) σ H Q)
    (hRR : ∀ D C s' m H', Inv X pins σ H' s' → Q (.ref D) H' → s'.heap.Ns C m → FpOk X pins H' C → compPost (model X.prog X.w) X.A X.xe use Qf (.ref D) C (.ok .next) s') :
    wpAny (model X.prog X.w) X.A (comprehension (.DictComp kx vx [⟨tg, iter, ifs, 0⟩] scope pos) scope X.env pos' newDict false (eval iter X.env) use) Qf X.xe s := by
  have cells : ∀ y ∈ scope.names, y.2 = .free → ∃ c, X.env.cells.lookup y.1 = some c := fun y hy e => by
    rcases ok.free y hy e with k | k
    · exact I.ok.has _ (.inl k)
    · exact I.ok.has _ (.inr k)
  refine wpAny_comprehension_free (use := use) rfl hs (closure_ok cells) ok.kind (fun y hy e => by rw [ok.uniq y hy, e])
    (thn (hi.run pins s σ H _ I h) fun xv s1 hx => thn hx fun itv s2 h2 => ?_)
  obtain ⟨it, fp, tn, J, H2, e, I2, T, st2, f2, q⟩ := h2
  subst e
  refine wpAny_newObj_type (newEnv_comp ?_)
  obtain ⟨W, ⟨m0, w0⟩, turn⟩ := q s2.heap.objs.size (I2.hok.fresh (Nat.le_refl _))
  have big := dct_empty (P := X.prog) (w := X.w) (H := upd H2 s2.heap.objs.size (DctO s2.heap.objs.size emptyDo [])) s2.heap I2.big
  have lt : ∀ b ∈ fp, b < s2.heap.objs.size := fun b hb => by
    obtain ⟨o, e, _⟩ := T.obj _ _ st2 b hb
    exact Heap.lt_size e
  generalize hD : s2.heap.objs.size = D at *
  generalize hs3 : ({ s2 with heap := s2.heap.push { cls := .type "dict", data := .dict #[] } } : Shared) = s3
  have hh3 : s3.heap = s2.heap.push emptyDo := by rw [← hs3]; rfl
  have I3 : Inv X pins σ (upd H2 D (DctO D emptyDo [])) s3 := by
    rw [← hs3]
    exact I2.laid (t' := s2.toks) (fun b o e => Heap.get?_push_of_some _ e) (Nat.le_of_eq hD) big
  have f3 : ∀ b ∈ fp, FpOk X pins (upd H2 D (DctO D emptyDo [])) b ∧ b < s3.heap.objs.size := fun b hb => by
    refine ⟨⟨?_, (f2 b hb).2⟩, by rw [hh3, Heap.size_push, hD]; exact Nat.lt_succ_of_lt (lt b hb)⟩
    rw [upd_ne (Nat.ne_of_lt (lt b hb))]
    exact (f2 b hb).1
  have st3 : tn 0 s3.heap := T.keep _ _ _ st2 fun b _ o e => by rw [hh3]; exact Heap.get?_push_of_some _ e
  have I4 := block_start I3 ok hN f3
  generalize hH3 : upd H2 D (DctO D emptyDo []) = H3 at I3 I4 w0 f3
  have pg := hg s3 H3 s3.heap.objs.size (cellsFrom (s3.heap.objs.size + 1) scope.names (cloFrom X.env.cells scope.names [])) fp
  have pt := ht s3 H3 s3.heap.objs.size (cellsFrom (s3.heap.objs.size + 1) scope.names (cloFrom X.env.cells scope.names [])) fp
  have pk := hk s3 H3 s3.heap.objs.size (cellsFrom (s3.heap.objs.size + 1) scope.names (cloFrom X.env.cells scope.names [])) fp
  have pv := he s3 H3 s3.heap.objs.size (cellsFrom (s3.heap.objs.size + 1) scope.names (cloFrom X.env.cells scope.names [])) fp
  show codeAny _ _ (.compStart (.DictComp kx vx [⟨tg, iter, ifs, 0⟩] scope pos) 0 (.ref it) (.ref D) (compEnvC scope (cellsFrom (s3.heap.objs.size + 1) scope.names (cloFrom X.env.cells scope.names [])) s3.heap.objs.size X.env)) (compPost (model X.prog X.w) X.A X.xe use Qf (.ref D) s3.heap.objs.size) { s3 with heap := pushCells (s3.heap.push { cls := .type "dict", data := .dict #[] }) scope.names }
  generalize hce : compEnvC scope (cellsFrom (s3.heap.objs.size + 1) scope.names (cloFrom X.env.cells scope.names [])) s3.heap.objs.size X.env = ce at I4 pg pt pk pv ⊢
  have cL : ce.locals = s3.heap.objs.size := by subst hce; rfl
  generalize hs4 : ({ s3 with heap := pushCells (s3.heap.push { cls := .type "dict", data := .dict #[] }) scope.names } : Shared) = s4 at I4 ⊢
  have st4 : tn 0 s4.heap := T.keep _ _ _ st3 fun b _ o e => by rw [← hs4]; exact pushCells_keeps _ _ _ _ (Heap.get?_push_of_some _ e)
  have foot : ∀ {σ' : L2.St} {H' : Hp} {s' : Shared}, Inv (X.blk s3 H3 scope ce fp) [] σ' H' s' → (∀ b ∈ fp, H' b = none) → ∀ b ∈ fp, FpOk (X.blk s3 H3 scope ce fp) [] H' b := fun {σ' H' s'} I' hn b hb =>
    ⟨hn b hb, (I'.ok.exf b hb).1, I'.ok.exfs b hb, .inl hb, fun x c e => (I'.ok.exf b hb).2 x c e, fun p hp => absurd (show p ∈ ([] : List (Addr × Obj)) ++ [] from hp) (by simp)⟩
  refine codeAny_compStart_dict ?_ (T.self X.A 0 _ _ _ st4 ?_) <;>
  · refine compLoop_anyD (fun n s' => ∃ i H', Inv (X.blk s3 H3 scope ce fp) [] (wipe σ (own.map (·.2))) H' s' ∧ tn i s'.heap ∧ (∀ b ∈ fp, H' b = none) ∧ W i n H') ?_ m0 ⟨0, H3, I4, st4, fun b hb => (f3 b hb).1.1, w0⟩
    rintro n s5 ⟨i, H5, I5, st5, n5, w5⟩
    rcases turn i n H5 w5 with ⟨stop, qq⟩ | ⟨go, Nx, hNx, step⟩
    · refine thnF (T.done (X.blk s3 H3 scope ce fp) rfl rfl rfl hc i [] s5 _ H5 (fun _ _ => False) I5 (foot I5 n5) st5 stop) fun r s6 ⟨hr, I6⟩ => ?_
      subst hr
      have I7 : Inv X pins σ H5 s6 := I3.call' (ch := fp) I6.os I6.base I6.hok I6.bare fun b hb => ⟨(f3 b hb).1.2.2.2.1, (f3 b hb).1.2.1, (f3 b hb).1.2.2.2.2.1, (f3 b hb).1.2.2.2.2.2⟩
      have nC : H5 s3.heap.objs.size = none := by
        have z : H5 ce.locals = none := I6.free
        rw [cL] at z
        exact z
      obtain ⟨m, hn, _⟩ := I6.loc
      have hn : s6.heap.Ns ce.locals m := hn
      rw [cL] at hn
      exact hRR D s3.heap.objs.size s6 m H5 I7 qq hn (I3.fpOk (Nat.le_refl _) nC)
    · refine thnF (T.item (X.blk s3 H3 scope ce fp) rfl rfl rfl hc i [] s5 _ H5 (fun _ _ => False) I5 (foot I5 n5) st5 go) fun r s6 ⟨u, hr, h6⟩ => ?_
      subst hr
      refine thnF h6 fun _ s7 ⟨x, H7, I7, r7, y7, st7, n7⟩ => ?_
      refine thnF (pg.run _ s7 _ H7 x u _ (I7.pinned (foot I7 n7) (T.obj _ _ st7)) r7 (step x H7 y7)) fun _ s8 ⟨σ8, H8, I8, hw8, q8⟩ => ?_
      refine thnF (pt.run _ s8 σ8 H8 _ I8 q8) fun b s9 ⟨H9, I9, q9⟩ => ?_
      have fin : ∀ {s' : Shared} {H' : Hp}, Inv (X.blk s3 H3 scope ce fp) ([] ++ pinsAt fp s7.heap) σ8 H' s' → Nx H' → ∃ m, m < n ∧ ∃ i H', Inv (X.blk s3 H3 scope ce fp) [] (wipe σ (own.map (·.2))) H' s' ∧ tn i s'.heap ∧ (∀ b ∈ fp, H' b = none) ∧ W i m H' := fun {s' H'} I' nx => by
        obtain ⟨m', hm, w'⟩ := hNx H' nx
        have pin' : ∀ b ∈ fp, ∀ o, s7.heap.get? b = some o → s'.heap.get? b = some o ∧ H' b = none := fun b hb o e =>
          let z := I'.pin (b, o) (List.mem_append_right _ (List.mem_append_right _ (mem_pinsAt hb e)))
          ⟨z.1, z.2.1⟩
        have hl : (wipe σ (own.map (·.2))).length = σ8.length := by rw [← hw8, wipe_length]
        refine ⟨m', hm, i + 1, H', (I'.unpinned (pins := [])).weak hl (fun j v e => ?_), T.keep _ _ _ st7 fun b hb o e => (pin' b hb o e).1, fun b hb => ?_, w'⟩
        · rw [← hw8] at e
          exact (wipe_some e).1
        · obtain ⟨o, e, _⟩ := T.obj _ _ st7 b hb
          exact (pin' b hb o e).2
      cases b with
      | false =>
        simp only [Bool.false_eq_true, if_false] at q9 ⊢
        exact fin I9 q9
      | true =>
        simp only [if_true] at q9 ⊢
        refine thnF (pk.run _ s9 σ8 H9 _ I9 q9) fun z s10 ⟨yk, H10, I10, r10, q10⟩ => ?_
        refine thnF (pv.run _ s10 σ8 H10 _ I10 q10) fun z2 s11 ⟨yv, H11, I11, r11, o, ws, b, k, eb, hD11, hk11, hz11, nx⟩ => ?_
        subst eb
        obtain rfl : z = Value.ref b := r10
        exact dct_set (X := X.blk s3 H3 scope ce fp) hu I11 hD11 hk11 hz11 r11 fun o' s12 I12 => fin I12 (nx o')
section
variable {kx vx tg iter : Expr} {ifs : List Expr} {scope : Scope} {own : List (Str × Nat)} {pos : Pos} {wi : TI} {g : TG} {tt : TT} {tk tv : TE}
theorem pe_dcC (hu : X.A.units + 8 < cLine) (hc : X.calm = true) (hN : X.N.Nodup) (hi : PI X tg iter wi) (ok : BlkOk X.N X.env.scope scope own)
    (hg : ∀ (s : Shared) (H : Hp) (C : Addr) (cl : List (Str × Addr)) (fp : List Addr), PG (X.blk s H scope (compEnvC scope cl C X.env) fp) tg g) (ht : ∀ (s : Shared) (H : Hp) (C : Addr) (cl : List (Str × Addr)) (fp : List Addr), PTs (X.blk s H scope (compEnvC scope cl C X.env) fp) ifs tt)
    (hk : ∀ (s : Shared) (H : Hp) (C : Addr) (cl : List (Str × Addr)) (fp : List Addr), PE (X.blk s H scope (compEnvC scope cl C X.env) fp) kx tk)
    (he : ∀ (s : Shared) (H : Hp) (C : Addr) (cl : List (Str × Addr)) (fp : List Addr), PE (X.blk s H scope (compEnvC scope cl C X.env) fp) vx tv) (hs : ∀ x, foldedSetIterable iter X.env x = pure x := by intro _; rfl) :
    PE X (.DictComp kx vx [⟨tg, iter, ifs, 0⟩] scope pos) (tDcC X.K wi g tt tk tv (own.map (·.2))) := by
  refine ⟨fun pins s σ H Q I h => ?_⟩
  rw [arm_eval_DictComp]
  refine dcC_core hu hc hN I hi ok hg ht hk he hs h fun D C s' m H' I' q hn f => ⟨m, hn, fun h'' sb => ?_⟩
  obtain ⟨f0, f1, f2, f3, f4, f5⟩ := f
  exact ⟨.ref D, H', I'.turned (t' := s'.toks) (fun b o hb e => (sb.2 b hb).trans e) f0 f1 f3 f4 f5, rfl, q⟩
end
end
end L3

/-! ## L5d -/
set_option Elab.async false
set_option linter.all false
set_option maxRecDepth 100000
set_option maxHeartbeats 4000000
/-! Dicts whose keys are tuples, as data. -/
namespace L3
open PySem PySem.Spec PyProof.Rows L2

/-! ### keys and entries as data -/
/-- the key that a tuple is, not too deep -/
def keyD (d : D) : Option NestedKey := match d with
  | .tup ds => (match nkDs ds with
    | some ks => if (NestedKey.tup ks).depth ≤ 8 then some (.tup ks) else none
    | none => none)
  | _ => none
theorem keyD_of {d : D} {k : NestedKey} (h : keyD d = some k) : nkD d = some k ∧ k.depth ≤ 8 ∧ ∃ ds, d = .tup ds := by
  cases d with
  | tup ds =>
    unfold keyD at h
    dsimp only at h
    cases e : nkDs ds with
    | none => rw [e] at h; cases h
    | some ks =>
      rw [e] at h
      dsimp only at h
      by_cases c : (NestedKey.tup ks).depth ≤ 8
      · rw [if_pos c] at h
        cases h
        exact ⟨by rw [nkD, e]; rfl, c, ds, rfl⟩
      · rw [if_neg c] at h; cases h
  | _ => cases h
def atD (kvs : List (D × D)) (k : NestedKey) : Option D := (kvs.find? fun x => decide (nkD x.1 = some k)).map (·.2)
def putC (kvs : List (D × D)) (d : D) (k : NestedKey) (v : D) : List (D × D) :=
  if (atD kvs k).isSome then kvs.map (fun x => if nkD x.1 = some k then (x.1, v) else x) else kvs ++ [(d, v)]
section
variable {K : PySem.W.Frag} {S : Hp} {vs : List Ent} {kvs : List (D × D)}
theorem rt_at (r : RepT K S vs kvs) (k : NestedKey) : (atV vs k = none ∧ atD kvs k = none) ∨ ∃ b v d, atV vs k = some (b, v) ∧ atD kvs k = some d ∧ Rep K S v d := by
  unfold RepT at r
  induction r with
  | nil => exact .inl ⟨rfl, rfl⟩
  | @cons p q ps qs z t ih =>
    by_cases e : p.1 = k
    · refine .inr ⟨p.2.1, p.2.2, q.2, ?_, ?_, z.2.2.2⟩
      · unfold atV
        rw [List.find?_cons_of_pos (by simpa using e)]
        rfl
      · unfold atD
        rw [List.find?_cons_of_pos (by rw [z.1, e]; simp)]
        rfl
    · have e1 : atV (p :: ps) k = atV ps k := by
        unfold atV
        rw [List.find?_cons_of_neg (by simpa using e)]
      have e2 : atD (q :: qs) k = atD qs k := by
        unfold atD
        rw [List.find?_cons_of_neg (by rw [z.1]; simpa using e)]
      rw [e1, e2]
      exact ih
theorem rt_put (r : RepT K S vs kvs) {k : NestedKey} {b : Addr} {d : D} {v : V} {e : D} (rb : Rep K S (.ref b) d) (hk : keyD d = some k) (rv : Rep K S v e) : RepT K S (putV vs k b v) (putC kvs d k e) := by
  obtain ⟨h1, h2, _⟩ := keyD_of hk
  rcases rt_at r k with ⟨e1, e2⟩ | ⟨c, v', d', e1, e2, _⟩
  · unfold putV putC
    rw [e1, e2]
    exact Paired.snoc r ⟨h1, h2, rb, rv⟩
  · unfold putV putC
    rw [e1, e2]
    show RepT K S (vs.map _) (kvs.map _)
    clear e1 e2
    unfold RepT at r ⊢
    induction r with
    | nil => exact .nil
    | @cons p q ps qs z t ih =>
      rw [List.map_cons, List.map_cons]
      refine .cons ?_ ih
      by_cases w : p.1 = k
      · rw [if_pos w, if_pos (by rw [z.1, w])]
        exact ⟨z.1, z.2.1, z.2.2.1, rv⟩
      · rw [if_neg w, if_neg (by rw [z.1]; simpa using w)]
        exact z
theorem rt_mem (r : RepT K S vs kvs) : ∀ x ∈ vs, ∃ d, nkD d = some x.1 ∧ x.1.depth ≤ 8 ∧ Rep K S (.ref x.2.1) d := by
  unfold RepT at r
  induction r with
  | nil => intro x hx; exact nomatch hx
  | @cons p q ps qs z t ih =>
    intro x hx
    rcases List.mem_cons.mp hx with e | e
    · subst e; exact ⟨_, z.1, z.2.1, z.2.2.1⟩
    · exact ih x e
theorem rt_len (r : RepT K S vs kvs) : vs.length = kvs.length := Paired.length r
theorem rt_get (r : RepT K S vs kvs) : ∀ {i : Nat} {q : D × D}, kvs[i]? = some q → ∃ p, vs[i]? = some p ∧ Rep K S (entK p) q.1 ∧ Rep K S (entV p) q.2 := by
  unfold RepT at r
  induction r with
  | nil => intro i q e; simp at e
  | @cons p q' ps qs z t ih =>
    intro i q e
    cases i with
    | zero =>
      simp only [List.getElem?_cons_zero, Option.some.injEq] at e
      subst e
      exact ⟨p, rfl, z.2.2.1, z.2.2.2⟩
    | succ j =>
      simp only [List.getElem?_cons_succ] at e ⊢
      exact ih e
theorem hdct_of {μ : MH} {H : Hp} {a : Addr} {o : Obj} (k : OK K S μ H) (e : μ a = some (.dct o kvs)) : S a = none ∧ ∃ vs, HDct K H a o vs ∧ RepT K S vs kvs := by
  obtain ⟨hS, vs, h1, r⟩ := k.mts a _ e
  exact ⟨hS, vs, ⟨h1, fun x hx => let ⟨d, z1, z2, z3⟩ := rt_mem r x hx; kvAt_of k.sub z3 z1 z2⟩, r⟩
theorem dct_key {μ : MH} {H : Hp} {v : V} {d : D} {n : NestedKey} (k : OK K S μ H) (r : Rep K S v d) (e : keyD d = some n) : ∃ b, v = .ref b ∧ KvAt K H b n := by
  obtain ⟨h1, h2, ds, rfl⟩ := keyD_of e
  obtain ⟨b, us, rfl, _, _⟩ := r.toTup
  exact ⟨b, rfl, kvAt_of k.sub r h1 h2⟩
/-- an entry is stored -/
theorem OK.dput {μ : MH} {H : Hp} {a b : Addr} {o o' : Obj} {n : NestedKey} {d e : D} {v : V} (k : OK K S μ H) (hm : μ a = some (.dct o kvs)) (r : RepT K S vs kvs) (rb : Rep K S (.ref b) d) (hk : keyD d = some n) (rv : Rep K S v e) :
    OK K S (updM μ a (.dct o' (putC kvs d n e))) (upd H a (DctO a o' (putV vs n b v))) ∧ Stp S μ H S (updM μ a (.dct o' (putC kvs d n e))) (upd H a (DctO a o' (putV vs n b v))) :=
  ⟨k.put (k.mts a _ hm).1 ⟨_, upd_same, rt_put r rb hk rv⟩, Stp.put hm⟩
end

/-! ### readings -/
/-- d.setdefault(y, v) -/
def rCDef (fd fy fv : RX) : RX := fun ρ μ R => fd ρ μ fun x μ1 => ∃ a o0 kvs0, x = .ref a ∧ μ1 a = some (.dct o0 kvs0) ∧ fy ρ μ1 fun y μ2 => fv ρ μ2 fun v μ3 => ∃ o kvs k, μ3 a = some (.dct o kvs) ∧ keyD y = some k ∧ kvs.length < sizeLine ∧
  (∀ d, atD kvs k = some d → R d μ3) ∧ (atD kvs k = none → ∀ o', R v (updM μ3 a (.dct o' (putC kvs y k v))))
def rCNew : RX := fun _ μ R => ∀ p, μ p = none → R (.ref p) (updM μ p (.dct emptyDo []))
/-- the keys, the values, the items of a dict that stays -/
def rIDct (f : D × D → D) (fe : RX) : RI := fun ρ μ R => fe ρ μ fun x μ1 => ∃ a o kvs, x = .ref a ∧ μ1 a = some (.dct o kvs) ∧ R (kvs.map f) (fun μ => μ a = some (.dct o kvs)) μ1
def pairC (x : D × D) : D := .tup [x.1, x.2]
def dcD (g : RG) (t : RT) (fk fv : RX) (C : MH → Prop) (ρ : EV) (p : Addr) : List L3.D → MH → (MH → Prop) → Prop
  | [], μ, R => C μ ∧ R μ
  | d :: r, μ, R => C μ ∧ g d ρ μ fun ρ1 μ1 => t ρ1 μ1 fun b μ2 => if b = true then fk ρ1 μ2 fun y μ3 => fv ρ1 μ3 fun z μ4 => ∃ o kvs k, μ4 p = some (.dct o kvs) ∧ keyD y = some k ∧ kvs.length < sizeLine ∧ ∀ o', dcD g t fk fv C ρ p r (updM μ4 p (.dct o' (putC kvs y k z))) R
    else dcD g t fk fv C ρ p r μ2 R
theorem dcD_c {g : RG} {t : RT} {fk fv : RX} {C : MH → Prop} {ρ : EV} {p : Addr} {ds : List L3.D} {μ : MH} {R : MH → Prop} (h : dcD g t fk fv C ρ p ds μ R) : C μ := by
  cases ds with
  | nil => exact h.1
  | cons _ _ => exact h.1
/-- {k: v for ..} -/
def rDc (fi : RI) (g : RG) (t : RT) (fk fv : RX) (vs : List Nat) : RX := fun ρ μ R => fi ρ μ fun ds C μ1 => ∀ p, μ1 p = none → dcD g t fk fv C (rms ρ vs) p ds (updM μ1 p (.dct emptyDo [])) fun μ2 => R (.ref p) μ2

section
variable {X : Cx} {n : Nat} {a b o i e f value tg : Expr} {fa fb fo fi fe ff fv : RX} {ga : RA} {p pos pos' apos cpos : Pos}
theorem de_cdef (hr : Room n X.A) (ho : DE X o fo) (he : DE X e fe) (hf : DE X f ff) (hbase : attributeBase o "setdefault" X.env (eval o X.env) = eval o X.env := by rfl)
    (hfew : ((backTo cpos (starEach [e, f] X.env)).all (fun x => !x.1) && (backToKw cpos (keywordEach [] X.env)).all (fun x => x.1.isSome)
    && decide (([e, f] : List Expr).length + ([] : List Keyword).length + (if ([] : List Keyword).isEmpty then 0 else 1) < 30)) = true := by rfl)
    (hline : (apos.endLine == cpos.line) = true := by rfl) (htr : backTo cpos (starEach [e, f] X.env) = [(false, eval e X.env), (false, eval f X.env)] := by rfl) :
    DE X (.Call (.Attribute o "setdefault" apos) [e, f] [] cpos) (rCDef fo fe ff) := pe_imp (pe_cdef (by have := hr.un; omega) ho he hf ⟨hbase, hfew, hline, htr⟩) fun σ H Q ⟨S, μ, ρ, R, k, e, h, post⟩ => by
  refine ⟨S, μ, ρ, _, k, e, h, fun S1 μ1 H1 x dx k1 s1 r1 h1 => ?_⟩
  obtain ⟨a, o0, kvs0, rfl, hm0, h1⟩ := h1
  cases r1.toRef
  obtain ⟨_, vs0, hh0, _⟩ := hdct_of k1 hm0
  refine ⟨a, o0, vs0, rfl, hh0.1, S1, μ1, ρ, _, k1, e.mono s1.same, h1, fun S2 μ2 H2 y dy k2 s2 r2 h2 => ?_⟩
  refine ⟨S2, μ2, ρ, _, k2, (e.mono s1.same).mono s2.same, h2, fun S3 μ3 H3 v dv k3 s3 r3 h3 => ?_⟩
  obtain ⟨o, kvs, n, hm, hk, hl, q1, q2⟩ := h3
  obtain ⟨hS, vs, hh, rt⟩ := hdct_of k3 hm
  have r2' := r2.mono s3.same
  obtain ⟨b, rfl, kv⟩ := dct_key k3 r2' hk
  have st := (s1.trans s2).trans s3
  refine ⟨b, o, vs, n, rfl, hh, kv, by rw [rt_len rt]; exact hl, fun p hp => ?_, fun hn o' => ?_⟩
  · rcases rt_at rt n with ⟨e1, _⟩ | ⟨c, v', d', e1, e2, rv⟩
    · rw [hp] at e1; cases e1
    · rw [hp] at e1; cases e1
      exact post _ _ _ _ _ k3 st rv (q1 d' e2)
  · rcases rt_at rt n with ⟨_, e2⟩ | ⟨c, v', d', e1, e2, rv⟩
    · obtain ⟨k4, s4⟩ := k3.dput (o' := o') hm rt r2' hk r3
      exact post _ _ _ _ _ k4 (st.trans s4) r3 (q2 e2 o')
    · rw [hn] at e1; cases e1
theorem de_cnew : DE X (.Dict [] [] pos) rCNew := pe_imp pe_cnew fun σ H Q ⟨S, μ, ρ, R, k, e, h, post⟩ => fun p hp => by
  obtain ⟨hS, hM⟩ := k.free hp
  have k2 : OK X.K S (updM μ p (.dct emptyDo [])) (upd H p (DctO p emptyDo [])) := k.put hS ⟨[], upd_same, .nil⟩
  refine post _ _ _ _ _ k2 ⟨fun _ _ h => h, fun _ _ h => .inl h, fun b o e _ _ => ?_, fun b m e => ?_⟩ (.ref p) (h p hM)
  · rw [upd_ne (ne_of_none e hp)]; exact e
  · by_cases q : b = p
    · exact .inl (q ▸ free_none hp)
    · rw [updM_ne q] at e; exact .inr ⟨m, e⟩
/-! ### walks -/
theorem itok_items {K : PySem.W.Frag} {S : Hp} {a : Addr} {o : Obj} {kvs : List (D × D)} : ItOk K S (ItCi a o) (kvs.map pairC) (fun μ => μ a = some (.dct o kvs)) := fun S1 μ1 H1 k1 e1 c1 i => by
  obtain ⟨hS, vs, hh, rt⟩ := hdct_of k1 c1
  refine ⟨fun d hd => ?_, fun hi => ⟨vs, hh.1, by rw [rt_len rt]; rw [List.length_map] at hi; exact Nat.le_of_eq hi.symm⟩⟩
  rw [List.getElem?_map] at hd
  obtain ⟨q, hq, rfl⟩ := Option.map_eq_some_iff.mp hd
  obtain ⟨p, hp, r1, r2⟩ := rt_get rt hq
  refine ⟨⟨vs, p, hh.1, hp⟩, fun x H' ⟨T, x', y', ex, hT, eH, fx⟩ => ?_⟩
  obtain ⟨p', hp', rfl, rfl⟩ := fx vs hh.1
  rw [hp] at hp'
  cases hp'
  subst ex eH
  obtain ⟨k2, s2⟩ := k1.alloc (o := .tup [entK p, entV p]) hT
  exact ⟨_, k2, s2, .tup (.inl (.inl upd_same)) (.cons (r1.mono s2.same) (.cons (r2.mono s2.same) .nil))⟩
theorem di_citems {elts : List Expr} {kk : Nat} {tpos : Pos} (h : DE X e fe) (hbase : attributeBase e "items" X.env (eval e X.env) = eval e X.env := by rfl) (hline : (apos.endLine == cpos.line) = true := by rfl) :
    DI X (.Tuple elts kk tpos) (.Call (.Attribute e "items" apos) [] [] cpos) (rIDct pairC fe) := pi_imp (pi_itemsC h hbase hline) fun σ H R ⟨S, μ, ρ, RR, k, e, h, post⟩ => by
  refine ⟨S, μ, ρ, _, k, e, h, fun S1 μ1 H1 x dx k1 s1 r1 ⟨a, o, kvs, ex, hm, q⟩ => ?_⟩
  subst ex
  cases r1.toRef
  obtain ⟨hS, vs, hh, rt⟩ := hdct_of k1 hm
  exact ⟨a, o, vs, rfl, hh.1, post S1 μ1 H1 _ _ _ k1 s1 itok_items q⟩
end
/-! ### comprehensions -/
section
variable {X : Cx}
theorem up_dc {K : PySem.W.Frag} {fi : RI} {g : RG} {t : RT} {fk fv : RX} {vs : List Nat} : ∀ σ H Q, up K (rDc fi g t fk fv vs) σ H Q → tDcC K (upI K fi) (upG K g vs) (upT K t) (up K fk) (up K fv) vs σ H Q := fun σ H Q ⟨S, μ, ρ, R, k, e, h, post⟩ => by
  refine ⟨S, μ, ρ, _, k, e, h, fun S1 μ1 H1 J ds C k1 s1 it q1 D hD => ?_⟩
  obtain ⟨hSD, hMD⟩ := k1.free hD
  have q1 := q1 D hMD
  have k0 : OK K S1 (updM μ1 D (.dct emptyDo [])) (upd H1 D (DctO D emptyDo [])) := k1.put hSD ⟨[], upd_same, .nil⟩
  have s0 : Stp S1 μ1 H1 S1 (updM μ1 D (.dct emptyDo [])) (upd H1 D (DctO D emptyDo [])) := by
    refine ⟨fun _ _ h => h, fun _ _ h => .inl h, fun b o e _ _ => ?_, fun b m e => ?_⟩
    · rw [upd_ne (ne_of_none e hD)]; exact e
    · by_cases q : b = D
      · exact .inl (q ▸ free_none hD)
      · rw [updM_ne q] at e; exact .inr ⟨m, e⟩
  refine ⟨fun i m H' => m = ds.length - i ∧ i ≤ ds.length ∧ ∃ S' μ', OK K S' μ' H' ∧ Stp S1 μ1 H1 S' μ' H' ∧ dcD g t fk fv C (rms ρ vs) D (ds.drop i) μ' (fun μ2 => R (.ref D) μ2),
    ⟨_, rfl, Nat.zero_le _, S1, _, k0, s0, by rw [List.drop_zero]; exact q1⟩, ?_⟩
  rintro i m H2 ⟨rfl, hi, S2, μ2, k2, s2, q2⟩
  have io := it S2 μ2 H2 k2 s2.same (dcD_c q2) i
  by_cases hlt : i < ds.length
  · have hd : ds[i]? = some ds[i] := List.getElem?_eq_getElem hlt
    have ed : ds.drop i = ds[i] :: ds.drop (i + 1) := List.drop_eq_getElem_cons hlt
    rw [ed] at q2
    obtain ⟨hgo, hy⟩ := io.1 _ hd
    refine .inr ⟨hgo, fun H' => ∃ S' μ', OK K S' μ' H' ∧ Stp S1 μ1 H1 S' μ' H' ∧ dcD g t fk fv C (rms ρ vs) D (ds.drop (i + 1)) μ' (fun μ2 => R (.ref D) μ2), fun H' z => ⟨ds.length - (i + 1), by omega, rfl, hlt, z⟩, fun x H' y => ?_⟩
    obtain ⟨S3, k3, s3, r3⟩ := hy x H' y
    have e3 : RepE K S3 (wipe σ vs) (rms ρ vs) := (((e.mono s1.same).mono s2.same).mono s3.same).wipe vs
    refine ⟨S3, μ2, rms ρ vs, _, _, k3, e3, r3, q2.2, fun S4 μ4 H4 σ4 ρ4 k4 s4 e4 w4 q4 => ?_⟩
    have s24 := s3.trans s4
    refine ⟨w4.trans (wipe_idem vs σ), S4, μ4, ρ4, _, k4, e4, q4, fun S5 μ5 H5 b5 k5 s5 q5 => ?_⟩
    have s25 := s24.trans s5
    cases b5 with
    | false =>
      rw [if_neg Bool.false_ne_true] at q5
      refine iteF ?_
      exact ⟨S5, μ5, k5, s2.trans s25, q5⟩
    | true =>
      rw [if_pos rfl] at q5
      refine iteT ?_
      refine ⟨S5, μ5, ρ4, _, k5, e4.mono s5.same, q5, fun S6 μ6 H6 v6 d6 k6 s6 r6 q6 => ?_⟩
      refine ⟨S6, μ6, ρ4, _, k6, (e4.mono s5.same).mono s6.same, q6, fun S7 μ7 H7 v7 d7 k7 s7 r7 q7 => ?_⟩
      obtain ⟨o, kvs, n, hm, hk, hl, q7⟩ := q7
      obtain ⟨hS, ws, hh, rt⟩ := hdct_of k7 hm
      have r6' := r6.mono s7.same
      obtain ⟨b, rfl, kv⟩ := dct_key k7 r6' hk
      refine ⟨o, ws, b, n, rfl, hh, kv, by rw [rt_len rt]; exact hl, fun o' => ?_⟩
      obtain ⟨k8, s8⟩ := k7.dput (o' := o') hm rt r6' hk r7
      exact ⟨S7, _, k8, s2.trans (((s25.trans s6).trans s7).trans s8), q7 o'⟩
  · have ei : i = ds.length := by omega
    subst ei
    rw [List.drop_length] at q2
    exact .inl ⟨io.2 rfl, post _ _ _ _ _ k2 (s1.trans s2) (.ref D) q2.2⟩
variable {n : Nat} {kx vx tg iter : Expr} {ifs : List Expr} {scope : Scope} {pos : Pos} {fi : RI} {g : RG} {t : RT} {fk fv : RX}
theorem de_dc (hr : Room n X.A) (own : List (Str × Nat)) (hN : X.N.Nodup) (hi : DI X tg iter fi) (ok : blkC X.N X.env.scope scope own = true)
    (hg : ∀ (s : Shared) (H : Hp) (C : Addr) (cl : List (Str × Addr)) (fp : List Addr), DG (X.blk s H scope (compEnvC scope cl C X.env) fp) tg g (own.map (·.2))) (ht : ∀ (s : Shared) (H : Hp) (C : Addr) (cl : List (Str × Addr)) (fp : List Addr), DTs (X.blk s H scope (compEnvC scope cl C X.env) fp) ifs t)
    (hk : ∀ (s : Shared) (H : Hp) (C : Addr) (cl : List (Str × Addr)) (fp : List Addr), DE (X.blk s H scope (compEnvC scope cl C X.env) fp) kx fk)
    (he : ∀ (s : Shared) (H : Hp) (C : Addr) (cl : List (Str × Addr)) (fp : List Addr), DE (X.blk s H scope (compEnvC scope cl C X.env) fp) vx fv) (hc : X.calm = true := by rfl) (hs : ∀ x, foldedSetIterable iter X.env x = pure x := by intro _; rfl) :
    DE X (.DictComp kx vx [⟨tg, iter, ifs, 0⟩] scope pos) (rDc fi g t fk fv (own.map (·.2))) := pe_imp (pe_dcC (by have := hr.un; omega) hc hN hi (blkOk_by ok) hg ht hk he hs) up_dc
end
end L3

/-! ## L5e -/
set_option Elab.async false
set_option linter.all false
set_option maxRecDepth 100000
set_option maxHeartbeats 4000000
/-! The order of nested tuples: <, <=, min, max, sorted. -/
namespace L3
open PySem PySem.Spec PyProof.Rows L2

/-! ### operators -/
/-- what may be compared by order: alike, not too deep -/
def OrdP (d e : PyData) : Prop := PySem.W.alike d e = true ∧ d ≠ .none ∧ d.depth ≤ 60
def rOrd (K : PySem.W.Frag) (f : PyData → PyData → Bool) : R2 := fun x y H Q => ∃ d e, Dp K H x d ∧ Dp K H y e ∧ OrdP d e ∧ Q (.bl (f d e)) H
section
variable {X : Cx}
theorem ord_room {A : Around} {d e : PyData} (hu : A.units + 65 < cLine) (h : OrdP d e) : A.units + min d.depth e.depth < cLine := by
  have h1 := h.2.2
  have h2 := Nat.min_le_left d.depth e.depth
  omega
theorem op_leD (hu : X.A.units + 65 < cLine) : OpR X (compareOp .LtE) (rOrd X.K fun d e => !PySem.W.dataLt e d) := by
  intro pins s σ H x y v u Q I rx ry ⟨d, e, hd, he, o, q⟩
  obtain ⟨as, r1⟩ := Dp.reads I d x v hd rx
  obtain ⟨bs, r2⟩ := Dp.reads I e y u he ry
  exact PySem.W.le_data r1 r2 o.1 o.2.1 (ord_room hu o) ⟨.bl _, H, I, rfl, q⟩
end
/-- as data -/
def dlt (a b : D) : Bool := PySem.W.dataLt (toPy a) (toPy b)
def dle (a b : D) : Bool := !dlt b a
def OrdD (a b : D) : Prop := pureN 20 a = true ∧ pureN 20 b = true ∧ PySem.W.alike (toPy a) (toPy b) = true ∧ toPy a ≠ .none
def gOrd (f : D → D → Bool) : G2 := fun x y μ R => OrdD (res μ x) (res μ y) ∧ R (.bl (f (res μ x) (res μ y))) μ
abbrev gLeD : G2 := gOrd dle
theorem pure_depth {n : Nat} {d : D} (h : pureN n d = true) : (toPy d).depth ≤ n := (pure_laid n d h).2
theorem ordP_of {a b : D} (h : OrdD a b) : OrdP (toPy a) (toPy b) := ⟨h.2.2.1, h.2.2.2, Nat.le_trans (pure_depth h.1) (by decide)⟩
theorem snd_ord {K : PySem.W.Frag} {f : PyData → PyData → Bool} {g : D → D → Bool} (e : ∀ a b, g a b = f (toPy a) (toPy b)) : Snd2 K (rOrd K f) (gOrd g) := by
  intro S μ H x y dx dy R Q k rx ry ⟨o, q⟩ post
  refine ⟨_, _, res_dp k rx o.1, res_dp k ry o.2.1, ordP_of o, ?_⟩
  rw [← e]
  exact post S μ H _ _ k .refl (.bl _) q
section
variable {X : Cx} {n : Nat} {a b c : Expr} {fa fb fc : RX} {pos : Pos}
theorem dt_leD (hr : Room n X.A) (ha : DE X a fa) (hb : DE X b fb) : DT X (.Compare a [.LtE] [b] pos) (rB (rOp gLeD fa fb)) := dt_cmp (op_leD hr.u65) (snd_ord fun _ _ => rfl) ha hb (nomark _)
theorem de_chain_leD (hr : Room n X.A) (ha : DE X a fa) (hb : DE X b fb) (hc : DE X c fc) (hm : lastMarks [.LtE, .LtE] [b, c] = false := by with_unfolding_all rfl) : DE X (.Compare a [.LtE, .LtE] [b, c] pos) (rChain gLeD gLeD fa fb fc) :=
  de_chain (op_leD hr.u65) (op_leD hr.u65) (snd_ord fun _ _ => rfl) (snd_ord fun _ _ => rfl) ha hb hc hm
end

/-! ### min, max of two -/
section
variable {prog : Program} {w : World} {A : Around} {E : Value → Shared → Prop} {s : Shared} {Q : Value → Shared → Prop} {a b : Value} {da db : PyData} {as bs : List Addr}
theorem max_two_data (hh : A.handled = none) (ra : Reads s.heap a da as) (rb : Reads s.heap b db bs) (al : PySem.W.AlikeAll [da, db]) (hu : A.units + 1 + PyData.depthAll [da, db] < cLine)
    (h : ∀ h' tk, (∀ c o, s.heap.get? c = some o → h'.get? c = some o) → Q (if PySem.W.dataLt da db = true then b else a) { s with heap := h', toks := tk }) : wpAny (model prog w) A (call (.builtin "max") [a, b]) Q E s := by
  have hname : (toString "max" ++ toString ".loop" : String) = "max.loop" := by decide
  have hT : (s.heap.push { cls := .type "tuple", data := .seq #[a, b] }).IsTuple s.heap.objs.size #[a, b] := ⟨_, Heap.get?_push_size _ rfl, rfl, 0, rfl⟩
  have up : ∀ c o, s.heap.get? c = some o → (s.heap.push { cls := .type "tuple", data := .seq #[a, b] }).get? c = some o := fun c o e => Heap.get?_push_of_some _ e
  refine call_function_tree F.kind_max F.plain_max F.entry_max (F.args_max2 _ _) ?_
  show wpAny _ A.in1 (Builtin.Builtins.bindParams "max" ["key", "default"] 0 ⟨[], []⟩ >>= _) _ _ s
  refine wpAny_bind (wpAny_of_eq (show Builtin.Builtins.bindParams "max" ["key", "default"] 0 ⟨[], []⟩ = pure [none, none] from rfl) ?_)
  show wpAny _ A.in1 (newTuple [a, b] >>= _) _ _ s
  refine wpAny_bind (wpAny_newObj_type ?_)
  refine wpAny_bind (PySem.W.iter_tupleW (A := A.in1) (s := { s with heap := s.heap.push { cls := .type "tuple", data := .seq #[a, b] } }) hh hT fun s₂ e W st hfp hw hk => ?_)
  refine wpAny_bind (wpAny_newObj_type ?_)
  have hSf : s₂.heap.objs.size ∉ [(s.heap.push { cls := .type "tuple", data := .seq #[a, b] }).objs.size, s.heap.objs.size] := fun hm => Nat.lt_irrefl _ (hfp _ hm)
  have rr : ReadsAll (s.heap.push { cls := .type "tuple", data := .seq #[a, b] }) (#[a, b] : Array Value).toList [da, db] (as ++ (bs ++ [])) := .cons (PyProof.Rows.Reads.keeps up ra) (.cons (PyProof.Rows.Reads.keeps up rb) .nil)
  rw [hname]
  refine wpAny_pure ⟨plainId_quiet F.plain_max_loop _, codeAny_max_loop_firstH W (s.heap.push { cls := .type "tuple", data := .seq #[a, b] }) hw _ (PySem.W.cmpIn_gt (s := { s with heap := s.heap.push { cls := .type "tuple", data := .seq #[a, b] } }) (A := A.in1) rr al (by show A.units + 1 + _ < _; exact hu)) s₂.heap.objs.size hSf (fresh_in hk) _ (by simp) (fun b o e => Heap.get?_push_of_some _ (hk b o e)) (W.frame 0 s₂ _ s₂.toks st (Nat.le_refl _) fun b _ o e => Heap.get?_push_of_some _ e) (Heap.get?_push_size _ rfl) fun v s' hP hm => ?_⟩
  have hm2 := Moved.drop_new (tk := s₂.toks) hm (Nat.le_refl _)
  obtain ⟨h', tk, rfl, hk'⟩ := PySem.W.moved_old (s := { s with heap := s.heap.push { cls := .type "tuple", data := .seq #[a, b] } }) e rfl hm2
  have hv : v = if PySem.W.dataLt da db = true then b else a := by
    cases hc : PySem.W.dataLt da db <;> simp [argBest, hc] at hP <;> simp [hP]
  rw [hv]
  exact h h' tk fun c o e => hk' c o (up c o e)
theorem min_two_data (hh : A.handled = none) (ra : Reads s.heap a da as) (rb : Reads s.heap b db bs) (al : PySem.W.AlikeAll [da, db]) (hu : A.units + 1 + PyData.depthAll [da, db] < cLine)
    (h : ∀ h' tk, (∀ c o, s.heap.get? c = some o → h'.get? c = some o) → Q (if PySem.W.dataLt db da = true then b else a) { s with heap := h', toks := tk }) : wpAny (model prog w) A (call (.builtin "min") [a, b]) Q E s := by
  have hname : (toString "min" ++ toString ".loop" : String) = "min.loop" := by decide
  have hT : (s.heap.push { cls := .type "tuple", data := .seq #[a, b] }).IsTuple s.heap.objs.size #[a, b] := ⟨_, Heap.get?_push_size _ rfl, rfl, 0, rfl⟩
  have up : ∀ c o, s.heap.get? c = some o → (s.heap.push { cls := .type "tuple", data := .seq #[a, b] }).get? c = some o := fun c o e => Heap.get?_push_of_some _ e
  refine call_function_tree F.kind_min F.plain_min F.entry_min (F.args_min2 _ _) ?_
  show wpAny _ A.in1 (Builtin.Builtins.bindParams "min" ["key", "default"] 0 ⟨[], []⟩ >>= _) _ _ s
  refine wpAny_bind (wpAny_of_eq (show Builtin.Builtins.bindParams "min" ["key", "default"] 0 ⟨[], []⟩ = pure [none, none] from rfl) ?_)
  show wpAny _ A.in1 (newTuple [a, b] >>= _) _ _ s
  refine wpAny_bind (wpAny_newObj_type ?_)
  refine wpAny_bind (PySem.W.iter_tupleW (A := A.in1) (s := { s with heap := s.heap.push { cls := .type "tuple", data := .seq #[a, b] } }) hh hT fun s₂ e W st hfp hw hk => ?_)
  refine wpAny_bind (wpAny_newObj_type ?_)
  have hSf : s₂.heap.objs.size ∉ [(s.heap.push { cls := .type "tuple", data := .seq #[a, b] }).objs.size, s.heap.objs.size] := fun hm => Nat.lt_irrefl _ (hfp _ hm)
  have rr : ReadsAll (s.heap.push { cls := .type "tuple", data := .seq #[a, b] }) (#[a, b] : Array Value).toList [da, db] (as ++ (bs ++ [])) := .cons (PyProof.Rows.Reads.keeps up ra) (.cons (PyProof.Rows.Reads.keeps up rb) .nil)
  rw [hname]
  refine wpAny_pure ⟨plainId_quiet F.plain_min_loop _, codeAny_min_loop_firstH W (s.heap.push { cls := .type "tuple", data := .seq #[a, b] }) hw _ (PySem.W.cmpIn_lt (s := { s with heap := s.heap.push { cls := .type "tuple", data := .seq #[a, b] } }) (A := A.in1) rr al (by show A.units + 1 + _ < _; exact hu)) s₂.heap.objs.size hSf (fresh_in hk) _ (by simp) (fun b o e => Heap.get?_push_of_some _ (hk b o e)) (W.frame 0 s₂ _ s₂.toks st (Nat.le_refl _) fun b _ o e => Heap.get?_push_of_some _ e) (Heap.get?_push_size _ rfl) fun v s' hP hm => ?_⟩
  have hm2 := Moved.drop_new (tk := s₂.toks) hm (Nat.le_refl _)
  obtain ⟨h', tk, rfl, hk'⟩ := PySem.W.moved_old (s := { s with heap := s.heap.push { cls := .type "tuple", data := .seq #[a, b] } }) e rfl hm2
  have hv : v = if PySem.W.dataLt db da = true then b else a := by
    cases hc : PySem.W.dataLt db da <;> simp [argBest, hc] at hP <;> simp [hP]
  rw [hv]
  exact h h' tk fun c o e => hk' c o (up c o e)
end
section
variable {X : Cx}
def rBst (K : PySem.W.Frag) (f : PyData → PyData → Bool) : List V → Hp → VK → Prop := fun xs H Q => ∃ x y d e, xs = [x, y] ∧ Dp K H x d ∧ Dp K H y e ∧ PySem.W.AlikeAll [d, e] ∧ d.depth ≤ 60 ∧ e.depth ≤ 60 ∧ Q (if f d e = true then y else x) H
theorem call_maxD (hc : X.calm = true) (hu : X.A.units + 65 < cLine) : CallR X (.builtin "max") (rBst X.K fun d e => PySem.W.dataLt d e) := by
  intro pins s σ H xs us Q I r ⟨x, y, d, e, ex, hd, he, al, l1, l2, q⟩
  subst ex
  obtain ⟨v, u, rfl, rx, ry⟩ := vals2 r
  obtain ⟨as, r1⟩ := Dp.reads I d x v hd rx
  obtain ⟨bs, r2⟩ := Dp.reads I e y u he ry
  refine max_two_data (I.ok.hd hc) r1 r2 al (by show X.A.units + 1 + max d.depth (max e.depth 0) < cLine; omega) fun h' tk k => ?_
  refine ⟨_, H, I.kept k, ?_, q⟩
  by_cases c : PySem.W.dataLt d e = true
  · rw [if_pos c, if_pos c]; exact ry
  · rw [if_neg c, if_neg c]; exact rx
theorem call_minD (hc : X.calm = true) (hu : X.A.units + 65 < cLine) : CallR X (.builtin "min") (rBst X.K fun d e => PySem.W.dataLt e d) := by
  intro pins s σ H xs us Q I r ⟨x, y, d, e, ex, hd, he, al, l1, l2, q⟩
  subst ex
  obtain ⟨v, u, rfl, rx, ry⟩ := vals2 r
  obtain ⟨as, r1⟩ := Dp.reads I d x v hd rx
  obtain ⟨bs, r2⟩ := Dp.reads I e y u he ry
  refine min_two_data (I.ok.hd hc) r1 r2 al (by show X.A.units + 1 + max d.depth (max e.depth 0) < cLine; omega) fun h' tk k => ?_
  refine ⟨_, H, I.kept k, ?_, q⟩
  by_cases c : PySem.W.dataLt e d = true
  · rw [if_pos c, if_pos c]; exact ry
  · rw [if_neg c, if_neg c]; exact rx
/-- all pairs of the data may be compared -/
def OrdAll (ds : List D) : Prop := (∀ d ∈ ds, pureN 20 d = true ∧ toPy d ≠ .none) ∧ ∀ d ∈ ds, ∀ e ∈ ds, PySem.W.alike (toPy d) (toPy e) = true
def gBst (f : D → D → Bool) : GN := fun ds μ R => ∃ x y, ds = [x, y] ∧ OrdAll [x, y] ∧ R (if f x y = true then y else x) μ
abbrev gMaxD : GN := gBst dlt
abbrev gMinD : GN := gBst fun a b => dlt b a
theorem res_pure {μ : MH} {n : Nat} {d : D} (h : pureN n d = true) : res μ d = d := by
  cases d with
  | ref a => cases n <;> cases h
  | _ => rfl
theorem snd_bst {K : PySem.W.Frag} {f : PyData → PyData → Bool} {g : D → D → Bool} (e : ∀ a b, g a b = f (toPy a) (toPy b)) : SndN K (rBst K f) (gBst g) := by
  intro S μ H xs dxs R Q k r ⟨x, y, ex, o, q⟩ post
  subst ex
  obtain ⟨v, u, rfl, r1, r2⟩ := reps2 r
  have p1 := o.1 x (by simp)
  have p2 := o.1 y (by simp)
  have d1 := res_dp (n := 20) (μ := μ) k r1 (by rw [res_pure p1.1]; exact p1.1)
  have d2 := res_dp (n := 20) (μ := μ) k r2 (by rw [res_pure p2.1]; exact p2.1)
  rw [res_pure p1.1] at d1
  rw [res_pure p2.1] at d2
  refine ⟨v, u, _, _, rfl, d1, d2, ⟨fun a ha b hb => ?_, fun a ha => ?_⟩, Nat.le_trans (pure_depth p1.1) (by decide), Nat.le_trans (pure_depth p2.1) (by decide), ?_⟩
  · have m : ∀ a ∈ [toPy x, toPy y], ∃ d ∈ [x, y], a = toPy d := fun a ha => by
      rcases List.mem_cons.mp ha with e | ha
      · exact ⟨x, by simp, e⟩
      · exact ⟨y, by simp, by simpa using ha⟩
    obtain ⟨d, hd, rfl⟩ := m a ha
    obtain ⟨d', hd', rfl⟩ := m b hb
    exact o.2 d hd d' hd'
  · rcases List.mem_cons.mp ha with e | ha
    · rw [e]; exact p1.2
    · have e : a = toPy y := by simpa using ha
      rw [e]; exact p2.2
  · rw [← e]
    by_cases c : g x y = true
    · rw [if_pos c] at q ⊢; exact post S μ H _ _ k .refl r2 q
    · rw [if_neg c] at q ⊢; exact post S μ H _ _ k .refl r1 q
theorem de_maxD {n : Nat} {e e2 : Expr} {fa : RA} {p pos : Pos} (hr : Room n X.A) (hg : Gl X "max") (hm : X.mg "max" = none) (ha : DA X [e, e2] fa) (hc : X.calm = true := by rfl) (he : starEach [e, e2] X.env = (false, eval e X.env) :: starEach [e2] X.env := by rfl) (hpl : (backTo pos (starEach [e2] X.env)).any (·.1) = false := by rfl) :
    DE X (.Call (.Name "max" p) [e, e2] [] pos) (rCl gMaxD fa) := de_callB (call_maxD hc hr.u65) (snd_bst fun _ _ => rfl) hg hm (by decide +kernel) ha (he := he) (hpl := hpl)
theorem de_minD {n : Nat} {e e2 : Expr} {fa : RA} {p pos : Pos} (hr : Room n X.A) (hg : Gl X "min") (hm : X.mg "min" = none) (ha : DA X [e, e2] fa) (hc : X.calm = true := by rfl) (he : starEach [e, e2] X.env = (false, eval e X.env) :: starEach [e2] X.env := by rfl) (hpl : (backTo pos (starEach [e2] X.env)).any (·.1) = false := by rfl) :
    DE X (.Call (.Name "min" p) [e, e2] [] pos) (rCl gMinD fa) := de_callB (call_minD hc hr.u65) (snd_bst fun _ _ => rfl) hg hm (by decide +kernel) ha (he := he) (hpl := hpl)
end
end L3

/-! ## L5f -/
set_option Elab.async false
set_option linter.all false
set_option maxRecDepth 100000
set_option maxHeartbeats 4000000
/-! sorted(list), sorted(dict): by the order of nested tuples. -/
namespace L3
open PySem PySem.Spec PyProof.Rows L2
abbrev VD := V × D
/-- the value at u stands for p -/
def StF (K : PySem.W.Frag) (S : Hp) (u : Value) (p : VD) : Prop := RelV p.1 u ∧ Rep K S p.1 p.2
abbrev encP (p : VD) : PyData := toPy p.2
theorem each_of {K : PySem.W.Frag} {S : Hp} : ∀ {vs : List V} {ds : List D} {us : List Value}, Reps K S vs ds → Vals vs us → PySem.W.EachIs (StF K S) us (vs.zip ds)
  | _, _, _, .nil, r => by cases r; exact .nil
  | _, _, _, .cons q t, r => by
    cases r with
    | cons r1 r2 => exact .cons ⟨r1, q⟩ (each_of t r2)
theorem each_back {K : PySem.W.Frag} {S : Hp} {us : List Value} {ps : List VD} (h : PySem.W.EachIs (StF K S) us ps) : Vals (ps.map (·.1)) us ∧ Reps K S (ps.map (·.1)) (ps.map (·.2)) := by
  induction h with
  | nil => exact ⟨.nil, .nil⟩
  | cons r _ ih => exact ⟨.cons r.1 ih.1, .cons r.2 ih.2⟩
theorem zip_snd : ∀ {vs : List V} {ds : List D}, vs.length = ds.length → (vs.zip ds).map (·.2) = ds
  | [], [], _ => rfl
  | v :: vs, d :: ds, h => by
    rw [List.zip_cons_cons, List.map_cons, zip_snd (by simpa using h)]
  | [], _ :: _, h => by cases h
  | _ :: _, [], h => by cases h
theorem zip_mem {vs : List V} {ds : List D} {p : VD} (h : p ∈ vs.zip ds) : p.2 ∈ ds := (List.of_mem_zip h).2
theorem sorted_snd (ps : List VD) : (ps.mergeSort (PySem.W.dataLe false encP)).map (·.2) = (ps.map (·.2)).mergeSort dle := by
  refine List.map_mergeSort fun a _ b _ => ?_
  rw [PySem.W.dataLe_eq]
  rfl
theorem sortable_of {ds : List D} (h : ∀ d ∈ ds, ∃ x r, d = .tup (x :: r)) {ps : List VD} (e : ∀ p ∈ ps, p.2 ∈ ds) : PySem.W.Sortable (ps.map encP) := .inl fun d hd => by
  obtain ⟨p, hp, rfl⟩ := List.mem_map.mp hd
  obtain ⟨x, r, e2⟩ := h p.2 (e p hp)
  refine ⟨toPy x, toPys r, ?_⟩
  show toPy p.2 = _
  rw [e2, toPy, toPys]
/-- what sorted asks of the data -/
def SrtP (ds : List D) : Prop := OrdAll ds ∧ (∀ d ∈ ds, ∃ x r, d = .tup (x :: r)) ∧ ds.length ≤ sizeLine
section
variable {X : Cx} {pins : List (Addr × Obj)} {σ : L2.St} {H S : Hp} {s : Shared} {vs : List V} {ds : List D} {us : List Value}
theorem reads_of (I : Inv X pins σ H s) {μ : MH} (k : OK X.K S μ H) : ∀ {vs : List V} {ds : List D} {us : List Value}, Reps X.K S vs ds → Vals vs us → (∀ d ∈ ds, pureN 20 d = true) → PySem.W.EachIs (fun u p => ∃ as, Reads s.heap u (encP p) as) us (vs.zip ds)
  | _, _, _, .nil, r, _ => by cases r; exact .nil
  | _, _, _, @Reps.cons _ _ v vs d ds q t, r, h => by
    cases r with
    | cons r1 r2 =>
      have p := h d (List.mem_cons_self ..)
      have dp := res_dp (n := 20) (μ := μ) k q (by rw [res_pure p]; exact p)
      rw [res_pure p] at dp
      exact .cons (Dp.reads I _ _ _ dp r1) (reads_of I k t r2 fun d hd => h d (List.mem_cons_of_mem _ hd))
theorem zip_alike (h : OrdAll ds) : PySem.W.AllAlike ((vs.zip ds).map encP) := fun d hd d' hd' => by
  obtain ⟨p, hp, rfl⟩ := List.mem_map.mp hd
  obtain ⟨q, hq, rfl⟩ := List.mem_map.mp hd'
  exact h.2 _ (zip_mem hp) _ (zip_mem hq)
/-- the list at a holds the data ds, with the objects of S -/
def rSrt (X : Cx) : List V → Hp → VK → Prop := fun xs H Q => ∃ (S : Hp) (μ : MH) (a : Addr) (vs : List V) (ds : List D), xs = [V.ref a] ∧ OK X.K S μ H ∧ SqL X.K H a vs ∧ Reps X.K S vs ds ∧ SrtP ds ∧
  ∀ p ws, H p = none → Reps X.K S ws (ds.mergeSort dle) → Q (.ref p) (upd H p (.lst ws))
theorem call_sortedD (hu : X.A.units + 70 < cLine) : CallR X (.builtin "sorted") (rSrt X) := by
  intro pins s σ H xs us Q I r h
  obtain ⟨S, μ, a, vs, ds, rfl, k, hl, rp, sp, q⟩ := h
  obtain ⟨u, rfl, rx⟩ := r.one
  cases rx
  obtain ⟨its, rv, p, hz⟩ := I.list hl
  have hlen : (vs.zip ds).length = ds.length := by rw [List.length_zip, rp.length]; omega
  refine PySem.W.sorted_data (vs := its) p.isList (each_of rp rv) (reads_of I k rp rv fun d hd => (sp.1.1 d hd).1) (zip_alike sp.1) (sortable_of sp.2.1 fun p hp => zip_mem hp) (by rw [hlen]; exact sp.2.2) (fun b hb => ?_) fun out hout e => ?_
  · have := pure_depth ((sp.1.1 _ (zip_mem hb)).1)
    show X.A.units + 2 + (toPy b.2).depth < cLine
    omega
  · obtain ⟨b1, b2⟩ := each_back e
    rw [sorted_snd, zip_snd rp.length] at b2
    obtain ⟨c, hc⟩ := sortedAll_at s.heap its out.toArray
    have kp : ∀ b o, s.heap.get? b = some o → (sortedAll s.heap its out.toArray).get? b = some o := fun b o e => sortedAll_old e
    refine ⟨.ref (s.heap.objs.size + 1), _, I.laid (a := s.heap.objs.size + 1) (o := .lst (((vs.zip ds).mergeSort (PySem.W.dataLe false encP)).map (·.1))) (t' := s.toks) kp (Nat.le_succ _) ?_, rfl, q _ _ (I.hok.fresh (Nat.le_succ _)) b2⟩
    refine ⟨?_, out, c, b1, hc⟩
    rw [b2.length, List.length_mergeSort]
    exact sp.2.2
end
section
variable {X : Cx} {n : Nat} {e : Expr} {fa : RA} {p pos : Pos}
def gSorted : GN := fun ds μ R => ∃ x xs, ds = [x] ∧ res μ x = .lst xs ∧ SrtP xs ∧ R (.lst (xs.mergeSort dle)) μ
theorem snd_sorted : SndN X.K (rSrt X) gSorted := by
  intro S μ H xs dxs R Q k r ⟨x, ys, ex, e1, sp, q⟩ post
  subst ex
  obtain ⟨v, rfl, r1⟩ := reps1 r
  obtain ⟨a, vs, rfl, h1, r2⟩ := res_lst k r1 e1
  refine ⟨S, μ, a, vs, ys, rfl, k, .of h1, r2, sp, fun p ws hp rw => ?_⟩
  obtain ⟨k2, s2⟩ := k.alloc (o := .lst ws) hp
  exact post _ _ _ _ _ k2 s2 (.lst upd_same (rw.mono s2.same)) q
theorem de_sorted (hr : Room n X.A) (hg : Gl X "sorted") (hm : X.mg "sorted" = none) (ha : DA X [e] fa) (he : starEach [e] X.env = (false, eval e X.env) :: starEach [] X.env := by rfl) : DE X (.Call (.Name "sorted" p) [e] [] pos) (rCl gSorted fa) :=
  de_callB (call_sortedD (by have := hr.un; omega)) snd_sorted hg hm (by decide +kernel) ha (he := he)
/-! ### sorted(dict) -/
end
end L3

/-! ## L6a -/
set_option Elab.async false
set_option linter.all false
set_option maxRecDepth 100000
set_option maxHeartbeats 4000000
/-! List comprehensions of two clauses. -/
namespace L3
open PySem PySem.Spec PyProof.Rows L2
/-- a list that is being built stays as it is -/
theorem keepD {K : PySem.W.Frag} {S2 S3 H2 H3 : Hp} {μ2 μ3 : MH} {D : Addr} {ws : List V} {acc : List L3.D} (k3 : OK K S3 μ3 H3) (z : Stp S2 μ2 H2 S3 μ3 H3) (hS : S2 D = none) (hM : μ2 D = none) (hL : H2 D = some (.lst ws)) (ra : Reps K S2 ws acc) :
    S3 D = none ∧ μ3 D = none ∧ H3 D = some (.lst ws) ∧ Reps K S3 ws acc := by
  refine ⟨?_, ?_, z.keep _ _ hL hM (fun _ w => by cases w), ra.mono z.same⟩
  · cases w : S3 D with
    | none => rfl
    | some o =>
      rcases z.news D o w with a | (a | ⟨m, a⟩) | ⟨q, a⟩
      · rw [hS] at a; cases a
      · exact (free_no a hL fun _ w => by cases w).elim
      · rw [hM] at a; cases a
      · have a1 := k3.sub D o w
        rw [z.keep _ _ hL hM (fun _ w => by cases w), a] at a1
        unfold LamX.CodeO at a1
        cases a1
  · cases w : μ3 D with
    | none => rfl
    | some o =>
      rcases z.mus D o w with a | ⟨m, a⟩
      · exact (free_no a hL fun _ w => by cases w).elim
      · rw [hM] at a; cases a
def lc2D (g : RG) (t : RT) (fi1 : RI) (g1 : RG) (t1 : RT) (f : RX) (vs1 : List Nat) (C : MH → Prop) (ρ : EV) : List L3.D → List L3.D → MH → (List L3.D → MH → Prop) → Prop
  | [], acc, μ, R => C μ ∧ R acc μ
  | d :: r, acc, μ, R => C μ ∧ g d ρ μ fun ρ1 μ1 => t ρ1 μ1 fun b μ2 => if b = true then fi1 ρ1 μ2 fun ds1 C1 μ3 => acc.length + ds1.length ≤ sizeLine ∧ lcD g1 t1 f C1 (rms ρ1 vs1) ds1 acc μ3 fun acc2 μ4 => lc2D g t fi1 g1 t1 f vs1 C ρ r acc2 μ4 R
    else lc2D g t fi1 g1 t1 f vs1 C ρ r acc μ2 R
theorem lc2D_c {g : RG} {t : RT} {fi1 : RI} {g1 : RG} {t1 : RT} {f : RX} {vs1 : List Nat} {C : MH → Prop} {ρ : EV} {ds acc : List L3.D} {μ : MH} {R : List L3.D → MH → Prop} (h : lc2D g t fi1 g1 t1 f vs1 C ρ ds acc μ R) : C μ := by
  cases ds with
  | nil => exact h.1
  | cons _ _ => exact h.1
def rLc2 (fi : RI) (g : RG) (t : RT) (fi1 : RI) (g1 : RG) (t1 : RT) (f : RX) (vs vs1 : List Nat) : RX := fun ρ μ R => fi ρ μ fun ds C μ1 => lc2D g t fi1 g1 t1 f vs1 C (rms ρ vs) ds [] μ1 fun zs μ2 => R (.lst zs) μ2
section
variable {X : Cx}
theorem up_lc2 {K : PySem.W.Frag} {fi fi1 : RI} {g g1 : RG} {t t1 : RT} {f : RX} {vs vs1 : List Nat} {S H : Hp} {μ : MH} {ρ : EV} {σ : L2.St} {Q : VK} {RR : List L3.D → MH → Prop} (k : OK K S μ H) (e : RepE K S σ ρ)
    (h : fi ρ μ fun ds C μ1 => lc2D g t fi1 g1 t1 f vs1 C (rms ρ vs) ds [] μ1 RR)
    (fin : ∀ S' μ' H' D zs ws, OK K S' μ' H' → Stp S μ H S' μ' H' → (Free H D ∨ ∃ m, μ D = some m) → S' D = none → μ' D = none → H' D = some (.lst ws) → Reps K S' ws zs → RR zs μ' → Q (.ref D) H') :
    tLc2 (upI K fi) (upG K g vs) (upT K t) (upI K fi1) (upG K g1 vs1) (upT K t1) (up K f) vs vs1 σ H Q := by
  refine ⟨S, μ, ρ, _, k, e, h, fun S1 μ1 H1 J ds C k1 s1 it q1 D hD => ?_⟩
  obtain ⟨hSD, hMD⟩ := k1.free hD
  have HD : Free H D ∨ ∃ m, μ D = some m := by
    cases w : H D with
    | none => exact .inl (free_none w)
    | some o =>
      cases w2 : μ D with
      | none =>
        by_cases n : ∃ ps, o = .tbl ps
        · exact .inl fun o' e' => by rw [w] at e'; cases e'; exact n
        · rw [s1.keep D o w w2 fun ps z => n ⟨ps, z⟩] at hD; cases hD
      | some m => exact .inr ⟨m, rfl⟩
  refine ⟨fun i m H' => m = ds.length - i ∧ i ≤ ds.length ∧ ∃ S' μ' ws acc, OK K S' μ' H' ∧ Stp S1 μ1 H1 S' μ' H' ∧ S' D = none ∧ μ' D = none ∧ H' D = some (.lst ws) ∧ Reps K S' ws acc ∧ lc2D g t fi1 g1 t1 f vs1 C (rms ρ vs) (ds.drop i) acc μ' RR,
    ⟨_, rfl, Nat.zero_le _, S1, μ1, [], [], k1.hide hD, Stp.refl.aside hD, hSD, hMD, upd_same, .nil, by rw [List.drop_zero]; exact q1⟩, ?_⟩
  rintro i m H2 ⟨rfl, hi, S2, μ2, ws, acc, k2, s2, hS, hM, hL, ra, q2⟩
  have io := it S2 μ2 H2 k2 s2.same (lc2D_c q2) i
  by_cases hlt : i < ds.length
  · have hd : ds[i]? = some ds[i] := List.getElem?_eq_getElem hlt
    have ed : ds.drop i = ds[i] :: ds.drop (i + 1) := List.drop_eq_getElem_cons hlt
    rw [ed] at q2
    obtain ⟨hgo, hy⟩ := io.1 _ hd
    refine .inr ⟨hgo, fun H' => ∃ S' μ' ws acc, OK K S' μ' H' ∧ Stp S1 μ1 H1 S' μ' H' ∧ S' D = none ∧ μ' D = none ∧ H' D = some (.lst ws) ∧ Reps K S' ws acc ∧ lc2D g t fi1 g1 t1 f vs1 C (rms ρ vs) (ds.drop (i + 1)) acc μ' RR, fun H' z => ⟨ds.length - (i + 1), by omega, rfl, hlt, z⟩, fun x H' y => ?_⟩
    obtain ⟨S3, k3, s3, r3⟩ := hy x H' y
    have e3 : RepE K S3 (wipe σ vs) (rms ρ vs) := (((e.mono s1.same).mono s2.same).mono s3.same).wipe vs
    refine ⟨S3, μ2, rms ρ vs, _, _, k3, e3, r3, q2.2, fun S4 μ4 H4 σ4 ρ4 k4 s4 e4 w4 q4 => ?_⟩
    have s24 := s3.trans s4
    refine ⟨w4.trans (wipe_idem vs σ), S4, μ4, ρ4, _, k4, e4, q4, fun S5 μ5 H5 b5 k5 s5 q5 => ?_⟩
    have s25 := s24.trans s5
    cases b5 with
    | false =>
      rw [if_neg Bool.false_ne_true] at q5
      refine iteF ?_
      obtain ⟨a1, a2, a3, a4⟩ := keepD k5 s25 hS hM hL ra
      exact ⟨S5, μ5, ws, acc, k5, s2.trans s25, a1, a2, a3, a4, q5⟩
    | true =>
      rw [if_pos rfl] at q5
      refine iteT ?_
      refine ⟨S5, μ5, ρ4, _, k5, e4.mono s5.same, q5, fun S6 μ6 H6 J1 ds1 C1 k6 s6 it1 q6 => ?_⟩
      obtain ⟨hz, q6⟩ := q6
      have s26 := s25.trans s6
      obtain ⟨a1, a2, a3, a4⟩ := keepD k6 s26 hS hM hL ra
      have e6 : RepE K S6 σ4 ρ4 := (e4.mono s5.same).mono s6.same
      refine ⟨fun j m H' => m = ds1.length - j ∧ j ≤ ds1.length ∧ ∃ S' μ' ws' acc', OK K S' μ' H' ∧ Stp S1 μ1 H1 S' μ' H' ∧ Same S6 S' ∧ S' D = none ∧ μ' D = none ∧ H' D = some (.lst ws') ∧ Reps K S' ws' acc' ∧ acc'.length ≤ acc.length + j ∧ lcD g1 t1 f C1 (rms ρ4 vs1) (ds1.drop j) acc' μ' (fun acc2 μ4 => lc2D g t fi1 g1 t1 f vs1 C (rms ρ vs) (ds.drop (i + 1)) acc2 μ4 RR),
        ⟨_, rfl, Nat.zero_le _, S6, μ6, ws, acc, k6, s2.trans s26, fun _ _ z => z, a1, a2, a3, a4, Nat.le_refl _, by rw [List.drop_zero]; exact q6⟩, ?_⟩
      rintro j m7 H7 ⟨rfl, hj, S7, μ7, ws7, acc7, k7, s7, sm7, hS7, hM7, hL7, ra7, la7, q7⟩
      have io1 := it1 S7 μ7 H7 k7 sm7 (lcD_c q7) j
      by_cases hlt1 : j < ds1.length
      · have hd1 : ds1[j]? = some ds1[j] := List.getElem?_eq_getElem hlt1
        have ed1 : ds1.drop j = ds1[j] :: ds1.drop (j + 1) := List.drop_eq_getElem_cons hlt1
        rw [ed1] at q7
        obtain ⟨hgo1, hy1⟩ := io1.1 _ hd1
        refine .inr ⟨hgo1, fun H' => ∃ S' μ' ws' acc', OK K S' μ' H' ∧ Stp S1 μ1 H1 S' μ' H' ∧ Same S6 S' ∧ S' D = none ∧ μ' D = none ∧ H' D = some (.lst ws') ∧ Reps K S' ws' acc' ∧ acc'.length ≤ acc.length + (j + 1) ∧ lcD g1 t1 f C1 (rms ρ4 vs1) (ds1.drop (j + 1)) acc' μ' (fun acc2 μ4 => lc2D g t fi1 g1 t1 f vs1 C (rms ρ vs) (ds.drop (i + 1)) acc2 μ4 RR), fun H' z => ⟨ds1.length - (j + 1), by omega, rfl, hlt1, z⟩, fun x8 H8 y8 => ?_⟩
        obtain ⟨S8, k8, s8, r8⟩ := hy1 x8 H8 y8
        have e8 : RepE K S8 (wipe σ4 vs1) (rms ρ4 vs1) := ((e6.mono sm7).mono s8.same).wipe vs1
        refine ⟨S8, μ7, rms ρ4 vs1, _, _, k8, e8, r8, q7.2, fun S9 μ9 H9 σ9 ρ9 k9 s9 e9 w9 q9 => ?_⟩
        have s79 := s8.trans s9
        refine ⟨w9.trans (wipe_idem vs1 σ4), S9, μ9, ρ9, _, k9, e9, q9, fun Sa μa Ha ba ka sa qa => ?_⟩
        have s7a := s79.trans sa
        cases ba with
        | false =>
          rw [if_neg Bool.false_ne_true] at qa
          refine iteF ?_
          obtain ⟨b1, b2, b3, b4⟩ := keepD ka s7a hS7 hM7 hL7 ra7
          exact ⟨Sa, μa, ws7, acc7, ka, s7.trans s7a, sm7.trans s7a.same, b1, b2, b3, b4, by omega, qa⟩
        | true =>
          rw [if_pos rfl] at qa
          refine iteT ?_
          refine ⟨Sa, μa, ρ9, _, ka, e9.mono sa.same, qa, fun Sb μb Hb vb db kb sb rb qb => ?_⟩
          have s7b := s7a.trans sb
          obtain ⟨b1, b2, b3, b4⟩ := keepD kb s7b hS7 hM7 hL7 ra7
          exact ⟨ws7, b3, by rw [ra7.length]; omega, Sb, μb, ws7 ++ [vb], acc7 ++ [db], kb.aside b1 b2, (s7.trans s7b).aside hD, sm7.trans s7b.same, b1, b2, upd_same, b4.append (.cons rb .nil), by simp; omega, qb⟩
      · have ej : j = ds1.length := by omega
        subst ej
        rw [List.drop_length] at q7
        exact .inl ⟨io1.2 rfl, S7, μ7, ws7, acc7, k7, s7, hS7, hM7, hL7, ra7, q7.2⟩
  · have ei : i = ds.length := by omega
    subst ei
    rw [List.drop_length] at q2
    exact .inl ⟨io.2 rfl, fin S2 μ2 H2 D acc ws k2 (s1.trans s2) HD hS hM hL ra q2.2⟩
theorem up_lc2F {K : PySem.W.Frag} {fi fi1 : RI} {g g1 : RG} {t t1 : RT} {f : RX} {vs vs1 : List Nat} : ∀ σ H Q, up K (rLc2 fi g t fi1 g1 t1 f vs vs1) σ H Q → tLc2 (upI K fi) (upG K g vs) (upT K t) (upI K fi1) (upG K g1 vs1) (upT K t1) (up K f) vs vs1 σ H Q := fun σ H Q ⟨S, μ, ρ, R, k, e, h, post⟩ =>
  up_lc2 k e h fun S' μ' H' D zs ws k' s' n1 n2 n3 n4 r q => post _ _ _ _ _ (k'.take n4 n2 n3) (s'.takeS n1 n2) (.lst upd_same (r.mono (same_updn n2))) q
theorem de_lc2 {elt tg iter tg1 iter1 : Expr} {ifs ifs1 : List Expr} {scope : Scope} (own : List (Str × Nat)) (vs1 : List Nat) {pos : Pos} {fi fi1 : RI} {g g1 : RG} {t t1 : RT} {f : RX} (hN : X.N.Nodup) (hi : DI X tg iter fi) (ok : blkC X.N X.env.scope scope own = true)
    (hg : ∀ (s : Shared) (H : Hp) (C : Addr) (cl : List (Str × Addr)) (fp : List Addr), DG (X.blk s H scope (compEnvC scope cl C X.env) fp) tg g (own.map (·.2))) (ht : ∀ (s : Shared) (H : Hp) (C : Addr) (cl : List (Str × Addr)) (fp : List Addr), DTs (X.blk s H scope (compEnvC scope cl C X.env) fp) ifs t)
    (hi1 : ∀ (s : Shared) (H : Hp) (C : Addr) (cl : List (Str × Addr)) (fp : List Addr), DI (X.blk s H scope (compEnvC scope cl C X.env) fp) tg1 iter1 fi1)
    (hg1 : ∀ (s : Shared) (H : Hp) (C : Addr) (cl : List (Str × Addr)) (fp : List Addr), DG (X.blk s H scope (compEnvC scope cl C X.env) fp) tg1 g1 vs1) (ht1 : ∀ (s : Shared) (H : Hp) (C : Addr) (cl : List (Str × Addr)) (fp : List Addr), DTs (X.blk s H scope (compEnvC scope cl C X.env) fp) ifs1 t1)
    (he : ∀ (s : Shared) (H : Hp) (C : Addr) (cl : List (Str × Addr)) (fp : List Addr), DE (X.blk s H scope (compEnvC scope cl C X.env) fp) elt f) (hv : ∀ i ∈ vs1, i ∈ own.map (·.2) := by decide) (hc : X.calm = true := by rfl) (hs : ∀ x, foldedSetIterable iter X.env x = pure x := by intro _; rfl) (hs1 : ∀ env x, foldedSetIterable iter1 env x = pure x := by intro _ _; rfl) :
    DE X (.ListComp elt [⟨tg, iter, ifs, 0⟩, ⟨tg1, iter1, ifs1, 0⟩] scope pos) (rLc2 fi g t fi1 g1 t1 f (own.map (·.2)) vs1) := pe_imp (pe_lc2 hc hN hi (blkOk_by ok) hv hg ht hi1 hg1 ht1 he hs hs1) up_lc2F
end
end L3

/-! ## L6b -/
set_option Elab.async false
set_option linter.all false
set_option maxRecDepth 100000
set_option maxHeartbeats 4000000
/-! f(*e, x, ..); promises that forget what was made on the way. -/
namespace L3
open PySem PySem.Spec PyProof.Rows L2
section
variable {M : Model} {A : Around} {E : Value → Shared → Prop} {s : Shared} {K : PySem.W.Frag} {env : Env} {pos p : Pos} {f : Value} {first : List Value} {Q : Value → Shared → Prop} {h₀ : Heap} {e e2 : Expr} {rest : List Expr}
end
section
variable {X : Cx} {CX : CXT} {k : Nat} {f : Addr} {sp : Sp} {E : XK} {x : Str} {e e2 : Expr} {es : List Expr} {t : TA} {p p2 pos : Pos}
end
/-! ### forgetting -/
def Sub (μ μ' : MH) : Prop := ∀ b m, μ b = some m → μ' b = some m
theorem Sub.refl {μ : MH} : Sub μ μ := fun _ _ h => h
theorem Sub.trans {a b c : MH} (x : Sub a b) (y : Sub b c) : Sub a c := fun d m h => y d m (x d m h)
theorem Sub.upd {μ : MH} {p : Addr} {m : MO} (h : μ p = none) : Sub μ (updM μ p m) := fun b x e => by rw [updM_ne (fun z => by rw [z, h] at e; cases e)]; exact e
theorem Sub.put {μ μ' : MH} {p : Addr} {m : MO} (h : Sub μ μ') (n : μ p = none) : Sub μ (updM μ' p m) := fun b x e => by rw [updM_ne (fun z => by rw [z, n] at e; cases e)]; exact h b x e
theorem Sub.both {μ μ' : MH} {p : Addr} {m : MO} (h : Sub μ μ') : Sub (updM μ p m) (updM μ' p m) := fun b x e => by
  by_cases q : b = p
  · subst q; rw [updM_same] at e ⊢; exact e
  · rw [updM_ne q] at e ⊢; exact h b x e
theorem Sub.none {μ μ' : MH} {p : Addr} (h : Sub μ μ') (n : μ' p = none) : μ p = Option.none := by
  cases e : μ p with
  | none => rfl
  | some m => rw [h p m e] at n; cases n
/-- what is told at the end may forget changeable objects -/
def wkR (R : D → MH → Prop) : D → MH → Prop := fun d μ' => ∃ μ2, Sub μ2 μ' ∧ R d μ2
section
variable {K : PySem.W.Frag} {S S' H H' : Hp} {μ μ' μ2 : MH}
theorem OK.forget (k : OK K S μ' H) (h : Sub μ2 μ') : OK K S μ2 H := ⟨k.sub, fun a m e => k.mts a m (h a m e), k.nst, fun a b q r ea eb => k.one a b q r (h _ _ ea) (h _ _ eb)⟩
theorem Stp.forget (s : Stp S μ H S' μ' H') (h : Sub μ2 μ') : Stp S μ H S' μ2 H' := ⟨s.same, s.news, s.keep, fun b m e => s.mus b m (h b m e)⟩
theorem pst_wk {R : D → MH → Prop} {Q : VK} (p : Pst K S μ H R Q) : Pst K S μ H (wkR R) Q := fun S' μ' H' v d k s r ⟨μ2, h, q⟩ => p S' μ2 H' v d (k.forget h) (s.forget h) r q
end
section
variable {P : Program} {w : World} {K : PySem.W.Frag} {mg : Str → Option Value} {base : Heap}
theorem fnDW {x qual : Str} {params : Arguments} {bd : List Stmt} {scope : Scope} {dvs : List V} {kws : List (Str × V)} {f : Addr} {fd : FuncData} {N ps : List Str} {k : Nat} {s : GN} {body : RS} (F : FunD K x qual params bd scope dvs kws f fd) (Sc : FnScope N ps scope)
    (len : ∀ ds μ R, s ds μ R → ds.length = ps.length)
    (hb : ∀ (cdv : Value) (A : Around) (outer : List Env) (s0 : Shared) (H : Hp) (E : XK), Room k (A.deeper (envOfC qual scope s0.heap.objs.size f cdv)) → DSs (cxOf CX0 P w K mg base N qual scope f cdv A outer s0 H E).nox bd body)
    (hv : ∀ ds μ R, s ds μ R → body { nx := fun _ μ' => wkR R .non μ', rt := wkR R } (startD N.length ds) μ) : FnOk P w K mg base CX0 (k + 1) f fd ps (spD K s) := by
  refine F.ok Sc (fun vs H Q E h => ?_) fun cdv A outer s0 H vs Q E hr h => ⟨upS K body, PSs.nox (hb cdv A outer s0 H E hr), ?_⟩
  · obtain ⟨S, μ, ds, R, a, b, c, d⟩ := h
    rw [b.length]
    exact len ds μ R c
  · obtain ⟨S, μ, ds, R, a, b, c, d⟩ := h
    exact ⟨S, μ, _, _, a, repE_start b, hv ds μ R c, ⟨fun S' μ' H' σ' ρ' k' s' e' q' => pst_wk d S' μ' H' _ _ k' s' .non q', fun S' μ' H' v z k' s' r' q' => pst_wk d S' μ' H' v z k' s' r' q', fun _ _ _ _ _ _ _ _ q' => False.elim q', fun _ _ _ _ _ _ _ _ q' => False.elim q'⟩⟩
end
end L3

/-! ## SP7 -/
set_option Elab.async false
set_option linter.all false
set_option maxRecDepth 100000
set_option maxHeartbeats 4000000
/-! Inks of drawings. -/
namespace L3
open PySem NM L2
open Ink (Q2 Pl Sg Ky)
def numQ (z : Num) : Q2 := (re z, im z)
def numL (l : Num × Num) : Ink.Ln := (numQ l.1, numQ l.2)
theorem numQ_inj {a b : Num} (ha : Can a) (hb : Can b) (h : numQ a = numQ b) : a = b := NM.ext ha hb (congrArg Prod.fst h) (congrArg Prod.snd h)
/-- what strokes cover -/
def covS (ss : List Stk) (p : Q2) : Prop := ∃ s ∈ ss, (∃ z, s = [z] ∧ p = numQ z) ∨ ∃ y ∈ segs s, Ink.sg (numQ y.1) (numQ y.2) p
structure Inkd where
  dots : List Num
  lines : List (Num × Num)
theorem inkd_ext {I J : Inkd} (h : I.dots = J.dots) (k : I.lines = J.lines) : I = J := by
  cases I; cases J; cases h; cases k; rfl
def inkD (I : Inkd) : D := .tup [.tup (I.dots.map numD), .tup (I.lines.map pairD)]
structure IsInk (C : Q2 → Prop) (I : Inkd) : Prop where
  cd : ∀ z ∈ I.dots, Can z
  cl : ∀ l ∈ I.lines, Can l.1 ∧ Can l.2
  nf : Ink.NF (I.dots.map numQ) (I.lines.map numL)
  cov : ∀ p, Ink.cov (I.dots.map numQ) (I.lines.map numL) p ↔ C p
theorem map_injL {α β : Type} {f : α → β} : ∀ {xs ys : List α}, (∀ x ∈ xs, ∀ y ∈ ys, f x = f y → x = y) → xs.map f = ys.map f → xs = ys
  | [], [], _, _ => rfl
  | [], y :: ys, _, h => by simp at h
  | x :: xs, [], _, h => by simp at h
  | x :: xs, y :: ys, i, h => by
    rw [List.map_cons, List.map_cons] at h
    injection h with h1 h2
    rw [i x (List.mem_cons_self ..) y (List.mem_cons_self ..) h1, map_injL (fun a ha b hb => i a (List.mem_cons_of_mem _ ha) b (List.mem_cons_of_mem _ hb)) h2]
theorem IsInk.uniq {C C' : Q2 → Prop} {I I' : Inkd} (h : IsInk C I) (h' : IsInk C' I') (e : ∀ p, C p ↔ C' p) : I = I' := by
  obtain ⟨a, b⟩ := Ink.unique h.nf h'.nf fun p => (h.cov p).trans ((e p).trans (h'.cov p).symm)
  refine inkd_ext (map_injL (fun x hx y hy => numQ_inj (h.cd x hx) (h'.cd y hy)) a) (map_injL (fun x hx y hy q => ?_) b)
  have q1 := congrArg Prod.fst q
  have q2 := congrArg Prod.snd q
  exact Prod.ext (numQ_inj (h.cl x hx).1 (h'.cl y hy).1 q1) (numQ_inj (h.cl x hx).2 (h'.cl y hy).2 q2)
/-! ### places of whole numbers -/
def plI (S : Int) (z : Num) : Pl := (z.x * S.fdiv z.d, z.y * S.fdiv z.d)
def plsI (S : Int) (ss : List Stk) : List (List Pl) := ss.map fun s => s.map (plI S)
theorem plI_q {S : Int} (hS : 0 < S) {z : Num} (hz : Can z) (hd : z.d ∣ S) : Ink.qP S (plI S z) = numQ z := by
  obtain ⟨k, hk⟩ := hd
  have e : S.fdiv z.d = k := by rw [hk]; exact fdiv_mul' (ne_d hz)
  have n1 := rat_d hz
  have n2 : (S : Rat) ≠ 0 := cast_ne (by omega)
  have n3 : (S : Rat) = (z.d : Rat) * (k : Rat) := by rw [hk]; exact Rat.intCast_mul ..
  have n4 : (k : Rat) ≠ 0 := fun q => n2 (by rw [n3, q]; grind)
  unfold Ink.qP plI numQ re im
  rw [e]
  refine Prod.ext ?_ ?_
  · show ((z.x * k : Int) : Rat) / (S : Rat) = _
    rw [n3, Rat.intCast_mul]
    grind
  · show ((z.y * k : Int) : Rat) / (S : Rat) = _
    rw [n3, Rat.intCast_mul]
    grind
theorem segs_map2 (f : Num → Pl) : ∀ s : Stk, Ink.segsI (s.map f) = (segs s).map fun y => (f y.1, f y.2)
  | [] => rfl
  | [_] => rfl
  | a :: b :: r => by
    show (f a, f b) :: Ink.segsI ((b :: r).map f) = _
    rw [segs_map2 f (b :: r)]
    rfl
theorem segs_mem2 : ∀ {s : Stk} {y : Num × Num}, y ∈ segs s → y.1 ∈ s ∧ y.2 ∈ s
  | [], _, h => nomatch h
  | [_], _, h => nomatch h
  | a :: b :: r, y, h => by
    rcases List.mem_cons.mp h with rfl | h
    · exact ⟨List.mem_cons_self .., List.mem_cons_of_mem _ (List.mem_cons_self ..)⟩
    · obtain ⟨p, q⟩ := segs_mem2 h
      exact ⟨List.mem_cons_of_mem _ p, List.mem_cons_of_mem _ q⟩
theorem segs_ne2 : ∀ {s : Stk} {y : Num × Num}, moves s → y ∈ segs s → y.1 ≠ y.2
  | [], _, _, h => nomatch h
  | [_], _, _, h => nomatch h
  | a :: b :: r, y, m, h => by
    rcases List.mem_cons.mp h with rfl | h
    · exact m.1
    · exact segs_ne2 m.2 h
/-- strokes that go on, their denominators within S -/
structure okS (S : Int) (ss : List Stk) : Prop where
  pos : 0 < S
  mv : ∀ s ∈ ss, moves s
  can : ∀ s ∈ ss, ∀ z ∈ s, Can z ∧ z.d ∣ S
section
variable {S : Int} {ss : List Stk} (k : okS S ss)
include k
theorem okS.q {s : Stk} (hs : s ∈ ss) {z : Num} (hz : z ∈ s) : Ink.qP S (plI S z) = numQ z := plI_q k.pos (k.can s hs z hz).1 (k.can s hs z hz).2
theorem okS.part {y : Pl × Pl} (h : y ∈ Ink.partsI (plsI S ss)) : ∃ s ∈ ss, ∃ x ∈ segs s, y = (plI S x.1, plI S x.2) := by
  obtain ⟨t, ht, hy⟩ := List.mem_flatMap.mp h
  obtain ⟨s, hs, rfl⟩ := List.mem_map.mp ht
  rw [segs_map2] at hy
  obtain ⟨x, hx, rfl⟩ := List.mem_map.mp hy
  exact ⟨s, hs, x, hx, rfl⟩
theorem okS.ne : ∀ y ∈ Ink.partsI (plsI S ss), y.1 ≠ y.2 := fun y h e => by
  obtain ⟨s, hs, x, hx, rfl⟩ := k.part h
  have m := segs_mem2 hx
  have e2 : numQ x.1 = numQ x.2 := by
    rw [← k.q hs m.1, ← k.q hs m.2]
    exact congrArg (Ink.qP S) e
  exact segs_ne2 (k.mv s hs) hx (numQ_inj (k.can s hs _ m.1).1 (k.can s hs _ m.2).1 e2)
theorem okS.cov (p : Q2) : Ink.covI S (plsI S ss) p ↔ covS ss p := by
  constructor
  · rintro ⟨t, ht, h⟩
    obtain ⟨s, hs, rfl⟩ := List.mem_map.mp ht
    refine ⟨s, hs, ?_⟩
    rcases h with ⟨q, e, rfl⟩ | ⟨y, hy, h⟩
    · cases s with
      | nil => cases e
      | cons z r =>
        cases r with
        | nil =>
          rw [List.map_cons, List.map_nil] at e
          injection e with e1 e2
          exact .inl ⟨z, rfl, by rw [← e1]; exact k.q hs (List.mem_cons_self ..)⟩
        | cons _ _ => simp at e
    · rw [segs_map2] at hy
      obtain ⟨x, hx, rfl⟩ := List.mem_map.mp hy
      have m := segs_mem2 hx
      refine .inr ⟨x, hx, ?_⟩
      rw [← k.q hs m.1, ← k.q hs m.2]
      exact h
  · rintro ⟨s, hs, h⟩
    refine ⟨s.map (plI S), List.mem_map.mpr ⟨s, hs, rfl⟩, ?_⟩
    rcases h with ⟨z, rfl, rfl⟩ | ⟨x, hx, h⟩
    · exact .inl ⟨plI S z, rfl, (k.q hs (List.mem_cons_self ..)).symm⟩
    · have m := segs_mem2 hx
      refine .inr ⟨(plI S x.1, plI S x.2), by rw [segs_map2]; exact List.mem_map.mpr ⟨x, hx, rfl⟩, ?_⟩
      rw [← k.q hs m.1, ← k.q hs m.2] at h
      exact h
def lowP (S : Int) (p : Pl) : Num := low p.1 p.2 S
theorem lowP_q (p : Pl) : numQ (lowP S p) = Ink.qP S p := by
  have n : S ≠ 0 := by have := k.pos; omega
  exact Prod.ext (re_low n) (im_low n)
theorem lowP_self {s : Stk} (hs : s ∈ ss) {z : Num} (hz : z ∈ s) : lowP S (plI S z) = z := by
  have n : S ≠ 0 := by have := k.pos; omega
  refine numQ_inj (low_can n) (k.can s hs z hz).1 ?_
  exact (lowP_q k _).trans (k.q hs hz)
def inkP (S : Int) (pl : List (List Pl)) : Inkd := ⟨(Ink.inkDots pl).map (lowP S), (Ink.inkLines pl).map fun s => (lowP S s.1, lowP S s.2)⟩
theorem okS.ink : IsInk (covS ss) (inkP S (plsI S ss)) := by
  have n : S ≠ 0 := by have := k.pos; omega
  have e1 : (inkP S (plsI S ss)).dots.map numQ = (Ink.inkDots (plsI S ss)).map (Ink.qP S) := by
    show ((Ink.inkDots (plsI S ss)).map (lowP S)).map numQ = _
    rw [List.map_map]
    exact List.map_congr_left fun p _ => lowP_q k p
  have e2 : (inkP S (plsI S ss)).lines.map numL = (Ink.inkLines (plsI S ss)).map (Ink.qL S) := by
    show ((Ink.inkLines (plsI S ss)).map fun s => (lowP S s.1, lowP S s.2)).map numL = _
    rw [List.map_map]
    exact List.map_congr_left fun s _ => Prod.ext (lowP_q k s.1) (lowP_q k s.2)
  refine ⟨fun z hz => ?_, fun l hl => ?_, ?_, fun p => ?_⟩
  · obtain ⟨p, _, rfl⟩ := List.mem_map.mp hz
    exact low_can n
  · obtain ⟨s, _, rfl⟩ := List.mem_map.mp hl
    exact ⟨low_can n, low_can n⟩
  · rw [e1, e2]
    exact Ink.ink_nf k.pos k.ne
  · rw [e1, e2, Ink.ink_cov k.pos k.ne p]
    exact k.cov p
theorem okS.dot_of {p : Pl} (h : p ∈ Ink.inkDots (plsI S ss)) : ∃ s ∈ ss, ∃ z ∈ s, p = plI S z := by
  obtain ⟨h, _⟩ := (Ink.mem_dots k.pos k.ne).mp h
  obtain ⟨s, hs, e⟩ := List.mem_map.mp h
  have : p ∈ s.map (plI S) := by rw [e]; exact List.mem_cons_self ..
  obtain ⟨z, hz, rfl⟩ := List.mem_map.mp this
  exact ⟨s, hs, z, hz, rfl⟩
theorem okS.end_of {x : Sg} (h : x ∈ Ink.inkLines (plsI S ss)) : (∃ s ∈ ss, ∃ z ∈ s, x.1 = plI S z) ∧ ∃ s ∈ ss, ∃ z ∈ s, x.2 = plI S z := by
  have one : ∀ p, (∃ y ∈ Ink.partsI (plsI S ss), p = y.1 ∨ p = y.2) → ∃ s ∈ ss, ∃ z ∈ s, p = plI S z := fun p ⟨y, hy, e⟩ => by
    obtain ⟨s, hs, w, hw, rfl⟩ := k.part hy
    have m := segs_mem2 hw
    rcases e with e | e
    · exact ⟨s, hs, w.1, m.1, e⟩
    · exact ⟨s, hs, w.2, m.2, e⟩
  obtain ⟨a, b⟩ := Ink.ends_of k.pos k.ne h
  exact ⟨one _ a, one _ b⟩
end
open Classical in
/-- the ink of strokes -/
noncomputable def inkS (ss : List Stk) : Inkd := if h : ∃ I, IsInk (covS ss) I then h.choose else ⟨[], []⟩
theorem inkS_of {ss : List Stk} {I : Inkd} (h : IsInk (covS ss) I) : inkS ss = I := by
  have e : ∃ I, IsInk (covS ss) I := ⟨I, h⟩
  unfold inkS
  rw [dif_pos e]
  exact e.choose_spec.uniq h fun _ => Iff.rfl
/-! ### specs -/
def plD (p : Pl) : D := .tup [.int p.1, .int p.2]
def plsD (s : List Pl) : D := .tup (s.map plD)
def sgD (s : Sg) : D := .tup [plD s.1, plD s.2]
def kyD (k : Ky) : D := .tup [.int k.1, .int k.2.1, .int k.2.2]
def lnsD (L : List (Ky × List Sg)) : List (D × D) := L.map fun x => (kyD x.1, .lst (x.2.map sgD))
/-- strokes that are not too large, their denominators within N -/
structure okI (N : Int) (ss : List Stk) : Prop where
  pos : 0 < N
  bn : Bt 6000 N
  le : ss.length ≤ 500
  st : ∀ s ∈ ss, 1 ≤ s.length ∧ s.length ≤ 12 ∧ moves s
  can : ∀ s ∈ ss, ∀ z ∈ s, Can z ∧ Sz 1500 z ∧ z.d ∣ N
def BtP (n : Nat) (p : Pl) : Prop := Bt n p.1 ∧ Bt n p.2
def sp_scaled (Γ : CL) : GN := fun ds μ R => ∃ ss N, (ds = [strsD ss] ∨ ds = [.lst (ss.map strD)]) ∧ okI N ss ∧ ∀ S : Int, Bt 6000 S → S ∣ N → okS S ss → R (.tup [.int S, .lst ((plsI S ss).map plsD)]) μ
def sp_line_key (Γ : CL) : GN := fun ds μ R => ∃ a b : Pl, ds = [plD a, plD b] ∧ a ≠ b ∧ BtP 7500 a ∧ BtP 7500 b ∧ R (kyD (Ink.keyI a b)) μ
def sp_joined (Γ : CL) : GN := fun ds μ R => ∃ d l, ds = [d] ∧ res μ d = .lst (l.map sgD) ∧ l.length ≤ 100000 ∧ R (.lst ((Ink.joinS l).map sgD)) μ
def sp_lines_of (Γ : CL) : GN := fun ds μ R => ∃ pl : List (List Pl), ds = [.lst (pl.map plsD)] ∧ pl.length ≤ 500 ∧ (∀ s ∈ pl, s.length ≤ 12 ∧ ∀ p ∈ s, BtP 7500 p) ∧ (∀ y ∈ Ink.partsI pl, y.1 ≠ y.2) ∧ ∀ p o, μ p = none → R (.ref p) (updM μ p (.dct o (lnsD (Ink.linesI pl))))
def okLn (L : List (Ky × List Sg)) : Prop := ∀ x ∈ L, (Bt 7501 x.1.1 ∧ Bt 7501 x.1.2.1) ∧ x.2.length ≤ 100000
def sp_lies_on (Γ : CL) : GN := fun ds μ R => ∃ p a o L, ds = [plD p, .ref a] ∧ μ a = some (.dct o (lnsD L)) ∧ BtP 7501 p ∧ okLn L ∧ R (.bl (Ink.lieI p L)) μ
end L3

/-! ## RB7 -/
set_option Elab.async false
set_option linter.all false
set_option maxRecDepth 100000
set_option maxHeartbeats 4000000
namespace L3
open PySem NM L2
/-- scaled(strokes) : 0 strokes, 1 scale, 2 stroke, 3 spot, 4 found -/
def rd_scaled (Γ : CL) : RS := (rSeq (rAsg (rCl (sp_common_multiple Γ) (rCons (rLc2 (rISeq (rVar 0)) (rGN 2) rTrue (rITup (rVar 2)) (rGN 3) rTrue (rOp gIx (rVar 3) (rC (.int 2))) [2, 3] [3]) rNil)) (rGN 1))
 (rSeq (rAsg (rLstM rNil) (rGN 4))
 (rSeq (rFor (rISeq (rVar 0)) (rGN 2)
 (rDrop (rMut (rVar 4) (rCons (rCl gTuple (rCons (rLc (rITup (rVar 2)) (rGN 3) rTrue (rTup (rCons (rOp gMul (rOp gIx (rVar 3) (rC (.int 0))) (rOp gDiv (rVar 1) (rOp gIx (rVar 3) (rC (.int 2))))) (rCons (rOp gMul (rOp gIx (rVar 3) (rC (.int 1))) (rOp gDiv (rVar 1) (rOp gIx (rVar 3) (rC (.int 2))))) rNil))) [3]) rNil)) rNil) gAppend)))
 (rRet (rTup (rCons (rVar 1) (rCons (rFrz (rVar 4)) rNil)))))))
/-- line_key(one, other) : 0 one, 1 other, 2 right, 3 up, 4 divisor -/
def rd_line_key (Γ : CL) : RS := (rSeq (rPar 2 3 (rCons (rOp gSub (rOp gIx (rVar 1) (rC (.int 0))) (rOp gIx (rVar 0) (rC (.int 0)))) (rCons (rOp gSub (rOp gIx (rVar 1) (rC (.int 1))) (rOp gIx (rVar 0) (rC (.int 1)))) rNil)))
 (rSeq (rAsg (rCl (sp_common_divisor Γ) (rCons (rVar 2) (rCons (rVar 3) rNil))) (rGN 4))
 (rSeq (rPar 2 3 (rCons (rOp gDiv (rVar 2) (rVar 4)) (rCons (rOp gDiv (rVar 3) (rVar 4)) rNil)))
 (rSeq (rIf (rOr (rB (rOp gLt (rVar 2) (rC (.int 0)))) (rAnd (rB (rOp gEq (rVar 2) (rC (.int 0)))) (rB (rOp gLt (rVar 3) (rC (.int 0))))))
 (rPar 2 3 (rCons (rOp gSub (rC (.int 0)) (rVar 2)) (rCons (rOp gSub (rC (.int 0)) (rVar 3)) rNil)))
 rNext)
 (rRet (rTup (rCons (rVar 2) (rCons (rVar 3) (rCons (rOp gSub (rOp gMul (rOp gIx (rVar 0) (rC (.int 0))) (rVar 3)) (rOp gMul (rOp gIx (rVar 0) (rC (.int 1))) (rVar 2))) rNil)))))))))
def rd_joined_f1 (Γ : CL) : RS := (rIf (rAnd (rB (rOp gNe (rVar 1) (rLst rNil))) (rB (rOp gLeD (rVar 2) (rOp gIx (rOp gIx (rVar 1) (rUn (gU fun i => .int (-i)) (rC (.int 1)))) (rC (.int 1))))))
 (rSetIx (rTup (rCons (rOp gIx (rOp gIx (rVar 1) (rUn (gU fun i => .int (-i)) (rC (.int 1)))) (rC (.int 0))) (rCons (rCl gMaxD (rCons (rOp gIx (rOp gIx (rVar 1) (rUn (gU fun i => .int (-i)) (rC (.int 1)))) (rC (.int 1))) (rCons (rVar 3) rNil))) rNil))) (rVar 1) (rUn (gU fun i => .int (-i)) (rC (.int 1))))
 (rDrop (rMut (rVar 1) (rCons (rTup (rCons (rVar 2) (rCons (rVar 3) rNil))) rNil) gAppend)))
/-- joined(parts) : 0 parts, 1 found, 2 first, 3 last -/
def rd_joined (Γ : CL) : RS := (rSeq (rAsg (rLstM rNil) (rGN 1))
 (rSeq (rFor (rILst (rCl gSorted (rCons (rVar 0) rNil))) (rGTup 2 (rGCons (rGN 2) (rGCons (rGN 3) rGNil)))
 (rd_joined_f1 Γ))
 (rRet (rFrz (rVar 1)))))
def rd_lines_of_f1 (Γ : CL) : RS := (rDrop (rMut (rCDef (rVar 1) (rCl (sp_line_key Γ) (rCons (rVar 3) (rCons (rVar 4) rNil))) (rLstM rNil)) (rCons (rTup (rCons (rCl gMinD (rCons (rVar 3) (rCons (rVar 4) rNil))) (rCons (rCl gMaxD (rCons (rVar 3) (rCons (rVar 4) rNil))) rNil))) rNil) gAppend))
def rd_lines_of_f2 (Γ : CL) : RS := (rFor (rIZip (rCons (rVar 2) (rCons (rSl (rVar 2) (rPart (rC (.int 1))) rNoPart) rNil))) (rGTup 2 (rGCons (rGN 3) (rGCons (rGN 4) rGNil)))
 (rd_lines_of_f1 Γ))
/-- lines_of(strokes) : 0 strokes, 1 parts, 2 stroke, 3 one, 4 other, 5 line, 6 found -/
def rd_lines_of (Γ : CL) : RS := (rSeq (rAsg rCNew (rGN 1))
 (rSeq (rFor (rILst (rVar 0)) (rGN 2)
 (rd_lines_of_f2 Γ))
 (rRet (rDc (rIDct pairC (rVar 1)) (rGTup 2 (rGCons (rGN 5) (rGCons (rGN 6) rGNil))) rTrue (rVar 5) (rCl (sp_joined Γ) (rCons (rVar 6) rNil)) [5, 6]))))
def rd_lies_on_f1 (Γ : CL) : RS := (rIf (rAnd (rB (rOp gEq (rOp gSub (rOp gMul (rOp gIx (rVar 0) (rC (.int 0))) (rVar 3)) (rOp gMul (rOp gIx (rVar 0) (rC (.int 1))) (rVar 2))) (rVar 4))) (rB (rCl gAny (rCons (rLc (rILst (rVar 5)) (rGTup 2 (rGCons (rGN 6) (rGCons (rGN 7) rGNil))) rTrue (rChain gLeD gLeD (rVar 6) (rVar 0) (rVar 7)) [6, 7]) rNil))))
 (rRet (rC (.bl true)))
 rNext)
/-- lies_on(place, lines) : 0 place, 1 lines, 2 right, 3 up, 4 rest, 5 parts, 6 first, 7 last -/
def rd_lies_on (Γ : CL) : RS := (rSeq (rFor (rIDct pairC (rVar 1)) (rGTup 2 (rGCons (rGTup 3 (rGCons (rGN 2) (rGCons (rGN 3) (rGCons (rGN 4) rGNil)))) (rGCons (rGN 5) rGNil)))
 (rd_lies_on_f1 Γ))
 (rRet (rC (.bl false))))
end L3

/-! ## SP8 -/
set_option Elab.async false
set_option linter.all false
set_option maxRecDepth 100000
set_option maxHeartbeats 1000000
/-! Random spots, turns, strokes: finer bounds. -/
namespace L3
open PySem NM L2
def Tiny (z : Num) : Prop := Small z ∧ -6 ≤ z.x ∧ z.x ≤ 6 ∧ -6 ≤ z.y ∧ z.y ≤ 6 ∧ z.d ≤ 4
def growT (t : Num) : Prop := t.d * t.d ≤ 9 * (t.x * t.x + t.y * t.y) ∧ Sz 3 t
def Am.tiny (a : Am) : Prop := a.small ∧ Tiny a.p ∧ growT a.t
def okTn (s : Stk) : Prop := okSm s ∧ ∀ z ∈ s, Tiny z
def sp_law_spotT (Γ : CL) : GN := fun ds μ R => ∃ g xs, ds = [.ref g] ∧ μ g = some (.lst xs) ∧ RL xs ∧ ∀ z ys, Tiny z → RL ys → R (numD z) (updM μ g (.lst ys))
def sp_law_strokeT (Γ : CL) : GN := fun ds μ R => ∃ g xs, ds = [.ref g, .int 4] ∧ μ g = some (.lst xs) ∧ RL xs ∧ ∀ s ys, okTn s → RL ys → R (strD s) (updM μ g (.lst ys))
def sp_law_strokesT (Γ : CL) : GN := fun ds μ R => ∃ g n xs, ds = [.ref g, .int n] ∧ 0 ≤ n ∧ n ≤ 20 ∧ μ g = some (.lst xs) ∧ RL xs ∧ ∀ (ss : List Stk) ys, (ss.length : Int) ≤ n → (∀ s ∈ ss, okTn s) → RL ys → R (strsD ss) (updM μ g (.lst ys))
end L3

/-! ## L7a -/
set_option Elab.async false
set_option linter.all false
set_option maxRecDepth 100000
set_option maxHeartbeats 4000000
/-! sorted(set(list of tuples of ints)). -/
namespace L3
open PySem PySem.Spec PyProof.Rows L2
section
variable {X : Cx}
end
section
variable {X : Cx} {n : Nat} {e : Expr} {fa : RA} {p p2 pos pos2 : Pos}
end
end L3

/-! ## RB8 -/
set_option Elab.async false
set_option linter.all false
set_option maxRecDepth 100000
set_option maxHeartbeats 4000000
namespace L3
open PySem NM L2
/-- _law_spot(_law_d) : 0 _law_d, 1 _law_below_here -/
def rd_law_spotT (Γ : CL) : RS := (rSeq (rAsg (rOp gIx (rLst (rCons (rC (.int 1)) (rCons (rC (.int 1)) (rCons (rC (.int 1)) (rCons (rC (.int 2)) (rCons (rC (.int 3)) (rCons (rC (.int 4)) rNil))))))) (rCl (sp_law_below Γ) (rCons (rVar 0) (rCons (rC (.int 6)) rNil)))) (rGN 1))
 (rRet (rCl (sp_law_lowest Γ) (rCons (rOp gSub (rCl (sp_law_below Γ) (rCons (rVar 0) (rCons (rC (.int 13)) rNil))) (rC (.int 6))) (rCons (rOp gSub (rCl (sp_law_below Γ) (rCons (rVar 0) (rCons (rC (.int 13)) rNil))) (rC (.int 6))) (rCons (rVar 1) rNil))))))
/-- _law_stroke(_law_d, _law_most) : 0 _law_d, 1 _law_most, 2 _law_stroke_here, 3 _law_k, 4 _law_spot_here -/
def rd_law_strokeT (Γ : CL) : RS := (rSeq (rAsg (rTup (rCons (rCl (sp_law_step Γ) (rCons (rVar 0) (rCons (rC (.int 3)) rNil))) rNil)) (rGN 2))
 (rSeq (rFor (rIRng1 (rCons (rCl (sp_law_below Γ) (rCons (rVar 0) (rCons (rVar 1) rNil))) rNil)) (rGN 3)
 (rSeq (rAsg (rIfE (rB (rOp gGt (rCl (sp_law_below Γ) (rCons (rVar 0) (rCons (rC (.int 6)) rNil))) (rC (.int 0)))) (rCl (sp_law_step Γ) (rCons (rVar 0) (rCons (rC (.int 3)) rNil))) (rCl (sp_law_spotT Γ) (rCons (rVar 0) rNil))) (rGN 4))
 (rIf (rB (rOp gNe (rVar 4) (rOp gIx (rVar 2) (rUn (gU fun i => .int (-i)) (rC (.int 1))))))
 (rAsg (rOp gAdd (rVar 2) (rTup (rCons (rVar 4) rNil))) (rGN 2))
 rNext)))
 (rRet (rVar 2))))
/-- _law_strokes(_law_d, _law_most) : 0 _law_d, 1 _law_most, 2 _law_k -/
def rd_law_strokesT (Γ : CL) : RS := (rRet (rCl gTuple (rCons (rLc (rIRng1 (rCons (rCl (sp_law_below Γ) (rCons (rVar 0) (rCons (rOp gAdd (rVar 1) (rC (.int 1))) rNil))) rNil)) (rGN 2) rTrue (rCl (sp_law_strokeT Γ) (rCons (rVar 0) (rCons (rC (.int 4)) rNil))) [2]) rNil)))
end L3

/-! ## SP9 -/
set_option Elab.async false
set_option linter.all false
set_option maxRecDepth 100000
set_option maxHeartbeats 1000000
/-! Copies that carry pairs of spots. -/
namespace L3
open PySem NM L2
def Cp.tn (c : Cp) : Prop := c.small ∧ c.sz 3
end L3

/-! ## RB9 -/
set_option Elab.async false
set_option linter.all false
set_option maxRecDepth 100000
set_option maxHeartbeats 4000000
namespace L3
open PySem NM L2
end L3

/-! ## SP10 -/
set_option Elab.async false
set_option linter.all false
set_option maxRecDepth 100000
set_option maxHeartbeats 1000000
/-! The laws' own words for what strokes cover. -/
namespace L3
open PySem NM L2
def aheadB (a b : Num) : Bool := decide (a.x * b.d - b.x * a.d < 0) || ((a.x * b.d - b.x * a.d == 0) && decide (a.y * b.d < b.y * a.d))
def liesB (z a b : Num) : Bool := ((sub z a).x * (sub b a).y == (sub z a).y * (sub b a).x) && (if aheadB b a then !aheadB z b && !aheadB a z else !aheadB z a && !aheadB b z)
def onStB (z : Num) (s : Stk) : Bool := (match s with | [] => false | a :: _ => decide (z = a)) || (segs s).any fun y => liesB z y.1 y.2
def coversB (ss : List Stk) (z : Num) : Bool := ss.any (onStB z)
def okZ3 (z : Num) : Prop := Can z ∧ Sz 300 z
def okL3 (ss : List Stk) : Prop := ss.length ≤ 1000 ∧ ∀ s ∈ ss, 1 ≤ s.length ∧ s.length ≤ 1000 ∧ ∀ z ∈ s, okZ3 z
def sp_law_ahead (Γ : CL) : GN := fun ds μ R => ∃ a b, ds = [numD a, numD b] ∧ Sz 1000 a ∧ Sz 1000 b ∧ R (.bl (aheadB a b)) μ
def sp_law_lies (Γ : CL) : GN := fun ds μ R => ∃ z a b, ds = [numD z, numD a, numD b] ∧ okZ3 z ∧ okZ3 a ∧ okZ3 b ∧ R (.bl (liesB z a b)) μ
def sp_law_covers (Γ : CL) : GN := fun ds μ R => ∃ ss z, ds = [strsD ss, numD z] ∧ okL3 ss ∧ okZ3 z ∧ R (.bl (coversB ss z)) μ
/-! ### crossings -/
open Ink (Pl Sg Ky Q2)
def pl1 (p : Pl) : Num := ⟨p.1, p.2, 1⟩
def btwI (v a b d : Int) : Bool := decide ((if b < a then b else a) * d ≤ v) && decide (v ≤ (if b > a then b else a) * d)
def besideB (z : Num) (p q : Pl) : Bool := btwI z.x p.1 q.1 z.d && btwI z.y p.2 q.2 z.d
def turnI (k l : Ky) : Int := k.1 * l.2.1 - k.2.1 * l.1
def crossZ (k l : Ky) : Num := low (k.1 * l.2.2 - l.1 * k.2.2) (k.2.1 * l.2.2 - l.2.1 * k.2.2) (turnI k l)
open Classical in
noncomputable def crossL (k : Ky) (p q : Pl) (l : Ky) (a b : Pl) : Option Stk :=
  if turnI k l = 0 then (if k.2.2 ≠ l.2.2 ∨ Ink.ltI (Ink.minI q b) (Ink.maxI p a) then none else some (if Ink.maxI p a = Ink.minI q b then [pl1 (Ink.maxI p a)] else [pl1 (Ink.maxI p a), pl1 (Ink.minI q b)]))
  else if besideB (crossZ k l) p q = true ∧ besideB (crossZ k l) a b = true then some [crossZ k l] else none
def stkO : Option Stk → D
  | none => .non
  | some s => strD s
def okKy (k : Ky) : Prop := Bt 1501 k.1 ∧ Bt 1501 k.2.1 ∧ Bt 3003 k.2.2
def strkD (k : Ky) (p q : Pl) : D := .tup [kyD k, plD p, plD q]
noncomputable def sp_crossing (Γ : CL) : GN := fun ds μ R => ∃ k p q l a b, ds = [strkD k p q, strkD l a b] ∧ okKy k ∧ okKy l ∧ BtP 1500 p ∧ BtP 1500 q ∧ BtP 1500 a ∧ BtP 1500 b ∧ R (stkO (crossL k p q l a b)) μ
/-- two drawings that are not too large: places of m bits, lines' directions of e bits, c pairs of parts -/
structure okC (N : Int) (n m e c : Nat) (as bs : List Stk) : Prop where
  ok : okI N (as ++ bs)
  a12 : as.length ≤ 12
  b12 : bs.length ≤ 12
  bn : Bt n N
  pl : ∀ S : Int, S ∣ N → okS S (as ++ bs) → ∀ s ∈ as ++ bs, ∀ z ∈ s, BtP m (plI S z)
  dr : ∀ S : Int, S ∣ N → okS S (as ++ bs) → ∀ s ∈ as ++ bs, ∀ y ∈ segs s, Bt e (Ink.keyI (plI S y.1) (plI S y.2)).1 ∧ Bt e (Ink.keyI (plI S y.1) (plI S y.2)).2.1
  cn : (inkS as).lines.length * (inkS bs).lines.length ≤ c
  le : as.length + bs.length + c ≤ 500
  hm : m ≤ 1500
  he : e ≤ 1501
  h0 : m + e + 1 ≤ 3003
  h1 : m + 2 * e + 2 ≤ 1500
  h2 : 2 * e + 1 + n ≤ 1500
  h3 : n + (1 + (2 * e + 1) * c) ≤ 6000
end L3

/-! ## RB10 -/
set_option Elab.async false
set_option linter.all false
set_option maxRecDepth 100000
set_option maxHeartbeats 4000000
namespace L3
open PySem NM L2
def rd_common_f2 (Γ : CL) : RS := (rDrop (rMut (rVar 12) (rCons (rLc (rILst (rOp gIx (rVar 7) (rC (.int 1)))) (rGN 14) rTrue (rCl (sp_crossing Γ) (rCons (rVar 13) (rCons (rVar 14) rNil))) [14]) rNil) gExtend))
/-- _law_ahead(_law_one, _law_other) : 0 _law_one, 1 _law_other, 2 _law_right -/
def rd_law_ahead (Γ : CL) : RS := (rSeq (rAsg (rOp gSub (rOp gMul (rOp gIx (rVar 0) (rC (.int 0))) (rOp gIx (rVar 1) (rC (.int 2)))) (rOp gMul (rOp gIx (rVar 1) (rC (.int 0))) (rOp gIx (rVar 0) (rC (.int 2))))) (rGN 2))
 (rRet (rOrV (rOp gLt (rVar 2) (rC (.int 0))) (rAndV (rOp gEq (rVar 2) (rC (.int 0))) (rOp gLt (rOp gMul (rOp gIx (rVar 0) (rC (.int 1))) (rOp gIx (rVar 1) (rC (.int 2)))) (rOp gMul (rOp gIx (rVar 1) (rC (.int 1))) (rOp gIx (rVar 0) (rC (.int 2)))))))))
/-- _law_lies(_law_spot_here, _law_one, _law_other) : 0 _law_spot_here, 1 _law_one, 2 _law_other, 3 _law_here, 4 _law_there, 5 _law_low, 6 _law_high -/
def rd_law_lies (Γ : CL) : RS := (rSeq (rPar 3 4 (rCons (rCl (sp_law_minus Γ) (rCons (rVar 0) (rCons (rVar 1) rNil))) (rCons (rCl (sp_law_minus Γ) (rCons (rVar 2) (rCons (rVar 1) rNil))) rNil)))
 (rSeq (rIf (rB (rOp gNe (rOp gMul (rOp gIx (rVar 3) (rC (.int 0))) (rOp gIx (rVar 4) (rC (.int 1)))) (rOp gMul (rOp gIx (rVar 3) (rC (.int 1))) (rOp gIx (rVar 4) (rC (.int 0))))))
 (rRet (rC (.bl false)))
 rNext)
 (rSeq (rAsg (rIfE (rB (rCl (sp_law_ahead Γ) (rCons (rVar 2) (rCons (rVar 1) rNil)))) (rLst (rCons (rVar 2) (rCons (rVar 1) rNil))) (rLst (rCons (rVar 1) (rCons (rVar 2) rNil)))) (rGLst 2 (rGCons (rGN 5) (rGCons (rGN 6) rGNil))))
 (rRet (rAndV (rNotV (rCl (sp_law_ahead Γ) (rCons (rVar 0) (rCons (rVar 5) rNil)))) (rNotV (rCl (sp_law_ahead Γ) (rCons (rVar 6) (rCons (rVar 0) rNil)))))))))
/-- _law_covers(_law_strokes_here, _law_spot_here) : 0 _law_strokes_here, 1 _law_spot_here, 2 _law_stroke_here, 3 _law_k -/
def rd_law_covers (Γ : CL) : RS := (rSeq (rFor (rITup (rVar 0)) (rGN 2)
 (rSeq (rIf (rB (rOp gEq (rVar 1) (rOp gIx (rVar 2) (rC (.int 0)))))
 (rRet (rC (.bl true)))
 rNext)
 (rIf (rB (rOp gNe (rLc (rIRng1 (rCons (rOp gSub (rCl gLen (rCons (rVar 2) rNil)) (rC (.int 1))) rNil)) (rGN 3) (rB (rCl (sp_law_lies Γ) (rCons (rVar 1) (rCons (rOp gIx (rVar 2) (rVar 3)) (rCons (rOp gIx (rVar 2) (rOp gAdd (rVar 3) (rC (.int 1)))) rNil))))) (rVar 3) [3]) (rLst rNil)))
 (rRet (rC (.bl true)))
 rNext)))
 (rRet (rC (.bl false))))
end L3

/-! ## SP11 -/
set_option Elab.async false
set_option linter.all false
set_option maxRecDepth 100000
set_option maxHeartbeats 1000000
/-! More of the laws' own words. -/
namespace L3
open PySem NM L2
end L3

/-! ## RB11 -/
set_option Elab.async false
set_option linter.all false
set_option maxRecDepth 100000
set_option maxHeartbeats 4000000
namespace L3
open PySem NM L2
end L3

/-! ## SP12 -/
set_option Elab.async false
set_option linter.all false
set_option maxRecDepth 100000
set_option maxHeartbeats 1000000
/-! Spots by their places, measures of drawings. -/
namespace L3
open PySem NM L2
structure isMeas (zs : List Num) (a b c d : Rat) : Prop where
  lx : (∃ z ∈ zs, re z = a) ∧ ∀ z ∈ zs, a ≤ re z
  hx : (∃ z ∈ zs, re z = b) ∧ ∀ z ∈ zs, re z ≤ b
  ly : (∃ z ∈ zs, im z = c) ∧ ∀ z ∈ zs, c ≤ im z
  hy : (∃ z ∈ zs, im z = d) ∧ ∀ z ∈ zs, im z ≤ d
end L3

/-! ## RB12 -/
set_option Elab.async false
set_option linter.all false
set_option maxRecDepth 100000
set_option maxHeartbeats 4000000
namespace L3
open PySem NM L2
end L3

/-! ## SP13 -/
set_option Elab.async false
set_option linter.all false
set_option maxRecDepth 100000
set_option maxHeartbeats 1000000
/-! Spots that stand in order; covers, told what is no spot. -/
namespace L3
open PySem NM L2
end L3

/-! ## RB13 -/
set_option Elab.async false
set_option linter.all false
set_option maxRecDepth 100000
set_option maxHeartbeats 4000000
namespace L3
open PySem NM L2
end L3

/-! ## L8c -/
set_option Elab.async false
set_option linter.all false
set_option maxRecDepth 100000
set_option maxHeartbeats 4000000
/-! Texts: join, split, a sign of a text. -/
namespace L3
open PySem PySem.Spec PySem.Calls PyProof.Rows L2
theorem reps_strs {K : PySem.W.Frag} {S : Hp} : ∀ {vs : List V} (ys : List Str), Reps K S vs (ys.map D.str) → vs = ys.map V.str
  | _, [], .nil => rfl
  | _, y :: ys, .cons h r => by rw [h.toStr, reps_strs ys r]; rfl
theorem strs_reps {K : PySem.W.Frag} {S : Hp} : ∀ ys : List Str, Reps K S (ys.map V.str) (ys.map D.str)
  | [] => .nil
  | y :: ys => .cons (.str y) (strs_reps ys)
def rJoin (fo fe : RX) : RX := fun ρ μ R => fo ρ μ fun x μ1 => match x with
  | .str a => fe ρ μ1 fun d μ2 => ∃ ys : List Str, seqD (res μ2 d) = some (ys.map D.str) ∧ (ys.map (·.length)).sum + ys.length * a.length ≤ 16777216 ∧ R (.str (Txt.join a ys)) μ2
  | _ => False
def rSplit (fo fe : RX) : RX := fun ρ μ R => fo ρ μ fun x μ1 => match x with
  | .str a => fe ρ μ1 fun d μ2 => match d with
    | .str b => (b.length == 0) = false ∧ a.length + 2 ≤ sizeLine ∧ R (.lst ((Txt.split a b).map D.str)) μ2
    | _ => False
  | _ => False
def gIxS : G2 := fun x y μ R => match x, y with
  | .str z, .int i => z.length ≤ sizeLine ∧ ∃ c, atI z.cps.toList i = some c ∧ R (.str ⟨#[c]⟩) μ
  | _, _ => False
section
variable {X : Cx} {o e a b : Expr} {fo fe fa fb : RX} {apos pos : Pos}
theorem de_join (ho : DE X o fo) (he : DE X e fe) (hs : starEach [e] X.env = [(false, eval e X.env)] := by rfl) (hbase : attributeBase o "join" X.env (eval o X.env) = eval o X.env := by rfl) (hline : (apos.endLine == pos.line) = true := by rfl) : DE X (.Call (.Attribute o "join" apos) [e] [] pos) (rJoin fo fe) :=
  pe_imp (pe_join ho he hs hbase hline) fun σ H Q ⟨S, μ, ρ, R, k, e, h, post⟩ => by
  refine ⟨S, μ, ρ, _, k, e, h, fun S1 μ1 H1 v1 d1 k1 s1 r1 h1 => ?_⟩
  cases d1 with
  | str a =>
    cases r1.toStr
    refine ⟨⟨a, rfl⟩, S1, μ1, ρ, _, k1, e.mono s1.same, h1, fun S2 μ2 H2 v2 d2 k2 s2 r2 h2 => ?_⟩
    obtain ⟨ys, hd, hz, hR⟩ := h2
    obtain ⟨p, vs, rfl, hp, rv⟩ := seq_rep k2 r2 hd
    obtain rfl := reps_strs ys rv
    exact ⟨a, p, ys, rfl, rfl, hp, hz, post _ _ _ _ _ k2 (s1.trans s2) (.str _) hR⟩
  | _ => exact h1.elim
theorem de_split (ho : DE X o fo) (he : DE X e fe) (hs : starEach [e] X.env = [(false, eval e X.env)] := by rfl) (hbase : attributeBase o "split" X.env (eval o X.env) = eval o X.env := by rfl) (hline : (apos.endLine == pos.line) = true := by rfl) : DE X (.Call (.Attribute o "split" apos) [e] [] pos) (rSplit fo fe) :=
  pe_imp (pe_split ho he hs hbase hline) fun σ H Q ⟨S, μ, ρ, R, k, e, h, post⟩ => by
  refine ⟨S, μ, ρ, _, k, e, h, fun S1 μ1 H1 v1 d1 k1 s1 r1 h1 => ?_⟩
  cases d1 with
  | str a =>
    cases r1.toStr
    refine ⟨⟨a, rfl⟩, S1, μ1, ρ, _, k1, e.mono s1.same, h1, fun S2 μ2 H2 v2 d2 k2 s2 r2 h2 => ?_⟩
    cases d2 with
    | str b =>
      cases r2.toStr
      obtain ⟨hb, hz, hR⟩ := h2
      refine ⟨a, b, rfl, rfl, hb, hz, fun p hp => ?_⟩
      obtain ⟨k3, s3⟩ := k2.alloc (o := .lst ((Txt.split a b).map V.str)) hp
      exact post _ _ _ _ _ k3 ((s1.trans s2).trans s3) (.lst upd_same (strs_reps _)) hR
    | _ => exact h2.elim
  | _ => exact h1.elim
theorem snd_ixS : Snd2 X.K rIxS gIxS := by
  intro S μ H x y dx dy R Q k rx ry q post
  unfold gIxS at q
  cases dx with
  | str z =>
    cases dy with
    | int i =>
      cases rx.toStr
      cases ry.toInt
      obtain ⟨hz, c, hc, hR⟩ := q
      exact ⟨z, i, c, rfl, rfl, hz, hc, post _ _ _ _ _ k .refl (.str _) hR⟩
    | _ => exact q.elim
  | _ => exact q.elim
theorem de_ixS (ha : DE X a fa) (hb : DE X b fb) (hs : PlainIx b := by intro _ _; rfl) : DE X (.Subscript a b pos) (rOp gIxS fa fb) := pe_imp (pe_ix ix_str ha hb hs) (up_op snd_ixS)
end
end L3

/-! ## SP14 -/
set_option Elab.async false
set_option linter.all false
set_option maxRecDepth 100000
set_option maxHeartbeats 1000000
/-! Pictures. -/
namespace L3
open PySem PySem.Spec PySem.Calls PyProof.Rows L2 NM
open Classical in
noncomputable def pixS (ss : List Stk) (x y : Int) : Str := if covS ss ((x : Rat), (y : Rat)) then "#" else "."
noncomputable def rowS (ss : List Stk) (n y : Int) : Str := Txt.join "" ((sideL n).map fun x => pixS ss x y)
noncomputable def rowsS (ss : List Stk) (n : Int) : List Str := (sideL n).reverse.map (rowS ss n)
noncomputable def sp_picture (Γ : CL) : GN := fun ds μ R => ∃ ss N n, ds = [drawD Γ ss, .int n] ∧ okI N ss ∧ 0 ≤ n ∧ n ≤ 20 ∧ R (.str (Txt.join "\n" (rowsS ss n))) μ
end L3

/-! ## RB14 -/
set_option Elab.async false
set_option linter.all false
set_option maxRecDepth 100000
set_option maxHeartbeats 4000000
namespace L3
open PySem NM L2
/-- picture(drawing, limit) : 0 drawing, 1 limit, 2 scale, 3 places, 4 lines, 5 dots, 6 stroke, 7 rows, 8 numbers, 9 y, 10 covered, 11 x, 12 is_covered -/
def rd_picture (Γ : CL) : RS := (rSeq (rIf (rNot (rB (rCl (sp_is_int_in Γ) (rCons (rVar 1) (rCons (rC (.int 0)) (rCons (rC c_MAX_SIZE) rNil))))))
 rNever
 rNext)
 (rSeq (rAsg (rCl (sp_scaled Γ) (rCons (rFld Γ.Drawing "strokes" (rVar 0)) rNil)) (rGTup 2 (rGCons (rGN 2) (rGCons (rGN 3) rGNil))))
 (rSeq (rAsg (rCl (sp_lines_of Γ) (rCons (rVar 3) rNil)) (rGN 4))
 (rSeq (rAsg (rLc (rILst (rVar 3)) (rGN 6) (rB (rOp gEq (rCl gLen (rCons (rVar 6) rNil)) (rC (.int 1)))) (rOp gIx (rVar 6) (rC (.int 0))) [6]) (rGN 5))
 (rSeq (rPar 7 8 (rCons (rLstM rNil) (rCons (rLRg2 (rOp gSub (rC (.int 0)) (rVar 1)) (rOp gAdd (rVar 1) (rC (.int 1)))) rNil)))
 (rSeq (rFor (rILst (rRevL (rVar 8))) (rGN 9)
 (rSeq (rAsg (rLc (rILst (rVar 8)) (rGN 11) rTrue (rOrV (rOp gIn (rTup (rCons (rOp gMul (rVar 11) (rVar 2)) (rCons (rOp gMul (rVar 9) (rVar 2)) rNil))) (rVar 5)) (rCl (sp_lies_on Γ) (rCons (rTup (rCons (rOp gMul (rVar 11) (rVar 2)) (rCons (rOp gMul (rVar 9) (rVar 2)) rNil))) (rCons (rVar 4) rNil)))) [11]) (rGN 10))
 (rDrop (rMut (rVar 7) (rCons (rJoin (rC (.str "")) (rLc (rILst (rVar 10)) (rGN 12) rTrue (rIfE (rB (rVar 12)) (rC (.str "#")) (rC (.str "."))) [12])) rNil) gAppend))))
 (rRet (rJoin (rC (.str "\n")) (rVar 7)))))))))
end L3

/-! ## L8d -/
set_option Elab.async false
set_option linter.all false
set_option maxRecDepth 100000
set_option maxHeartbeats 4000000
/-! A text times an int; range with a step of minus one. -/
namespace L3
open PySem PySem.Spec PySem.Calls PyProof.Rows L2
def repS (a : Str) (n : Nat) : Str := ⟨(List.replicate n a.cps).foldl (· ++ ·) #[]⟩
def rMulS : R2 := fun x y H Q => ∃ a n, x = .str a ∧ y = .int n ∧ 2 ≤ n ∧ n ≤ 1000 ∧ 1 ≤ a.length ∧ a.length ≤ 1000 ∧ (repS a n.toNat).length ≤ 1000000 ∧ Q (.str (repS a n.toNat)) H
section
variable {X : Cx}
theorem op_mulS : OpR X (binaryOp .Mult) rMulS := by
  intro pins s σ H x y v u Q I rx ry h
  obtain ⟨a, n, rfl, rfl, n1, n2, a1, a2, hz, q⟩ := h
  obtain ⟨t, rfl⟩ := rx
  obtain ⟨t', rfl⟩ := ry
  refine PySem.P.mul_str ?_ (fun _ _ => ?_) (fun _ _ => ?_) ?_
  · rw [decide_eq_false (by omega), decide_eq_false (by omega)]; rfl
  · intro hh
    have h2 : n * 1000 ≤ 2 ^ 63 - 1 := by omega
    have h3 : (1000 : Int) ≤ (2 ^ 63 - 1) / n := (Int.le_ediv_iff_mul_le (by omega)).mpr (by omega)
    omega
  · have : a.length * n.toNat ≤ 1000 * 1000 := Nat.mul_le_mul a2 (by omega)
    refine decide_eq_false ?_
    rw [sizeLine_eq]
    omega
  · rw [if_neg (by omega), if_neg (by
      rw [Bool.not_eq_true, Bool.or_eq_false_iff]
      exact ⟨beq_false_of_ne (by omega), beq_false_of_ne (by omega)⟩)]
    refine ⟨?_, .str (repS a n.toNat), H, I.tok _, ⟨_, rfl⟩, q⟩
    show (repS a n.toNat).length ≤ sizeLine
    rw [sizeLine_eq]
    omega
end
def gMulS : G2 := fun x y μ R => match x, y with
  | .str a, .int n => 2 ≤ n ∧ n ≤ 1000 ∧ 1 ≤ a.length ∧ a.length ≤ 1000 ∧ (repS a n.toNat).length ≤ 1000000 ∧ R (.str (repS a n.toNat)) μ
  | _, _ => False
theorem snd_mulS {K : PySem.W.Frag} : Snd2 K rMulS gMulS := by
  intro S μ H x y dx dy R Q k rx ry q post
  unfold gMulS at q
  cases dx with
  | str a =>
    cases dy with
    | int n =>
      cases rx.toStr
      cases ry.toInt
      obtain ⟨n1, n2, a1, a2, hz, hR⟩ := q
      exact ⟨a, n, rfl, rfl, n1, n2, a1, a2, hz, post _ _ _ _ _ k .refl (.str _) hR⟩
    | _ => exact q.elim
  | _ => exact q.elim
/-- lo, lo - 1, .. (n of them) -/
def downD (lo : Int) : Nat → List D
  | 0 => []
  | n + 1 => .int lo :: downD (lo - 1) n
theorem downD_get : ∀ (n : Nat) (lo : Int) (i : Nat), (downD lo n)[i]? = if i < n then some (.int (lo + (i : Nat) * (-1))) else none
  | 0, _, _ => by simp [downD]
  | n + 1, lo, 0 => by simp [downD]
  | n + 1, lo, i + 1 => by
    show (downD (lo - 1) n)[i]? = _
    rw [downD_get n (lo - 1) i]
    by_cases h : i < n
    · rw [if_pos h, if_pos (by omega)]
      congr 2
      omega
    · rw [if_neg h, if_neg (by omega)]
theorem downD_len : ∀ (n : Nat) (lo : Int), (downD lo n).length = n
  | 0, _ => rfl
  | n + 1, lo => congrArg Nat.succ (downD_len n (lo - 1))
theorem itok_down {K : PySem.W.Frag} {S : Hp} {lo : Int} {n : Nat} {C : MH → Prop} : ItOk K S (Itc lo (-1) n) (downD lo n) C := fun S1 μ1 H1 k1 e1 c1 i => by
  refine ⟨fun d hd => ?_, fun hi => ?_⟩
  · rw [downD_get] at hd
    by_cases h : i < n
    · rw [if_pos h] at hd
      cases hd
      refine ⟨h, fun x H' ⟨eH, ex⟩ => ?_⟩
      subst eH ex
      exact ⟨S1, k1, .refl, .int _⟩
    · rw [if_neg h] at hd; cases hd
  · rw [downD_len] at hi; exact Nat.le_of_eq hi.symm
def rIRng3 (fa : RA) : RI := fun ρ μ R => fa ρ μ fun ds μ1 => match ds with
  | [.int i, .int j, .int c] => c = -1 ∧ inR i ∧ inR j ∧ R (downD i (i - j).toNat) tru μ1
  | _ => False
section
variable {X : Cx} {tg a b c : Expr} {fa fb : RX} {ga : RA} {p pos : Pos}
theorem de_mulS (ha : DE X a fa) (hb : DE X b fb) : DE X (.BinOp a .Mult b pos) (rOp gMulS fa fb) := de_op op_mulS snd_mulS ha hb
theorem di_range3 (hg : Gl X "range") (hm : X.mg "range" = none) (ha : DA X [a, b, c] ga)
    (hs : starEach [a, b, c] X.env = (false, eval a X.env) :: starEach [b, c] X.env := by rfl) (hpl : (backTo pos (starEach [b, c] X.env)).any (·.1) = false := by rfl) :
    DI X tg (.Call (.Name "range" p) [a, b, c] [] pos) (rIRng3 ga) := pi_imp (pi_range3 hg hm ha hs hpl) fun σ H R ⟨S, μ, ρ, RR, k, e, h, post⟩ => by
  refine ⟨S, μ, ρ, _, k, e, h, fun S1 μ1 H1 ws ds k1 s1 r1 q1 => ?_⟩
  unfold rIRng3 at q1
  split at q1
  · cases r1 with
    | cons r2 rr =>
      obtain ⟨v, w, rfl, r3, r4⟩ := reps2 rr
      cases r2.toInt
      cases r3.toInt
      cases r4.toInt
      obtain ⟨rfl, ⟨a1, a2⟩, ⟨a3, a4⟩, q1⟩ := q1
      exact ⟨_, _, _, _, rfl, RgC.neg a1 a2 a3 a4, post S1 μ1 H1 _ _ tru k1 s1 itok_down q1⟩
  · exact q1.elim
end
end L3

/-! ## SP15 -/
set_option Elab.async false
set_option linter.all false
set_option maxRecDepth 100000
set_option maxHeartbeats 1000000
/-! Pictures that cannot be. -/
namespace L3
open PySem PySem.Spec PySem.Calls PyProof.Rows L2 NM
def spx_picture (Γ : CL) : GX := fun ds μ R re => ∃ x d, ds = [x, d] ∧ okD d = true ∧ inIntD d 0 20 = false ∧ re (Γ.gx "InvalidSize") [] μ
end L3

/-! ## RB15 -/
set_option Elab.async false
set_option linter.all false
set_option maxRecDepth 100000
set_option maxHeartbeats 4000000
namespace L3
open PySem NM L2
/-- picture(drawing, limit), that may raise : 0 drawing, 1 limit, 2 scale, 3 places, 4 lines, 5 dots, 6 stroke, 7 rows, 8 numbers, 9 y, 10 covered, 11 x, 12 is_covered -/
def rdx_picture (Γ : CL) : RS := (rSeq (rIf (rNot (rB (rCl (sp_is_int_in Γ) (rCons (rVar 1) (rCons (rC (.int 0)) (rCons (rC c_MAX_SIZE) rNil))))))
 (rRaise (Γ.gx "InvalidSize"))
 rNext)
 (rSeq (rAsg (rCl (sp_scaled Γ) (rCons (rFld Γ.Drawing "strokes" (rVar 0)) rNil)) (rGTup 2 (rGCons (rGN 2) (rGCons (rGN 3) rGNil))))
 (rSeq (rAsg (rCl (sp_lines_of Γ) (rCons (rVar 3) rNil)) (rGN 4))
 (rSeq (rAsg (rLc (rILst (rVar 3)) (rGN 6) (rB (rOp gEq (rCl gLen (rCons (rVar 6) rNil)) (rC (.int 1)))) (rOp gIx (rVar 6) (rC (.int 0))) [6]) (rGN 5))
 (rSeq (rPar 7 8 (rCons (rLstM rNil) (rCons (rLRg2 (rOp gSub (rC (.int 0)) (rVar 1)) (rOp gAdd (rVar 1) (rC (.int 1)))) rNil)))
 (rSeq (rFor (rILst (rRevL (rVar 8))) (rGN 9)
 (rSeq (rAsg (rLc (rILst (rVar 8)) (rGN 11) rTrue (rOrV (rOp gIn (rTup (rCons (rOp gMul (rVar 11) (rVar 2)) (rCons (rOp gMul (rVar 9) (rVar 2)) rNil))) (rVar 5)) (rCl (sp_lies_on Γ) (rCons (rTup (rCons (rOp gMul (rVar 11) (rVar 2)) (rCons (rOp gMul (rVar 9) (rVar 2)) rNil))) (rCons (rVar 4) rNil)))) [11]) (rGN 10))
 (rDrop (rMut (rVar 7) (rCons (rJoin (rC (.str "")) (rLc (rILst (rVar 10)) (rGN 12) rTrue (rIfE (rB (rVar 12)) (rC (.str "#")) (rC (.str "."))) [12])) rNil) gAppend))))
 (rRet (rJoin (rC (.str "\n")) (rVar 7)))))))))
end L3

/-! ## R_k34 -/
set_option Elab.async false
set_option linter.all false
set_option maxRecDepth 100000
set_option maxHeartbeats 4000000
namespace L3.K34
open PySem NM L2
def errL : List Nat := [9]
def rd_law_f1 (Γ : CL) : RS := (rAsg (rOp gAdd (rVar 7) (rOp gIxS (rC (.str ".#")) (rCl gInt (rCons (rCl (sp_law_covers Γ) (rCons (rVar 2) (rCons (rTup (rCons (rVar 8) (rCons (rVar 6) (rCons (rC (.int 1)) rNil)))) rNil))) rNil)))) (rGN 7))
def rd_law_f2 (Γ : CL) : RS := (rSeq (rAsg (rC (.str "")) (rGN 7))
 (rSeq (rFor (rIRng2 (rCons (rOp gSub (rC (.int 0)) (rVar 3)) (rCons (rOp gAdd (rVar 3) (rC (.int 1))) rNil))) (rGN 8)
 (rd_law_f1 Γ))
 (rDrop (rMut (rVar 5) (rCons (rVar 7) rNil) gAppend))))
def rd_law_t1 (Γ : CL) : RS := (rSeq (rAsg (rOp gIx (rLst (rCons (rOp gSub (rC (.int 0)) (rC (.int 1))) (rCons (rC (.int 21)) (rCons (rC .non) (rCons (rC (.bl true)) (rCons (rC (.str "3")) rNil)))))) (rCl (sp_law_below Γ) (rCons (rVar 1) (rCons (rC (.int 5)) rNil)))) (rGN 11))
 (rRet (rOp gEq (rErrOf Γ.tab lamQ (resE Γ errL) (rClX (spx_picture Γ) (rCons (rVar 4) (rCons (rVar 11) rNil)))) (rTup (rCons (rC (.str "size")) (rCons (rC (.int 0)) rNil))))))
def rd_law_t2 (Γ : CL) : RS := (rSeq (rIf (rB (rOp gNe (rVar 10) (rJoin (rC (.str "\n")) (rOp gRep (rLst (rCons (rOp gMulS (rC (.str ".")) (rC (.int 41))) rNil)) (rC (.int 41))))))
 (rRet (rC (.bl false)))
 rNext)
 (rd_law_t1 Γ))
def rd_law_t3 (Γ : CL) : RS := (rSeq (rAsg (rCl (sp_picture Γ) (rCons (rCl (gMakeS Γ.Drawing (sp_Drawing___init Γ)) rNil) (rCons (rC (.int 20)) rNil))) (rGN 10))
 (rd_law_t2 Γ))
def rd_law_t4 (Γ : CL) : RS := (rSeq (rIf (rB (rOp gNe (rSplit (rVar 9) (rC (.str "\n"))) (rRevL (rVar 5))))
 (rRet (rC (.bl false)))
 rNext)
 (rd_law_t3 Γ))
def rd_law_t5 (Γ : CL) : RS := (rSeq (rAsg (rCl (sp_picture Γ) (rCons (rMeth Γ.Drawing "copied" (sp_Drawing_copied Γ) (rVar 4) (rCons (rMakeK (gMake Γ.Copy (sp_Copy___init Γ)) 2 1 gD_Copy_mirrored (rCons (rTup (rCons (rC (.int 1)) (rCons (rC (.int 0)) (rCons (rC (.int 1)) rNil)))) (rCons (rTup (rCons (rC (.int 0)) (rCons (rC (.int 0)) (rCons (rC (.int 1)) rNil)))) rNil)) (rCons (rC (.bl true)) rNil)) rNil)) (rCons (rVar 3) rNil))) (rGN 9))
 (rd_law_t4 Γ))
def rd_law_t6 (Γ : CL) : RS := (rSeq (rIf (rNot (rB (rCl (sp_law_equal Γ 5) (rCons (rCl (sp_picture Γ) (rCons (rVar 4) (rCons (rVar 3) rNil))) (rCons (rJoin (rC (.str "\n")) (rVar 5)) rNil)))))
 (rRet (rC (.bl false)))
 rNext)
 (rd_law_t5 Γ))
def rd_law_t7 (Γ : CL) : RS := (rSeq (rFor (rIRng3 (rCons (rVar 3) (rCons (rOp gSub (rOp gSub (rC (.int 0)) (rVar 3)) (rC (.int 1))) (rCons (rOp gSub (rC (.int 0)) (rC (.int 1))) rNil)))) (rGN 6)
 (rd_law_f2 Γ))
 (rd_law_t6 Γ))
def rd_law_t8 (Γ : CL) : RS := (rSeq (rAsg (rTup (rCons (rCl (sp_law_drawing Γ) (rCons (rVar 2) rNil)) (rCons (rLstM rNil) rNil))) (rGTup 2 (rGCons (rGN 4) (rGCons (rGN 5) rGNil))))
 (rd_law_t7 Γ))
def rd_law_t9 (Γ : CL) : RS := (rSeq (rPar 2 3 (rCons (rCl (sp_law_strokesT Γ) (rCons (rVar 1) (rCons (rC (.int 5)) rNil))) (rCons (rCl (sp_law_below Γ) (rCons (rVar 1) (rCons (rC (.int 5)) rNil))) rNil)))
 (rd_law_t8 Γ))
/-- law(_law_script) : 0 _law_script, 1 _law_d, 2 _law_strokes_here, 3 _law_limit, 4 _law_drawing_here, 5 _law_rows, 6 _law_y, 7 _law_row, 8 _law_x, 9 _law_upside, 10 _law_wide, 11 _law_odd -/
def rd_law (Γ : CL) : RS := (rSeq (rAsg (rCl (sp_law_random Γ) (rCons (rVar 0) (rCons (rC (.int 34)) rNil))) (rGN 1))
 (rd_law_t9 Γ))

end L3.K34

/-! ## D_k34 -/
set_option Elab.async false
set_option linter.all false
set_option maxRecDepth 100000
set_option maxHeartbeats 4000000
namespace L3.K34
open PySem PySem.Spec PyProof.Rows L2 NM
def top (i : Nat) : Stmt := PySem.Challenge.pw_copyarms_k34_pictures.main.body.getD i (.Pass ⟨0, 0, 0, 0⟩)
structure Fc (K : PySem.W.Frag) (mg : Str → Option Value) (Γ : CL) : Prop where
  f_abs : mg "abs" = none
  f_len : mg "len" = none
  f_range : mg "range" = none
  f_tuple : mg "tuple" = none
  f_bool : mg "bool" = none
  f_int : mg "int" = none
  f_isinstance : mg "isinstance" = none
  f_all : mg "all" = none
  c_MAX_SPOTS : ConstOk K mg "MAX_SPOTS" c_MAX_SPOTS
  f_any : mg "any" = none
  f_zip : mg "zip" = none
  c_MAX_STROKES : ConstOk K mg "MAX_STROKES" c_MAX_STROKES
  cl_Drawing : Cls K Γ.Drawing
  n_Drawing_strokes : NoAttr K Γ.Drawing "strokes"
  f_enumerate : mg "enumerate" = none
  sf_Drawing : PySem.W.selfFirst K Γ.Drawing = true
  w_Drawing___add : PySem.W.findIn K (.ref Γ.Drawing) "__add__" = some (some (.ref (He.ma K Γ.Drawing "__add__")))
  v_Drawing___add : PySem.W.isFn K (.ref (He.ma K Γ.Drawing "__add__")) = true
  f_list : mg "list" = none
  f_str : mg "str" = none
  f_max : mg "max" = none
  f_sorted : mg "sorted" = none
  f_min : mg "min" = none
  c_MAX_SIZE : ConstOk K mg "MAX_SIZE" c_MAX_SIZE
  c_ZERO : ConstOk K mg "ZERO" c_ZERO
  cl_Copy : Cls K Γ.Copy
  n_Copy_key : NoAttr K Γ.Copy "key"
  n_Copy_mirrored : NoAttr K Γ.Copy "mirrored"
  n_Copy_shift : NoAttr K Γ.Copy "shift"
  n_Copy_turn : NoAttr K Γ.Copy "turn"
  ek_InvalidSize : ErrA K (Γ.gx "InvalidSize") (Γ.gx "CopyError") Γ.gx 9
  m_Drawing_copied : Meth K Γ.Drawing "copied" (He.ma K Γ.Drawing "copied")
  x_InvalidSize : ExcG K mg "InvalidSize" (Γ.gx "InvalidSize")
  f_ValueError : mg "ValueError" = none
  gx_BadRow : mg "BadRow" = some (.ref (Γ.gx "BadRow"))
  gx_BadText : mg "BadText" = some (.ref (Γ.gx "BadText"))
  gx_Contradiction : mg "Contradiction" = some (.ref (Γ.gx "Contradiction"))
  gx_CopyError : mg "CopyError" = some (.ref (Γ.gx "CopyError"))
  gx_InvalidBox : mg "InvalidBox" = some (.ref (Γ.gx "InvalidBox"))
  gx_InvalidCode : mg "InvalidCode" = some (.ref (Γ.gx "InvalidCode"))
  gx_InvalidName : mg "InvalidName" = some (.ref (Γ.gx "InvalidName"))
  gx_InvalidOperation : mg "InvalidOperation" = some (.ref (Γ.gx "InvalidOperation"))
  gx_InvalidReach : mg "InvalidReach" = some (.ref (Γ.gx "InvalidReach"))
  gx_InvalidSize : mg "InvalidSize" = some (.ref (Γ.gx "InvalidSize"))
  gx_InvalidSpot : mg "InvalidSpot" = some (.ref (Γ.gx "InvalidSpot"))
  gx_InvalidStroke : mg "InvalidStroke" = some (.ref (Γ.gx "InvalidStroke"))
  gx_InvalidTimes : mg "InvalidTimes" = some (.ref (Γ.gx "InvalidTimes"))
  gx_InvalidTurn : mg "InvalidTurn" = some (.ref (Γ.gx "InvalidTurn"))
  gx_NotFree : mg "NotFree" = some (.ref (Γ.gx "NotFree"))
  gx_OpenStroke : mg "OpenStroke" = some (.ref (Γ.gx "OpenStroke"))
  gx_OutOfReach : mg "OutOfReach" = some (.ref (Γ.gx "OutOfReach"))
  gx_TooFew : mg "TooFew" = some (.ref (Γ.gx "TooFew"))
  gx_TooMany : mg "TooMany" = some (.ref (Γ.gx "TooMany"))
  gx_UnknownArm : mg "UnknownArm" = some (.ref (Γ.gx "UnknownArm"))
  gx_UnknownName : mg "UnknownName" = some (.ref (Γ.gx "UnknownName"))
theorem sc_law_random : FnScope ["_law_script", "_law_salt", "_law_seed", "_law_cell"] ["_law_script", "_law_salt"] (defScope (top 55)) := ⟨rfl, rfl, rfl, by decide +kernel, rfl, by decide +kernel, by decide +kernel⟩
theorem sc_law_below : FnScope ["_law_d", "_law_limit", "_law_result"] ["_law_d", "_law_limit"] (defScope (top 56)) := ⟨rfl, rfl, rfl, by decide +kernel, rfl, by decide +kernel, by decide +kernel⟩
theorem sc_law_step : FnScope ["_law_d", "_law_size_now"] ["_law_d", "_law_size_now"] (defScope (top 57)) := ⟨rfl, rfl, rfl, by decide +kernel, rfl, by decide +kernel, by decide +kernel⟩
theorem sc_law_common : FnScope ["_law_one", "_law_other"] ["_law_one", "_law_other"] (defScope (top 58)) := ⟨rfl, rfl, rfl, by decide +kernel, rfl, by decide +kernel, by decide +kernel⟩
theorem sc_law_lowest : FnScope ["_law_x", "_law_y", "_law_q", "_law_common_now"] ["_law_x", "_law_y", "_law_q"] (defScope (top 59)) := ⟨rfl, rfl, rfl, by decide +kernel, rfl, by decide +kernel, by decide +kernel⟩
theorem sc_law_spotT : FnScope ["_law_d", "_law_below_here"] ["_law_d"] (defScope (top 60)) := ⟨rfl, rfl, rfl, by decide +kernel, rfl, by decide +kernel, by decide +kernel⟩
theorem sc_law_strokeT : FnScope ["_law_d", "_law_most", "_law_stroke_here", "_law_k", "_law_spot_here"] ["_law_d", "_law_most"] (defScope (top 61)) := ⟨rfl, rfl, rfl, by decide +kernel, rfl, by decide +kernel, by decide +kernel⟩
theorem sc_law_strokesT : FnScope ["_law_d", "_law_most", "_law_k"] ["_law_d", "_law_most"] (defScope (top 62)) := ⟨rfl, rfl, rfl, by decide +kernel, rfl, by decide +kernel, by decide +kernel⟩
theorem sc_is_int : FnScope ["value"] ["value"] (defScope (top 25)) := ⟨rfl, rfl, rfl, by decide +kernel, rfl, by decide +kernel, by decide +kernel⟩
theorem sc_common_divisor : FnScope ["one", "other"] ["one", "other"] (defScope (top 26)) := ⟨rfl, rfl, rfl, by decide +kernel, rfl, by decide +kernel, by decide +kernel⟩
theorem sc_lowest : FnScope ["x", "y", "d", "divisor", "sign"] ["x", "y", "d"] (defScope (top 28)) := ⟨rfl, rfl, rfl, by decide +kernel, rfl, by decide +kernel, by decide +kernel⟩
theorem sc_is_number : FnScope ["value", "part"] ["value"] (defScope (top 30)) := ⟨rfl, rfl, rfl, by decide +kernel, rfl, by decide +kernel, by decide +kernel⟩
theorem sc_check_spot : FnScope ["value"] ["value"] (defScope (top 37)) := ⟨rfl, rfl, rfl, by decide +kernel, rfl, by decide +kernel, by decide +kernel⟩
theorem sc_check_stroke : FnScope ["stroke", "index", "spot", "e", "is_still", "one", "other"] ["stroke", "index"] (defScope (top 44)) := ⟨rfl, rfl, rfl, by decide +kernel, rfl, by decide +kernel, by decide +kernel⟩
theorem sc_Drawing___init : FnScope ["self", "strokes", "index", "stroke"] ["self", "strokes"] (defScope (inClass (top 45) 0)) := ⟨rfl, rfl, rfl, by decide +kernel, rfl, by decide +kernel, by decide +kernel⟩
theorem sc_Drawing___add : FnScope ["self", "other", "strokes"] ["self", "other"] (defScope (inClass (top 45) 5)) := ⟨rfl, rfl, rfl, by decide +kernel, rfl, by decide +kernel, by decide +kernel⟩
theorem sc_law_drawing : FnScope ["_law_strokes_here", "_law_drawing_here", "_law_stroke_here"] ["_law_strokes_here"] (defScope (top 63)) := ⟨rfl, rfl, rfl, by decide +kernel, rfl, by decide +kernel, by decide +kernel⟩
theorem sc_law_plus : FnScope ["_law_one", "_law_other", "_law_x", "_law_y"] ["_law_one", "_law_other"] (defScope (top 64)) := ⟨rfl, rfl, rfl, by decide +kernel, rfl, by decide +kernel, by decide +kernel⟩
theorem sc_law_minus : FnScope ["_law_one", "_law_other"] ["_law_one", "_law_other"] (defScope (top 65)) := ⟨rfl, rfl, rfl, by decide +kernel, rfl, by decide +kernel, by decide +kernel⟩
theorem sc_law_ahead : FnScope ["_law_one", "_law_other", "_law_right"] ["_law_one", "_law_other"] (defScope (top 66)) := ⟨rfl, rfl, rfl, by decide +kernel, rfl, by decide +kernel, by decide +kernel⟩
theorem sc_law_lies : FnScope ["_law_spot_here", "_law_one", "_law_other", "_law_here", "_law_there", "_law_low", "_law_high"] ["_law_spot_here", "_law_one", "_law_other"] (defScope (top 67)) := ⟨rfl, rfl, rfl, by decide +kernel, rfl, by decide +kernel, by decide +kernel⟩
theorem sc_law_covers : FnScope ["_law_strokes_here", "_law_spot_here", "_law_stroke_here", "_law_k"] ["_law_strokes_here", "_law_spot_here"] (defScope (top 68)) := ⟨rfl, rfl, rfl, by decide +kernel, rfl, by decide +kernel, by decide +kernel⟩
theorem sc_law_equal : FnScope ["_law_actual", "_law_expected", "_law_k"] ["_law_actual", "_law_expected"] (defScope (top 69)) := ⟨rfl, rfl, rfl, by decide +kernel, rfl, by decide +kernel, by decide +kernel⟩
theorem sc_is_int_in : FnScope ["value", "low", "high"] ["value", "low", "high"] (defScope (top 24)) := ⟨rfl, rfl, rfl, by decide +kernel, rfl, by decide +kernel, by decide +kernel⟩
theorem sc_common_multiple : FnScope ["values", "found", "value"] ["values"] (defScope (top 27)) := ⟨rfl, rfl, rfl, by decide +kernel, rfl, by decide +kernel, by decide +kernel⟩
theorem sc_scaled : FnScope ["strokes", "scale", "stroke", "spot", "found"] ["strokes"] (defScope (top 46)) := ⟨rfl, rfl, rfl, by decide +kernel, rfl, by decide +kernel, by decide +kernel⟩
theorem sc_line_key : FnScope ["one", "other", "right", "up", "divisor"] ["one", "other"] (defScope (top 47)) := ⟨rfl, rfl, rfl, by decide +kernel, rfl, by decide +kernel, by decide +kernel⟩
theorem sc_joined : FnScope ["parts", "found", "first", "last"] ["parts"] (defScope (top 48)) := ⟨rfl, rfl, rfl, by decide +kernel, rfl, by decide +kernel, by decide +kernel⟩
theorem sc_lines_of : FnScope ["strokes", "parts", "stroke", "one", "other", "line", "found"] ["strokes"] (defScope (top 49)) := ⟨rfl, rfl, rfl, by decide +kernel, rfl, by decide +kernel, by decide +kernel⟩
theorem sc_lies_on : FnScope ["place", "lines", "right", "up", "rest", "parts", "first", "last"] ["place", "lines"] (defScope (top 50)) := ⟨rfl, rfl, rfl, by decide +kernel, rfl, by decide +kernel, by decide +kernel⟩
theorem sc_picture : FnScope ["drawing", "limit", "scale", "places", "lines", "dots", "stroke", "rows", "numbers", "y", "covered", "x", "is_covered"] ["drawing", "limit"] (defScope (top 53)) := ⟨rfl, rfl, rfl, by decide +kernel, rfl, by decide +kernel, by decide +kernel⟩
theorem sc_check_turn : FnScope ["value"] ["value"] (defScope (top 38)) := ⟨rfl, rfl, rfl, by decide +kernel, rfl, by decide +kernel, by decide +kernel⟩
theorem sc_Copy___init : FnScope ["self", "turn", "shift", "mirrored"] ["self", "turn", "shift", "mirrored"] (defScope (inClass (top 40) 0)) := ⟨rfl, rfl, rfl, by decide +kernel, rfl, by decide +kernel, by decide +kernel⟩
theorem sc_added : FnScope ["one", "other"] ["one", "other"] (defScope (top 31)) := ⟨rfl, rfl, rfl, by decide +kernel, rfl, by decide +kernel, by decide +kernel⟩
theorem sc_multiplied : FnScope ["one", "other", "x"] ["one", "other"] (defScope (top 33)) := ⟨rfl, rfl, rfl, by decide +kernel, rfl, by decide +kernel, by decide +kernel⟩
theorem sc_turned_over : FnScope ["one"] ["one"] (defScope (top 34)) := ⟨rfl, rfl, rfl, by decide +kernel, rfl, by decide +kernel, by decide +kernel⟩
theorem sc_carried : FnScope ["copy", "spot"] ["copy", "spot"] (defScope (top 39)) := ⟨rfl, rfl, rfl, by decide +kernel, rfl, by decide +kernel, by decide +kernel⟩
theorem sc_Drawing_copied : FnScope ["self", "copy", "strokes", "spot", "stroke"] ["self", "copy"] (defScope (inClass (top 45) 8)) := ⟨rfl, rfl, rfl, by decide +kernel, rfl, by decide +kernel, by decide +kernel⟩
theorem sc_law : FnScope ["_law_script", "_law_d", "_law_strokes_here", "_law_limit", "_law_drawing_here", "_law_rows", "_law_y", "_law_row", "_law_x", "_law_upside", "_law_wide", "_law_odd"] ["_law_script"] (defScope (top 71)) := ⟨rfl, rfl, rfl, by decide +kernel, rfl, by decide +kernel, by decide +kernel⟩
theorem sc_law_error_of : FnScope ["_law_call", "e", "_law_kinds", "_law_names", "_law_name"] ["_law_call"] (defScope (top 70)) := ⟨rfl, rfl, rfl, by decide +kernel, rfl, by decide +kernel, by decide +kernel⟩
section
variable {P : Program} {w : World} {K : PySem.W.Frag} {mg : Str → Option Value} {base : Heap} {f : Addr}

theorem gv_err (Γ : CL) {X : Cx} (T : Fc X.K X.mg Γ) (hA : X.A.units + 200 < cLine) {g : Addr} {cdg : Value} (q : Str) : LamX.GivesTo X ["_law_call", "e", "_law_kinds", "_law_names", "_law_name"] "_law_error_of" (defScope (top 70)) g cdg (defBody (top 70)) "_law_call" q (TErr X.K (resE Γ errL)) := by
  refine err_gives (sg := defScope (top 70)) (Ng := ["_law_call", "e", "_law_kinds", "_law_names", "_law_name"]) (i := 1) sc_law_error_of.nd rfl rfl rfl T.gx_CopyError (by decide) (fun _ => rfl) (fun C fs v r => ?_) (fun s H => ps_ret pe_non) (fun s H C fs v r => ?_)
  · obtain ⟨p, hp, ds, hl, rfl, rfl, rfl⟩ := r
    simp only [errL, List.mem_cons, List.not_mem_nil, or_false] at hp
    subst hp
    · exact T.ek_InvalidSize.k.ce
  · obtain ⟨p, hp, ds, hl, rfl, rfl, rfl⟩ := r
    simp only [errL, List.mem_cons, List.not_mem_nil, or_false] at hp
    subst hp
    · refine suOk_ofF (rd := fun a => rd_errF a (((attrNs 9).zip ds).reverse) (fun j => decide (j = 9))) (fun a oe d pn hz hf hd2 => ?_) (fun a μ DD q => vcF_9 hl a μ DD q)
      have XC := T.ek_InvalidSize.k.xc
      have hve := T.ek_InvalidSize.k.ve
      have hk := T.ek_InvalidSize.k.ks
      have hat := T.ek_InvalidSize.at
      have hr : UR (X.A.deeper (envOfC "_law_error_of" (defScope (top 70)) s.heap.objs.size g cdg)).units := ⟨by show X.A.units + 3 + 64 < cLine; omega, by show X.A.units + 3 + 65 < cLine; omega⟩
      exact (dssf_cons (dsf_set (i := 2) sc_law_error_of.nd (def_lst (daf_cons (def_isE (X := (cxOf C8.CX0 X.prog X.w X.K X.mg X.base ["_law_call", "e", "_law_kinds", "_law_names", "_law_name"] "_law_error_of" (defScope (top 70)) g cdg X.A X.stack s H C8.E0).nox) hd2 T.f_isinstance rfl XC hz hf T.gx_InvalidSpot (hk 0 (by decide)) rfl (de_var 1)) (daf_cons (def_isE (X := (cxOf C8.CX0 X.prog X.w X.K X.mg X.base ["_law_call", "e", "_law_kinds", "_law_names", "_law_name"] "_law_error_of" (defScope (top 70)) g cdg X.A X.stack s H C8.E0).nox) hd2 T.f_isinstance rfl XC hz hf T.gx_InvalidTurn (hk 1 (by decide)) rfl (de_var 1)) (daf_cons (def_isE (X := (cxOf C8.CX0 X.prog X.w X.K X.mg X.base ["_law_call", "e", "_law_kinds", "_law_names", "_law_name"] "_law_error_of" (defScope (top 70)) g cdg X.A X.stack s H C8.E0).nox) hd2 T.f_isinstance rfl XC hz hf T.gx_InvalidTimes (hk 2 (by decide)) rfl (de_var 1)) daf_nil)))))
 (dssf_cons (dsf_set (i := 2) sc_law_error_of.nd (def_add (def_no (de_var 2)) (def_lst (daf_cons (def_isE (X := (cxOf C8.CX0 X.prog X.w X.K X.mg X.base ["_law_call", "e", "_law_kinds", "_law_names", "_law_name"] "_law_error_of" (defScope (top 70)) g cdg X.A X.stack s H C8.E0).nox) hd2 T.f_isinstance rfl XC hz hf T.gx_TooFew (hk 3 (by decide)) rfl (de_var 1)) (daf_cons (def_isE (X := (cxOf C8.CX0 X.prog X.w X.K X.mg X.base ["_law_call", "e", "_law_kinds", "_law_names", "_law_name"] "_law_error_of" (defScope (top 70)) g cdg X.A X.stack s H C8.E0).nox) hd2 T.f_isinstance rfl XC hz hf T.gx_InvalidStroke (hk 4 (by decide)) rfl (de_var 1)) (daf_cons (def_isE (X := (cxOf C8.CX0 X.prog X.w X.K X.mg X.base ["_law_call", "e", "_law_kinds", "_law_names", "_law_name"] "_law_error_of" (defScope (top 70)) g cdg X.A X.stack s H C8.E0).nox) hd2 T.f_isinstance rfl XC hz hf T.gx_OpenStroke (hk 5 (by decide)) rfl (de_var 1)) daf_nil))))))
 (dssf_cons (dsf_set (i := 2) sc_law_error_of.nd (def_add (def_no (de_var 2)) (def_lst (daf_cons (def_isE (X := (cxOf C8.CX0 X.prog X.w X.K X.mg X.base ["_law_call", "e", "_law_kinds", "_law_names", "_law_name"] "_law_error_of" (defScope (top 70)) g cdg X.A X.stack s H C8.E0).nox) hd2 T.f_isinstance rfl XC hz hf T.gx_InvalidReach (hk 6 (by decide)) rfl (de_var 1)) (daf_cons (def_isE (X := (cxOf C8.CX0 X.prog X.w X.K X.mg X.base ["_law_call", "e", "_law_kinds", "_law_names", "_law_name"] "_law_error_of" (defScope (top 70)) g cdg X.A X.stack s H C8.E0).nox) hd2 T.f_isinstance rfl XC hz hf T.gx_OutOfReach (hk 7 (by decide)) rfl (de_var 1)) (daf_cons (def_isE (X := (cxOf C8.CX0 X.prog X.w X.K X.mg X.base ["_law_call", "e", "_law_kinds", "_law_names", "_law_name"] "_law_error_of" (defScope (top 70)) g cdg X.A X.stack s H C8.E0).nox) hd2 T.f_isinstance rfl XC hz hf T.gx_TooMany (hk 8 (by decide)) rfl (de_var 1)) daf_nil))))))
 (dssf_cons (dsf_set (i := 2) sc_law_error_of.nd (def_add (def_no (de_var 2)) (def_lst (daf_cons (def_isE (X := (cxOf C8.CX0 X.prog X.w X.K X.mg X.base ["_law_call", "e", "_law_kinds", "_law_names", "_law_name"] "_law_error_of" (defScope (top 70)) g cdg X.A X.stack s H C8.E0).nox) hd2 T.f_isinstance rfl XC hz hf T.gx_InvalidSize (hk 9 (by decide)) rfl (de_var 1)) (daf_cons (def_isE (X := (cxOf C8.CX0 X.prog X.w X.K X.mg X.base ["_law_call", "e", "_law_kinds", "_law_names", "_law_name"] "_law_error_of" (defScope (top 70)) g cdg X.A X.stack s H C8.E0).nox) hd2 T.f_isinstance rfl XC hz hf T.gx_InvalidBox (hk 10 (by decide)) rfl (de_var 1)) (daf_cons (def_isE (X := (cxOf C8.CX0 X.prog X.w X.K X.mg X.base ["_law_call", "e", "_law_kinds", "_law_names", "_law_name"] "_law_error_of" (defScope (top 70)) g cdg X.A X.stack s H C8.E0).nox) hd2 T.f_isinstance rfl XC hz hf T.gx_Contradiction (hk 11 (by decide)) rfl (de_var 1)) daf_nil))))))
 (dssf_cons (dsf_set (i := 2) sc_law_error_of.nd (def_add (def_no (de_var 2)) (def_lst (daf_cons (def_isE (X := (cxOf C8.CX0 X.prog X.w X.K X.mg X.base ["_law_call", "e", "_law_kinds", "_law_names", "_law_name"] "_law_error_of" (defScope (top 70)) g cdg X.A X.stack s H C8.E0).nox) hd2 T.f_isinstance rfl XC hz hf T.gx_BadText (hk 12 (by decide)) rfl (de_var 1)) (daf_cons (def_isE (X := (cxOf C8.CX0 X.prog X.w X.K X.mg X.base ["_law_call", "e", "_law_kinds", "_law_names", "_law_name"] "_law_error_of" (defScope (top 70)) g cdg X.A X.stack s H C8.E0).nox) hd2 T.f_isinstance rfl XC hz hf T.gx_BadRow (hk 13 (by decide)) rfl (de_var 1)) (daf_cons (def_isE (X := (cxOf C8.CX0 X.prog X.w X.K X.mg X.base ["_law_call", "e", "_law_kinds", "_law_names", "_law_name"] "_law_error_of" (defScope (top 70)) g cdg X.A X.stack s H C8.E0).nox) hd2 T.f_isinstance rfl XC hz hf T.gx_UnknownName (hk 14 (by decide)) rfl (de_var 1)) daf_nil))))))
 (dssf_cons (dsf_set (i := 2) sc_law_error_of.nd (def_add (def_no (de_var 2)) (def_lst (daf_cons (def_isE (X := (cxOf C8.CX0 X.prog X.w X.K X.mg X.base ["_law_call", "e", "_law_kinds", "_law_names", "_law_name"] "_law_error_of" (defScope (top 70)) g cdg X.A X.stack s H C8.E0).nox) hd2 T.f_isinstance rfl XC hz hf T.gx_InvalidName (hk 15 (by decide)) rfl (de_var 1)) (daf_cons (def_isE (X := (cxOf C8.CX0 X.prog X.w X.K X.mg X.base ["_law_call", "e", "_law_kinds", "_law_names", "_law_name"] "_law_error_of" (defScope (top 70)) g cdg X.A X.stack s H C8.E0).nox) hd2 T.f_isinstance rfl XC hz hf T.gx_InvalidCode (hk 16 (by decide)) rfl (de_var 1)) (daf_cons (def_isE (X := (cxOf C8.CX0 X.prog X.w X.K X.mg X.base ["_law_call", "e", "_law_kinds", "_law_names", "_law_name"] "_law_error_of" (defScope (top 70)) g cdg X.A X.stack s H C8.E0).nox) hd2 T.f_isinstance rfl XC hz hf T.gx_UnknownArm (hk 17 (by decide)) rfl (de_var 1)) daf_nil))))))
 (dssf_cons (dsf_set (i := 2) sc_law_error_of.nd (def_add (def_no (de_var 2)) (def_lst (daf_cons (def_isE (X := (cxOf C8.CX0 X.prog X.w X.K X.mg X.base ["_law_call", "e", "_law_kinds", "_law_names", "_law_name"] "_law_error_of" (defScope (top 70)) g cdg X.A X.stack s H C8.E0).nox) hd2 T.f_isinstance rfl XC hz hf T.gx_NotFree (hk 18 (by decide)) rfl (de_var 1)) (daf_cons (def_isE (X := (cxOf C8.CX0 X.prog X.w X.K X.mg X.base ["_law_call", "e", "_law_kinds", "_law_names", "_law_name"] "_law_error_of" (defScope (top 70)) g cdg X.A X.stack s H C8.E0).nox) hd2 T.f_isinstance rfl XC hz hf T.gx_InvalidOperation (hk 19 (by decide)) rfl (de_var 1)) daf_nil)))))
 (dssf_cons (dsf_ifF (dtf_w (dwf_or (dtf_no (dt_ne hr.units (de_count (X := (cxOf C8.CX0 X.prog X.w X.K X.mg X.base ["_law_call", "e", "_law_kinds", "_law_names", "_law_name"] "_law_error_of" (defScope (top 70)) g cdg X.A X.stack s H C8.E0).nox.suite a ((a, oe) :: pn)) hr.u65 (de_var 2) (da_cons de_bl da_nil)) de_int)) (dwf_or1 (dtf_not (dtf_val (def_isEV (X := (cxOf C8.CX0 X.prog X.w X.K X.mg X.base ["_law_call", "e", "_law_kinds", "_law_names", "_law_name"] "_law_error_of" (defScope (top 70)) g cdg X.A X.stack s H C8.E0).nox) (n := "ValueError") hd2 T.f_isinstance rfl XC hz hf T.f_ValueError (by decide +kernel) hve rfl (de_var 1)))))))
 (dssf_one (dsf_no ds_never))
 dssf_nil)
 (dssf_cons (dsf_set (i := 3) sc_law_error_of.nd (def_lst (daf_cons (def_no de_str) (daf_cons (def_no de_str) (daf_cons (def_no de_str) (daf_cons (def_no de_str) (daf_cons (def_no de_str) (daf_cons (def_no de_str) (daf_cons (def_no de_str) (daf_cons (def_no de_str) (daf_cons (def_no de_str) (daf_cons (def_no de_str) (daf_cons (def_no de_str) (daf_cons (def_no de_str) daf_nil))))))))))))))
 (dssf_cons (dsf_set (i := 3) sc_law_error_of.nd (def_add (def_no (de_var 3)) (def_lst (daf_cons (def_no de_str) (daf_cons (def_no de_str) (daf_cons (def_no de_str) (daf_cons (def_no de_str) (daf_cons (def_no de_str) (daf_cons (def_no de_str) (daf_cons (def_no de_str) (daf_cons (def_no de_str) daf_nil)))))))))))
 (dssf_cons (dsf_set (i := 4) sc_law_error_of.nd (def_no (de_ix (de_var 3) (de_index (X := (cxOf C8.CX0 X.prog X.w X.K X.mg X.base ["_law_call", "e", "_law_kinds", "_law_names", "_law_name"] "_law_error_of" (defScope (top 70)) g cdg X.A X.stack s H C8.E0).nox.suite a ((a, oe) :: pn)) hr.u65 (de_var 2) (da_cons de_bl da_nil)))))
 (dssf_cons (dsf_ifF (dtf_no (dt_eq hr.units (de_var 4) de_str))
 (dssf_one (dsf_A1 (X := (cxOf C8.CX0 X.prog X.w X.K X.mg X.base ["_law_call", "e", "_law_kinds", "_law_names", "_law_name"] "_law_error_of" (defScope (top 70)) g cdg X.A X.stack s H C8.E0).nox) (i := 1) (hat "index" (by decide)) hz hf (de_var 4)))
 dssf_nil)
 (dssf_cons (dsf_ifF (dtf_no (dt_eq hr.units (de_var 4) de_str))
 (dssf_one (dsf_A3 (X := (cxOf C8.CX0 X.prog X.w X.K X.mg X.base ["_law_call", "e", "_law_kinds", "_law_names", "_law_name"] "_law_error_of" (defScope (top 70)) g cdg X.A X.stack s H C8.E0).nox) (i := 1) (hat "arm" (by decide)) (hat "stroke" (by decide)) (hat "part" (by decide)) hz hf (de_var 4)))
 dssf_nil)
 (dssf_cons (dsf_ifF (dtf_no (dt_eq hr.units (de_var 4) de_str))
 (dssf_one (dsf_A2 (X := (cxOf C8.CX0 X.prog X.w X.K X.mg X.base ["_law_call", "e", "_law_kinds", "_law_names", "_law_name"] "_law_error_of" (defScope (top 70)) g cdg X.A X.stack s H C8.E0).nox) (i := 1) (hat "row" (by decide)) (hat "word" (by decide)) hz hf (de_var 4)))
 dssf_nil)
 (dssf_cons (dsf_ifF (dtf_no (dt_eq hr.units (de_var 4) de_str))
 (dssf_one (dsf_A2 (X := (cxOf C8.CX0 X.prog X.w X.K X.mg X.base ["_law_call", "e", "_law_kinds", "_law_names", "_law_name"] "_law_error_of" (defScope (top 70)) g cdg X.A X.stack s H C8.E0).nox) (i := 1) (hat "row" (by decide)) (hat "reason" (by decide)) hz hf (de_var 4)))
 dssf_nil)
 (dssf_one (dsf_AI (X := (cxOf C8.CX0 X.prog X.w X.K X.mg X.base ["_law_call", "e", "_law_kinds", "_law_names", "_law_name"] "_law_error_of" (defScope (top 70)) g cdg X.A X.stack s H C8.E0).nox) (i := 1) (hat "place" (by decide)) hz hf (de_var 4) (dt_in hr.u65 (de_var 4) (de_lst (da_cons de_str (da_cons de_str da_nil)))) de_int)))))))))))))))))
theorem dvx_picture (Γ : CL) (T : Fc K mg Γ) (G_is_int_in : FnG P w K mg base 1 "is_int_in" (sp_is_int_in Γ)) (G_scaled : FnG P w K mg base 3 "scaled" (sp_scaled Γ)) (G_lines_of : FnG P w K mg base 3 "lines_of" (sp_lines_of Γ)) (G_lies_on : FnG P w K mg base 1 "lies_on" (sp_lies_on Γ)) (cdv : Value) (A : Around) (outer : List Env) (s0 : Shared) (H : Hp) (E : XK) (hr : Room 3 (A.deeper (envOfC "picture" (defScope (top 53)) s0.heap.objs.size f cdv))) (tk : Takes (cxOf (L2.CX P w) P w K mg base ["drawing", "limit", "scale", "places", "lines", "dots", "stroke", "rows", "numbers", "y", "covered", "x", "is_covered"] "picture" (defScope (top 53)) f cdv A outer s0 H E) (fun cls d _ H' => E cls d H')) : DSsX (cxOf (L2.CX P w) P w K mg base ["drawing", "limit", "scale", "places", "lines", "dots", "stroke", "rows", "numbers", "y", "covered", "x", "is_covered"] "picture" (defScope (top 53)) f cdv A outer s0 H E) (fun cls d _ H' => E cls d H') (defBody (top 53)) (rdx_picture Γ) :=
 (dssx_cons (dsx_if (dt_not (dt_val (de_call G_is_int_in (hr.mono (by decide)) rfl (da_cons (de_var 1) (da_cons de_int (da_cons T.c_MAX_SIZE.de da_nil))))))
 (dssx_one (dsx_raise T.x_InvalidSize tk rfl))
 dssx_nil)
 (dssx_cons (dsx_nox (ds_asg (vs := [2, 3]) (de_call G_scaled (hr.mono (by decide)) rfl (da_cons (de_fld (de_var 0) T.cl_Drawing T.n_Drawing_strokes) da_nil)) (dg_tup (dgs_cons (dg_name (i := 2) sc_picture.nd) (dgs_cons (dg_name (i := 3) sc_picture.nd) dgs_nil)))))
 (dssx_cons (dsx_nox (ds_set (i := 4) sc_picture.nd (de_call G_lines_of (hr.mono (by decide)) rfl (da_cons (de_var 3) da_nil))))
 (dssx_cons (dsx_nox (ds_set (i := 5) sc_picture.nd (de_lc [("stroke", 6)] sc_picture.nd (di_list (de_var 3)) (by kernel_rfl) (fun _ _ _ _ _ => (dg_name (i := 6) sc_picture.nd)) (fun _ _ _ _ _ => (dts_one (dt_eq hr.units (de_len rfl T.f_len (da_cons (de_var 6) da_nil)) de_int))) (fun _ _ _ _ _ => (de_ix (de_var 6) de_int)))))
 (dssx_cons (dsx_nox (ds_par (i := 7) (j := 8) sc_picture.nd (da_cons (de_lstM da_nil) (da_cons (de_listRg2 rfl T.f_range rfl T.f_list (de_sub de_int (de_var 1)) (de_add (de_var 1) de_int)) da_nil))))
 (dssx_cons (dsx_nox (ds_for (vs := [9]) (di_list (de_revL (de_var 8))) (dg_name (i := 9) sc_picture.nd)
 (dss_cons (ds_setLc (i := 10) [("x", 11)] sc_picture.nd (sw_true rfl rfl rfl (by kernel_rfl)) (di_list (de_var 8)) (by kernel_rfl) (fun _ _ _ _ _ => (dg_name (i := 11) sc_picture.nd)) (fun _ _ _ _ _ => dts_nil) (fun _ _ _ _ _ => (de_or (de_in hr.u65 (de_tup (da_cons (de_mul (de_var 11) (de_var 2)) (da_cons (de_mul (de_var 9) (de_var 2)) da_nil))) (de_var 5)) (de_one (de_call G_lies_on (hr.mono (by decide)) rfl (da_cons (de_tup (da_cons (de_mul (de_var 11) (de_var 2)) (da_cons (de_mul (de_var 9) (de_var 2)) da_nil))) (da_cons (de_var 4) da_nil)))))))
 (dss_one (ds_expr (de_append (de_var 7) (da_cons (de_join de_str (de_lc [("is_covered", 12)] sc_picture.nd (di_list (de_var 10)) (by kernel_rfl) (fun _ _ _ _ _ => (dg_name (i := 12) sc_picture.nd)) (fun _ _ _ _ _ => dts_nil) (fun _ _ _ _ _ => (de_if (dt_val (de_var 12)) de_str de_str)))) da_nil)))))))
 (dssx_one (dsx_nox (ds_ret (de_join de_str (de_var 7)))))))))))
theorem dv_law_random (Γ : CL) (T : Fc K mg Γ)  (cdv : Value) (A : Around) (outer : List Env) (s0 : Shared) (H : Hp) (E : XK) (hr : Room 0 (A.deeper (envOfC "_law_random" (defScope (top 55)) s0.heap.objs.size f cdv))) : DSs (cxOf CX0 P w K mg base ["_law_script", "_law_salt", "_law_seed", "_law_cell"] "_law_random" (defScope (top 55)) f cdv A outer s0 H E).nox (defBody (top 55)) (rd_law_random Γ) :=
 (dss_cons (ds_set (i := 2) sc_law_random.nd (de_var 1))
 (dss_cons (ds_for (vs := [3]) (di_list (de_var 0)) (dg_name (i := 3) sc_law_random.nd)
 (dss_one (ds_set (i := 2) sc_law_random.nd (de_mod (de_add (de_mul (de_var 2) de_int) (de_abs rfl T.f_abs (da_cons (de_var 3) da_nil))) de_int))))
 (dss_one (ds_ret (de_addM (de_lst (da_cons (de_var 2) (da_cons de_int da_nil))) (de_lc [("_law_cell", 3)] sc_law_random.nd (di_list (de_var 0)) (by kernel_rfl) (fun _ _ _ _ _ => (dg_name (i := 3) sc_law_random.nd)) (fun _ _ _ _ _ => (dts_one (dt_ge (de_var 3) (de_pow de_int de_int)))) (fun _ _ _ _ _ => (de_var 3))))))))
theorem dv_law_below (Γ : CL) (T : Fc K mg Γ)  (cdv : Value) (A : Around) (outer : List Env) (s0 : Shared) (H : Hp) (E : XK) (hr : Room 0 (A.deeper (envOfC "_law_below" (defScope (top 56)) s0.heap.objs.size f cdv))) : DSs (cxOf CX0 P w K mg base ["_law_d", "_law_limit", "_law_result"] "_law_below" (defScope (top 56)) f cdv A outer s0 H E).nox (defBody (top 56)) (rd_law_below Γ) :=
 (dss_cons (ds_if (dt_w (dw_and (dt_eq hr.units (de_ix (de_var 0) de_int) de_int) (dw_and1 (dt_gt (de_len rfl T.f_len (da_cons (de_var 0) da_nil)) de_int))))
 (dss_one (ds_setIx (de_popAt (de_var 0) (da_cons de_int da_nil)) (de_var 0) de_int))
 dss_nil)
 (dss_cons (ds_if (dt_gt (de_ix (de_var 0) de_int) de_int)
 (dss_cons (ds_set (i := 2) sc_law_below.nd (de_mod (de_ix (de_var 0) de_int) (de_var 1)))
 (dss_cons (ds_setIx (de_div (de_ix (de_var 0) de_int) (de_var 1)) (de_var 0) de_int)
 (dss_one (ds_ret (de_var 2)))))
 dss_nil)
 (dss_cons (ds_setIx (de_mod (de_add (de_mul (de_ix (de_var 0) de_int) de_int) de_int) de_int) (de_var 0) de_int)
 (dss_one (ds_ret (de_mod (de_div (de_ix (de_var 0) de_int) de_int) (de_var 1)))))))
theorem dv_law_step (Γ : CL) (T : Fc K mg Γ) (G_law_below : FnG P w K mg base 1 "_law_below" (sp_law_below Γ)) (cdv : Value) (A : Around) (outer : List Env) (s0 : Shared) (H : Hp) (E : XK) (hr : Room 1 (A.deeper (envOfC "_law_step" (defScope (top 57)) s0.heap.objs.size f cdv))) : DSs (cxOf CX0 P w K mg base ["_law_d", "_law_size_now"] "_law_step" (defScope (top 57)) f cdv A outer s0 H E).nox (defBody (top 57)) (rd_law_step Γ) :=
 (dss_one (ds_ret (de_tup (da_cons (de_sub (de_call G_law_below (hr.mono (by decide)) rfl (da_cons (de_var 0) (da_cons (de_add (de_mul de_int (de_var 1)) de_int) da_nil))) (de_var 1)) (da_cons (de_sub (de_call G_law_below (hr.mono (by decide)) rfl (da_cons (de_var 0) (da_cons (de_add (de_mul de_int (de_var 1)) de_int) da_nil))) (de_var 1)) (da_cons de_int da_nil))))))
theorem dv_law_common (Γ : CL) (T : Fc K mg Γ)  (cdv : Value) (A : Around) (outer : List Env) (s0 : Shared) (H : Hp) (E : XK) (hr : Room 0 (A.deeper (envOfC "_law_common" (defScope (top 58)) s0.heap.objs.size f cdv))) : DSs (cxOf CX0 P w K mg base ["_law_one", "_law_other"] "_law_common" (defScope (top 58)) f cdv A outer s0 H E).nox (defBody (top 58)) (rd_law_common Γ) :=
 (dss_cons (ds_par (i := 0) (j := 1) sc_law_common.nd (da_cons (de_abs rfl T.f_abs (da_cons (de_var 0) da_nil)) (da_cons (de_abs rfl T.f_abs (da_cons (de_var 1) da_nil)) da_nil)))
 (dss_cons (ds_while (dt_gt (de_var 1) de_int) (dss_one (ds_par (i := 0) (j := 1) sc_law_common.nd (da_cons (de_var 1) (da_cons (de_mod (de_var 0) (de_var 1)) da_nil)))))
 (dss_one (ds_ret (de_var 0)))))
theorem dv_law_lowest (Γ : CL) (T : Fc K mg Γ) (G_law_common : FnG P w K mg base 1 "_law_common" (sp_law_common Γ)) (cdv : Value) (A : Around) (outer : List Env) (s0 : Shared) (H : Hp) (E : XK) (hr : Room 1 (A.deeper (envOfC "_law_lowest" (defScope (top 59)) s0.heap.objs.size f cdv))) : DSs (cxOf CX0 P w K mg base ["_law_x", "_law_y", "_law_q", "_law_common_now"] "_law_lowest" (defScope (top 59)) f cdv A outer s0 H E).nox (defBody (top 59)) (rd_law_lowest Γ) :=
 (dss_cons (ds_set (i := 3) sc_law_lowest.nd (de_call G_law_common (hr.mono (by decide)) rfl (da_cons (de_call G_law_common (hr.mono (by decide)) rfl (da_cons (de_var 0) (da_cons (de_var 1) da_nil))) (da_cons (de_var 2) da_nil))))
 (dss_cons (ds_set (i := 3) sc_law_lowest.nd (de_if (dt_gt (de_var 2) de_int) (de_var 3) (de_sub de_int (de_var 3))))
 (dss_one (ds_ret (de_tup (da_cons (de_div (de_var 0) (de_var 3)) (da_cons (de_div (de_var 1) (de_var 3)) (da_cons (de_div (de_var 2) (de_var 3)) da_nil))))))))
theorem dv_law_spotT (Γ : CL) (T : Fc K mg Γ) (G_law_below : FnG P w K mg base 1 "_law_below" (sp_law_below Γ)) (G_law_lowest : FnG P w K mg base 2 "_law_lowest" (sp_law_lowest Γ)) (cdv : Value) (A : Around) (outer : List Env) (s0 : Shared) (H : Hp) (E : XK) (hr : Room 2 (A.deeper (envOfC "_law_spot" (defScope (top 60)) s0.heap.objs.size f cdv))) : DSs (cxOf CX0 P w K mg base ["_law_d", "_law_below_here"] "_law_spot" (defScope (top 60)) f cdv A outer s0 H E).nox (defBody (top 60)) (rd_law_spotT Γ) :=
 (dss_cons (ds_set (i := 1) sc_law_spotT.nd (de_ix (de_lst (da_cons de_int (da_cons de_int (da_cons de_int (da_cons de_int (da_cons de_int (da_cons de_int da_nil))))))) (de_call G_law_below (hr.mono (by decide)) rfl (da_cons (de_var 0) (da_cons de_int da_nil)))))
 (dss_one (ds_ret (de_call G_law_lowest (hr.mono (by decide)) rfl (da_cons (de_sub (de_call G_law_below (hr.mono (by decide)) rfl (da_cons (de_var 0) (da_cons de_int da_nil))) de_int) (da_cons (de_sub (de_call G_law_below (hr.mono (by decide)) rfl (da_cons (de_var 0) (da_cons de_int da_nil))) de_int) (da_cons (de_var 1) da_nil)))))))
theorem dv_law_strokeT (Γ : CL) (T : Fc K mg Γ) (G_law_step : FnG P w K mg base 2 "_law_step" (sp_law_step Γ)) (G_law_below : FnG P w K mg base 1 "_law_below" (sp_law_below Γ)) (G_law_spotT : FnG P w K mg base 3 "_law_spot" (sp_law_spotT Γ)) (cdv : Value) (A : Around) (outer : List Env) (s0 : Shared) (H : Hp) (E : XK) (hr : Room 3 (A.deeper (envOfC "_law_stroke" (defScope (top 61)) s0.heap.objs.size f cdv))) : DSs (cxOf CX0 P w K mg base ["_law_d", "_law_most", "_law_stroke_here", "_law_k", "_law_spot_here"] "_law_stroke" (defScope (top 61)) f cdv A outer s0 H E).nox (defBody (top 61)) (rd_law_strokeT Γ) :=
 (dss_cons (ds_set (i := 2) sc_law_strokeT.nd (de_tup (da_cons (de_call G_law_step (hr.mono (by decide)) rfl (da_cons (de_var 0) (da_cons de_int da_nil))) da_nil)))
 (dss_cons (ds_for (vs := [3]) (di_range1 rfl T.f_range (da_cons (de_call G_law_below (hr.mono (by decide)) rfl (da_cons (de_var 0) (da_cons (de_var 1) da_nil))) da_nil)) (dg_name (i := 3) sc_law_strokeT.nd)
 (dss_cons (ds_set (i := 4) sc_law_strokeT.nd (de_if (dt_gt (de_call G_law_below (hr.mono (by decide)) rfl (da_cons (de_var 0) (da_cons de_int da_nil))) de_int) (de_call G_law_step (hr.mono (by decide)) rfl (da_cons (de_var 0) (da_cons de_int da_nil))) (de_call G_law_spotT (hr.mono (by decide)) rfl (da_cons (de_var 0) da_nil))))
 (dss_one (ds_if (dt_ne hr.units (de_var 4) (de_ix (de_var 2) (de_neg de_int)))
 (dss_one (ds_set (i := 2) sc_law_strokeT.nd (de_add (de_var 2) (de_tup (da_cons (de_var 4) da_nil)))))
 dss_nil))))
 (dss_one (ds_ret (de_var 2)))))
theorem dv_law_strokesT (Γ : CL) (T : Fc K mg Γ) (G_law_below : FnG P w K mg base 1 "_law_below" (sp_law_below Γ)) (G_law_strokeT : FnG P w K mg base 4 "_law_stroke" (sp_law_strokeT Γ)) (cdv : Value) (A : Around) (outer : List Env) (s0 : Shared) (H : Hp) (E : XK) (hr : Room 4 (A.deeper (envOfC "_law_strokes" (defScope (top 62)) s0.heap.objs.size f cdv))) : DSs (cxOf CX0 P w K mg base ["_law_d", "_law_most", "_law_k"] "_law_strokes" (defScope (top 62)) f cdv A outer s0 H E).nox (defBody (top 62)) (rd_law_strokesT Γ) :=
 (dss_one (ds_ret (de_tuple rfl T.f_tuple (da_cons (de_lc [("_law_k", 2)] sc_law_strokesT.nd (di_range1 rfl T.f_range (da_cons (de_call G_law_below (hr.mono (by decide)) rfl (da_cons (de_var 0) (da_cons (de_add (de_var 1) de_int) da_nil))) da_nil)) (by kernel_rfl) (fun _ _ _ _ _ => (dg_name (i := 2) sc_law_strokesT.nd)) (fun _ _ _ _ _ => dts_nil) (fun _ _ _ _ _ => (de_call G_law_strokeT (hr.mono (by decide)) rfl (da_cons (de_var 0) (da_cons de_int da_nil))))) da_nil))))
theorem dv_is_int (Γ : CL) (T : Fc K mg Γ)  (cdv : Value) (A : Around) (outer : List Env) (s0 : Shared) (H : Hp) (E : XK) (hr : Room 0 (A.deeper (envOfC "is_int" (defScope (top 25)) s0.heap.objs.size f cdv))) : DSs (cxOf CX0 P w K mg base ["value"] "is_int" (defScope (top 25)) f cdv A outer s0 H E).nox (defBody (top 25)) (rd_is_int Γ) :=
 (dss_one (ds_ret (de_and (de_isi rfl T.f_isinstance (da_cons (de_var 0) (da_cons (de_ty (n := "int") rfl T.f_int (by decide +kernel)) da_nil))) (de_one (de_not (de_isi rfl T.f_isinstance (da_cons (de_var 0) (da_cons (de_ty (n := "bool") rfl T.f_bool (by decide +kernel)) da_nil))))))))
theorem dv_common_divisor (Γ : CL) (T : Fc K mg Γ)  (cdv : Value) (A : Around) (outer : List Env) (s0 : Shared) (H : Hp) (E : XK) (hr : Room 0 (A.deeper (envOfC "common_divisor" (defScope (top 26)) s0.heap.objs.size f cdv))) : DSs (cxOf CX0 P w K mg base ["one", "other"] "common_divisor" (defScope (top 26)) f cdv A outer s0 H E).nox (defBody (top 26)) (rd_common_divisor Γ) :=
 (dss_cons (ds_par (i := 0) (j := 1) sc_common_divisor.nd (da_cons (de_abs rfl T.f_abs (da_cons (de_var 0) da_nil)) (da_cons (de_abs rfl T.f_abs (da_cons (de_var 1) da_nil)) da_nil)))
 (dss_cons (ds_while (dt_gt (de_var 1) de_int) (dss_one (ds_par (i := 0) (j := 1) sc_common_divisor.nd (da_cons (de_var 1) (da_cons (de_mod (de_var 0) (de_var 1)) da_nil)))))
 (dss_one (ds_ret (de_var 0)))))
theorem dv_lowest (Γ : CL) (T : Fc K mg Γ) (G_common_divisor : FnG P w K mg base 1 "common_divisor" (sp_common_divisor Γ)) (cdv : Value) (A : Around) (outer : List Env) (s0 : Shared) (H : Hp) (E : XK) (hr : Room 1 (A.deeper (envOfC "lowest" (defScope (top 28)) s0.heap.objs.size f cdv))) : DSs (cxOf CX0 P w K mg base ["x", "y", "d", "divisor", "sign"] "lowest" (defScope (top 28)) f cdv A outer s0 H E).nox (defBody (top 28)) (rd_lowest Γ) :=
 (dss_cons (ds_set (i := 3) sc_lowest.nd (de_call G_common_divisor (hr.mono (by decide)) rfl (da_cons (de_call G_common_divisor (hr.mono (by decide)) rfl (da_cons (de_var 0) (da_cons (de_var 1) da_nil))) (da_cons (de_var 2) da_nil))))
 (dss_cons (ds_set (i := 4) sc_lowest.nd (de_if (dt_gt (de_var 2) de_int) de_int (de_neg de_int)))
 (dss_one (ds_ret (de_tup (da_cons (de_div (de_mul (de_var 4) (de_var 0)) (de_var 3)) (da_cons (de_div (de_mul (de_var 4) (de_var 1)) (de_var 3)) (da_cons (de_div (de_mul (de_var 4) (de_var 2)) (de_var 3)) da_nil))))))))
theorem dv_is_number (Γ : CL) (T : Fc K mg Γ) (G_is_int : FnG P w K mg base 1 "is_int" (sp_is_int Γ)) (G_lowest : FnG P w K mg base 2 "lowest" (sp_lowest Γ)) (cdv : Value) (A : Around) (outer : List Env) (s0 : Shared) (H : Hp) (E : XK) (hr : Room 2 (A.deeper (envOfC "is_number" (defScope (top 30)) s0.heap.objs.size f cdv))) : DSs (cxOf CX0 P w K mg base ["value", "part"] "is_number" (defScope (top 30)) f cdv A outer s0 H E).nox (defBody (top 30)) (rd_is_number Γ) :=
 (dss_cons (ds_if (dt_w (dw_or (dt_not (dt_val (de_isi rfl T.f_isinstance (da_cons (de_var 0) (da_cons (de_ty (n := "tuple") rfl T.f_tuple (by decide +kernel)) da_nil))))) (dw_or (dt_ne hr.units (de_len rfl T.f_len (da_cons (de_var 0) da_nil)) de_int) (dw_or1 (dt_not (dt_val (de_all rfl T.f_all (da_cons (de_lc [("part", 1)] sc_is_number.nd (di_tup (de_var 0)) (by kernel_rfl) (fun _ _ _ _ _ => (dg_name (i := 1) sc_is_number.nd)) (fun _ _ _ _ _ => dts_nil) (fun _ _ _ _ _ => (de_call G_is_int (hr.mono (by decide)) rfl (da_cons (de_var 1) da_nil)))) da_nil))))))))
 (dss_one (ds_ret de_bl))
 dss_nil)
 (dss_one (ds_ret (de_and (de_gt (de_ix (de_var 0) de_int) de_int) (de_one (de_eq hr.units (de_callS1 G_lowest (hr.mono (by decide)) rfl (de_var 0)) (de_var 0)))))))
theorem dv_check_spot (Γ : CL) (T : Fc K mg Γ) (G_is_number : FnG P w K mg base 3 "is_number" (sp_is_number Γ)) (cdv : Value) (A : Around) (outer : List Env) (s0 : Shared) (H : Hp) (E : XK) (hr : Room 3 (A.deeper (envOfC "check_spot" (defScope (top 37)) s0.heap.objs.size f cdv))) : DSs (cxOf CX0 P w K mg base ["value"] "check_spot" (defScope (top 37)) f cdv A outer s0 H E).nox (defBody (top 37)) (rd_check_spot Γ) :=
 (dss_one (ds_if (dt_not (dt_val (de_call G_is_number (hr.mono (by decide)) rfl (da_cons (de_var 0) da_nil))))
 (dss_one ds_never)
 dss_nil))
theorem dv_check_stroke (Γ : CL) (T : Fc K mg Γ) (G_check_spot : FnG P w K mg base 4 "check_spot" (sp_check_spot Γ)) (cdv : Value) (A : Around) (outer : List Env) (s0 : Shared) (H : Hp) (E : XK) (hr : Room 4 (A.deeper (envOfC "check_stroke" (defScope (top 44)) s0.heap.objs.size f cdv))) : DSs (cxOf CX0 P w K mg base ["stroke", "index", "spot", "e", "is_still", "one", "other"] "check_stroke" (defScope (top 44)) f cdv A outer s0 H E).nox (defBody (top 44)) (rd_check_stroke Γ) :=
 (dss_cons (ds_thru (dss_one (ds_for (vs := [2]) (di_tup (de_var 0)) (dg_name (i := 2) sc_check_stroke.nd)
 (dss_one (ds_expr (de_call G_check_spot (hr.mono (by decide)) rfl (da_cons (de_var 2) da_nil)))))))
 (dss_cons (ds_set (i := 4) sc_check_stroke.nd (de_any rfl T.f_any (da_cons (de_lc [("one", 5), ("other", 6)] sc_check_stroke.nd (di_zip rfl T.f_zip (da_cons (de_var 0) (da_cons (de_slice (de_var 0) (do_some de_int) do_none) da_nil))) (by kernel_rfl) (fun _ _ _ _ _ => (dg_tup (dgs_cons (dg_name (i := 5) sc_check_stroke.nd) (dgs_cons (dg_name (i := 6) sc_check_stroke.nd) dgs_nil)))) (fun _ _ _ _ _ => dts_nil) (fun _ _ _ _ _ => (de_eq hr.units (de_var 5) (de_var 6)))) da_nil)))
 (dss_one (ds_if (dt_w (dw_or (dt_not (dt_chain_le_le de_int (de_len rfl T.f_len (da_cons (de_var 0) da_nil)) T.c_MAX_SPOTS.de)) (dw_or1 (dt_val (de_var 4)))))
 (dss_one ds_never)
 dss_nil))))
theorem dv_Drawing___init (Γ : CL) (T : Fc K mg Γ) (G_check_stroke : FnG P w K mg base 5 "check_stroke" (sp_check_stroke Γ)) (cdv : Value) (A : Around) (outer : List Env) (s0 : Shared) (H : Hp) (E : XK) (hr : Room 5 (A.deeper (envOfC "Drawing.__init__" (defScope (inClass (top 45) 0)) s0.heap.objs.size f cdv))) : DSs (cxOf CX0 P w K mg base ["self", "strokes", "index", "stroke"] "Drawing.__init__" (defScope (inClass (top 45) 0)) f cdv A outer s0 H E).nox (defBody (inClass (top 45) 0)) (rd_Drawing___init Γ) :=
 (dss_cons (ds_for (vs := [2, 3]) (di_enum rfl T.f_enumerate (da_cons (de_var 1) da_nil)) (dg_tup (dgs_cons (dg_name (i := 2) sc_Drawing___init.nd) (dgs_cons (dg_name (i := 3) sc_Drawing___init.nd) dgs_nil)))
 (dss_one (ds_expr (de_call G_check_stroke (hr.mono (by decide)) rfl (da_cons (de_var 3) (da_cons (de_var 2) da_nil))))))
 (dss_cons (ds_if (dt_gt (de_len rfl T.f_len (da_cons (de_var 1) da_nil)) T.c_MAX_STROKES.de)
 (dss_one ds_never)
 dss_nil)
 (dss_one (ds_fld (de_var 0) (de_var 1) T.cl_Drawing T.n_Drawing_strokes))))
theorem dv_Drawing___add (Γ : CL) (T : Fc K mg Γ) (G_Drawing___init : MkS P w K mg base 6 "Drawing" Γ.Drawing (sp_Drawing___init Γ)) (cdv : Value) (A : Around) (outer : List Env) (s0 : Shared) (H : Hp) (E : XK) (hr : Room 7 (A.deeper (envOfC "Drawing.__add__" (defScope (inClass (top 45) 5)) s0.heap.objs.size f cdv))) : DSs (cxOf CX0 P w K mg base ["self", "other", "strokes"] "Drawing.__add__" (defScope (inClass (top 45) 5)) f cdv A outer s0 H E).nox (defBody (inClass (top 45) 5)) (rd_Drawing___add Γ) :=
 (dss_cons (ds_set (i := 2) sc_Drawing___add.nd (de_tup (da_star (de_fld (de_var 0) T.cl_Drawing T.n_Drawing_strokes) (da_star (de_fld (de_var 1) T.cl_Drawing T.n_Drawing_strokes) da_nil))))
 (dss_one (ds_ret (de_makeS1 G_Drawing___init (hr.mono (by decide)) rfl (de_var 2)))))
theorem dv_law_drawing (Γ : CL) (T : Fc K mg Γ) (G_Drawing___add : MtG P w K mg base 8 Γ.Drawing (He.ma K Γ.Drawing "__add__") (sp_Drawing___add Γ)) (G_Drawing___init : MkS P w K mg base 6 "Drawing" Γ.Drawing (sp_Drawing___init Γ)) (cdv : Value) (A : Around) (outer : List Env) (s0 : Shared) (H : Hp) (E : XK) (hr : Room 8 (A.deeper (envOfC "_law_drawing" (defScope (top 63)) s0.heap.objs.size f cdv))) : DSs (cxOf CX0 P w K mg base ["_law_strokes_here", "_law_drawing_here", "_law_stroke_here"] "_law_drawing" (defScope (top 63)) f cdv A outer s0 H E).nox (defBody (top 63)) (rd_law_drawing Γ) :=
 (dss_cons (ds_set (i := 1) sc_law_drawing.nd (de_makeS0 G_Drawing___init (hr.mono (by decide)) rfl))
 (dss_cons (ds_for (vs := [2]) (di_tup (de_var 0)) (dg_name (i := 2) sc_law_drawing.nd)
 (dss_one (ds_set (i := 1) sc_law_drawing.nd (de_opO G_Drawing___add (hr.mono (by decide)) T.sf_Drawing T.w_Drawing___add T.v_Drawing___add (de_var 1) (de_makeS G_Drawing___init (hr.mono (by decide)) rfl (da_cons (de_var 2) da_nil))))))
 (dss_one (ds_ret (de_var 1)))))
theorem dv_law_plus (Γ : CL) (T : Fc K mg Γ) (G_law_lowest : FnG P w K mg base 2 "_law_lowest" (sp_law_lowest Γ)) (cdv : Value) (A : Around) (outer : List Env) (s0 : Shared) (H : Hp) (E : XK) (hr : Room 2 (A.deeper (envOfC "_law_plus" (defScope (top 64)) s0.heap.objs.size f cdv))) : DSs (cxOf CX0 P w K mg base ["_law_one", "_law_other", "_law_x", "_law_y"] "_law_plus" (defScope (top 64)) f cdv A outer s0 H E).nox (defBody (top 64)) (rd_law_plus Γ) :=
 (dss_cons (ds_set (i := 2) sc_law_plus.nd (de_add (de_mul (de_ix (de_var 0) de_int) (de_ix (de_var 1) de_int)) (de_mul (de_ix (de_var 1) de_int) (de_ix (de_var 0) de_int))))
 (dss_cons (ds_set (i := 3) sc_law_plus.nd (de_add (de_mul (de_ix (de_var 0) de_int) (de_ix (de_var 1) de_int)) (de_mul (de_ix (de_var 1) de_int) (de_ix (de_var 0) de_int))))
 (dss_one (ds_ret (de_call G_law_lowest (hr.mono (by decide)) rfl (da_cons (de_var 2) (da_cons (de_var 3) (da_cons (de_mul (de_ix (de_var 0) de_int) (de_ix (de_var 1) de_int)) da_nil))))))))
theorem dv_law_minus (Γ : CL) (T : Fc K mg Γ) (G_law_plus : FnG P w K mg base 3 "_law_plus" (sp_law_plus Γ)) (cdv : Value) (A : Around) (outer : List Env) (s0 : Shared) (H : Hp) (E : XK) (hr : Room 3 (A.deeper (envOfC "_law_minus" (defScope (top 65)) s0.heap.objs.size f cdv))) : DSs (cxOf CX0 P w K mg base ["_law_one", "_law_other"] "_law_minus" (defScope (top 65)) f cdv A outer s0 H E).nox (defBody (top 65)) (rd_law_minus Γ) :=
 (dss_one (ds_ret (de_call G_law_plus (hr.mono (by decide)) rfl (da_cons (de_var 0) (da_cons (de_tup (da_cons (de_sub de_int (de_ix (de_var 1) de_int)) (da_cons (de_sub de_int (de_ix (de_var 1) de_int)) (da_cons (de_ix (de_var 1) de_int) da_nil)))) da_nil)))))
theorem dv_law_ahead (Γ : CL) (T : Fc K mg Γ)  (cdv : Value) (A : Around) (outer : List Env) (s0 : Shared) (H : Hp) (E : XK) (hr : Room 0 (A.deeper (envOfC "_law_ahead" (defScope (top 66)) s0.heap.objs.size f cdv))) : DSs (cxOf CX0 P w K mg base ["_law_one", "_law_other", "_law_right"] "_law_ahead" (defScope (top 66)) f cdv A outer s0 H E).nox (defBody (top 66)) (rd_law_ahead Γ) :=
 (dss_cons (ds_set (i := 2) sc_law_ahead.nd (de_sub (de_mul (de_ix (de_var 0) de_int) (de_ix (de_var 1) de_int)) (de_mul (de_ix (de_var 1) de_int) (de_ix (de_var 0) de_int))))
 (dss_one (ds_ret (de_or (de_lt (de_var 2) de_int) (de_one (de_and (de_eq hr.units (de_var 2) de_int) (de_one (de_lt (de_mul (de_ix (de_var 0) de_int) (de_ix (de_var 1) de_int)) (de_mul (de_ix (de_var 1) de_int) (de_ix (de_var 0) de_int))))))))))
theorem dv_law_lies (Γ : CL) (T : Fc K mg Γ) (G_law_minus : FnG P w K mg base 4 "_law_minus" (sp_law_minus Γ)) (G_law_ahead : FnG P w K mg base 1 "_law_ahead" (sp_law_ahead Γ)) (cdv : Value) (A : Around) (outer : List Env) (s0 : Shared) (H : Hp) (E : XK) (hr : Room 4 (A.deeper (envOfC "_law_lies" (defScope (top 67)) s0.heap.objs.size f cdv))) : DSs (cxOf CX0 P w K mg base ["_law_spot_here", "_law_one", "_law_other", "_law_here", "_law_there", "_law_low", "_law_high"] "_law_lies" (defScope (top 67)) f cdv A outer s0 H E).nox (defBody (top 67)) (rd_law_lies Γ) :=
 (dss_cons (ds_par (i := 3) (j := 4) sc_law_lies.nd (da_cons (de_call G_law_minus (hr.mono (by decide)) rfl (da_cons (de_var 0) (da_cons (de_var 1) da_nil))) (da_cons (de_call G_law_minus (hr.mono (by decide)) rfl (da_cons (de_var 2) (da_cons (de_var 1) da_nil))) da_nil)))
 (dss_cons (ds_if (dt_ne hr.units (de_mul (de_ix (de_var 3) de_int) (de_ix (de_var 4) de_int)) (de_mul (de_ix (de_var 3) de_int) (de_ix (de_var 4) de_int)))
 (dss_one (ds_ret de_bl))
 dss_nil)
 (dss_cons (ds_asg (vs := [5, 6]) (de_if (dt_val (de_call G_law_ahead (hr.mono (by decide)) rfl (da_cons (de_var 2) (da_cons (de_var 1) da_nil)))) (de_lst (da_cons (de_var 2) (da_cons (de_var 1) da_nil))) (de_lst (da_cons (de_var 1) (da_cons (de_var 2) da_nil)))) (dg_lst (dgs_cons (dg_name (i := 5) sc_law_lies.nd) (dgs_cons (dg_name (i := 6) sc_law_lies.nd) dgs_nil))))
 (dss_one (ds_ret (de_and (de_not (de_call G_law_ahead (hr.mono (by decide)) rfl (da_cons (de_var 0) (da_cons (de_var 5) da_nil)))) (de_one (de_not (de_call G_law_ahead (hr.mono (by decide)) rfl (da_cons (de_var 6) (da_cons (de_var 0) da_nil)))))))))))
theorem dv_law_covers (Γ : CL) (T : Fc K mg Γ) (G_law_lies : FnG P w K mg base 5 "_law_lies" (sp_law_lies Γ)) (cdv : Value) (A : Around) (outer : List Env) (s0 : Shared) (H : Hp) (E : XK) (hr : Room 5 (A.deeper (envOfC "_law_covers" (defScope (top 68)) s0.heap.objs.size f cdv))) : DSs (cxOf CX0 P w K mg base ["_law_strokes_here", "_law_spot_here", "_law_stroke_here", "_law_k"] "_law_covers" (defScope (top 68)) f cdv A outer s0 H E).nox (defBody (top 68)) (rd_law_covers Γ) :=
 (dss_cons (ds_for (vs := [2]) (di_tup (de_var 0)) (dg_name (i := 2) sc_law_covers.nd)
 (dss_cons (ds_if (dt_eq hr.units (de_var 1) (de_ix (de_var 2) de_int))
 (dss_one (ds_ret de_bl))
 dss_nil)
 (dss_one (ds_if (dt_ne hr.units (de_lc [("_law_k", 3)] sc_law_covers.nd (di_range1 rfl T.f_range (da_cons (de_sub (de_len rfl T.f_len (da_cons (de_var 2) da_nil)) de_int) da_nil)) (by kernel_rfl) (fun _ _ _ _ _ => (dg_name (i := 3) sc_law_covers.nd)) (fun _ _ _ _ _ => (dts_one (dt_val (de_call G_law_lies (hr.mono (by decide)) rfl (da_cons (de_var 1) (da_cons (de_ix (de_var 2) (de_var 3)) (da_cons (de_ix (de_var 2) (de_add (de_var 3) de_int)) da_nil))))))) (fun _ _ _ _ _ => (de_var 3))) (de_lst da_nil))
 (dss_one (ds_ret de_bl))
 dss_nil))))
 (dss_one (ds_ret de_bl)))
theorem dv_law_equal (Γ : CL) (T : Fc K mg Γ) {k m : Nat} (G_law_equal : FnG P w K mg base k "_law_equal" (sp_law_equal Γ m)) (cdv : Value) (A : Around) (outer : List Env) (s0 : Shared) (H : Hp) (E : XK) (hr : Room k (A.deeper (envOfC "_law_equal" (defScope (top 69)) s0.heap.objs.size f cdv))) : DSs (cxOf CX0 P w K mg base ["_law_actual", "_law_expected", "_law_k"] "_law_equal" (defScope (top 69)) f cdv A outer s0 H E).nox (defBody (top 69)) (rd_law_equal Γ m) :=
 (dss_cons (ds_if (dt_isN (de_var 1) de_non)
 (dss_one (ds_ret (de_isN (de_var 0) de_non)))
 dss_nil)
 (dss_cons (ds_if (dt_val (de_isi rfl T.f_isinstance (da_cons (de_var 1) (da_cons (de_ty (n := "bool") rfl T.f_bool (by decide +kernel)) da_nil))))
 (dss_one (ds_ret (de_and (de_isi rfl T.f_isinstance (da_cons (de_var 0) (da_cons (de_ty (n := "bool") rfl T.f_bool (by decide +kernel)) da_nil))) (de_one (de_eq hr.units (de_var 0) (de_var 1))))))
 dss_nil)
 (dss_cons (ds_if (dt_val (de_isi rfl T.f_isinstance (da_cons (de_var 1) (da_cons (de_ty (n := "int") rfl T.f_int (by decide +kernel)) da_nil))))
 (dss_one (ds_ret (de_and (de_isi rfl T.f_isinstance (da_cons (de_var 0) (da_cons (de_ty (n := "int") rfl T.f_int (by decide +kernel)) da_nil))) (de_and (de_not (de_isi rfl T.f_isinstance (da_cons (de_var 0) (da_cons (de_ty (n := "bool") rfl T.f_bool (by decide +kernel)) da_nil)))) (de_one (de_eq hr.units (de_var 0) (de_var 1)))))))
 dss_nil)
 (dss_cons (ds_if (dt_val (de_isi rfl T.f_isinstance (da_cons (de_var 1) (da_cons (de_ty (n := "str") rfl T.f_str (by decide +kernel)) da_nil))))
 (dss_one (ds_ret (de_and (de_isi rfl T.f_isinstance (da_cons (de_var 0) (da_cons (de_ty (n := "str") rfl T.f_str (by decide +kernel)) da_nil))) (de_one (de_eq hr.units (de_var 0) (de_var 1))))))
 dss_nil)
 (dss_cons (ds_if (dt_ne hr.units (de_isi rfl T.f_isinstance (da_cons (de_var 1) (da_cons (de_ty (n := "tuple") rfl T.f_tuple (by decide +kernel)) da_nil))) (de_isi rfl T.f_isinstance (da_cons (de_var 0) (da_cons (de_ty (n := "tuple") rfl T.f_tuple (by decide +kernel)) da_nil))))
 (dss_one (ds_ret de_bl))
 dss_nil)
 (dss_cons (ds_if (dt_ne hr.units (de_isi rfl T.f_isinstance (da_cons (de_var 1) (da_cons (de_ty (n := "list") rfl T.f_list (by decide +kernel)) da_nil))) (de_isi rfl T.f_isinstance (da_cons (de_var 0) (da_cons (de_ty (n := "list") rfl T.f_list (by decide +kernel)) da_nil))))
 (dss_one (ds_ret de_bl))
 dss_nil)
 (dss_cons (ds_if (dt_ne hr.units (de_len rfl T.f_len (da_cons (de_var 0) da_nil)) (de_len rfl T.f_len (da_cons (de_var 1) da_nil)))
 (dss_one (ds_ret de_bl))
 dss_nil)
 (dss_one (ds_ret (de_all rfl T.f_all (da_cons (de_lc [("_law_k", 2)] sc_law_equal.nd (di_range1 rfl T.f_range (da_cons (de_len rfl T.f_len (da_cons (de_var 1) da_nil)) da_nil)) (by kernel_rfl) (fun _ _ _ _ _ => (dg_name (i := 2) sc_law_equal.nd)) (fun _ _ _ _ _ => dts_nil) (fun _ _ _ _ _ => (de_call G_law_equal hr rfl (da_cons (de_ix (de_var 0) (de_var 2)) (da_cons (de_ix (de_var 1) (de_var 2)) da_nil))))) da_nil)))))))))))
theorem dv_is_int_in (Γ : CL) (T : Fc K mg Γ)  (cdv : Value) (A : Around) (outer : List Env) (s0 : Shared) (H : Hp) (E : XK) (hr : Room 0 (A.deeper (envOfC "is_int_in" (defScope (top 24)) s0.heap.objs.size f cdv))) : DSs (cxOf CX0 P w K mg base ["value", "low", "high"] "is_int_in" (defScope (top 24)) f cdv A outer s0 H E).nox (defBody (top 24)) (rd_is_int_in Γ) :=
 (dss_one (ds_ret (de_and (de_isi rfl T.f_isinstance (da_cons (de_var 0) (da_cons (de_ty (n := "int") rfl T.f_int (by decide +kernel)) da_nil))) (de_and (de_not (de_isi rfl T.f_isinstance (da_cons (de_var 0) (da_cons (de_ty (n := "bool") rfl T.f_bool (by decide +kernel)) da_nil)))) (de_one (de_chain_le_le (de_var 1) (de_var 0) (de_var 2)))))))
theorem dv_common_multiple (Γ : CL) (T : Fc K mg Γ) (G_common_divisor : FnG P w K mg base 1 "common_divisor" (sp_common_divisor Γ)) (cdv : Value) (A : Around) (outer : List Env) (s0 : Shared) (H : Hp) (E : XK) (hr : Room 1 (A.deeper (envOfC "common_multiple" (defScope (top 27)) s0.heap.objs.size f cdv))) : DSs (cxOf CX0 P w K mg base ["values", "found", "value"] "common_multiple" (defScope (top 27)) f cdv A outer s0 H E).nox (defBody (top 27)) (rd_common_multiple Γ) :=
 (dss_cons (ds_set (i := 1) sc_common_multiple.nd de_int)
 (dss_cons (ds_for (vs := [2]) (di_list (de_var 0)) (dg_name (i := 2) sc_common_multiple.nd)
 (dss_one (ds_set (i := 1) sc_common_multiple.nd (de_mul (de_div (de_var 1) (de_call G_common_divisor (hr.mono (by decide)) rfl (da_cons (de_var 1) (da_cons (de_var 2) da_nil)))) (de_var 2)))))
 (dss_one (ds_ret (de_var 1)))))
theorem dv_scaled (Γ : CL) (T : Fc K mg Γ) (G_common_multiple : FnG P w K mg base 2 "common_multiple" (sp_common_multiple Γ)) (cdv : Value) (A : Around) (outer : List Env) (s0 : Shared) (H : Hp) (E : XK) (hr : Room 2 (A.deeper (envOfC "scaled" (defScope (top 46)) s0.heap.objs.size f cdv))) : DSs (cxOf CX0 P w K mg base ["strokes", "scale", "stroke", "spot", "found"] "scaled" (defScope (top 46)) f cdv A outer s0 H E).nox (defBody (top 46)) (rd_scaled Γ) :=
 (dss_cons (ds_set (i := 1) sc_scaled.nd (de_call G_common_multiple (hr.mono (by decide)) rfl (da_cons (de_lc2 [("stroke", 2), ("spot", 3)] [3] sc_scaled.nd (di_seq (de_var 0)) (by kernel_rfl) (fun _ _ _ _ _ => (dg_name (i := 2) sc_scaled.nd)) (fun _ _ _ _ _ => dts_nil) (fun _ _ _ _ _ => (di_tup (de_var 2))) (fun _ _ _ _ _ => (dg_name (i := 3) sc_scaled.nd)) (fun _ _ _ _ _ => dts_nil) (fun _ _ _ _ _ => (de_ix (de_var 3) de_int))) da_nil)))
 (dss_cons (ds_set (i := 4) sc_scaled.nd (de_lstM da_nil))
 (dss_cons (ds_for (vs := [2]) (di_seq (de_var 0)) (dg_name (i := 2) sc_scaled.nd)
 (dss_one (ds_expr (de_append (de_var 4) (da_cons (de_tuple rfl T.f_tuple (da_cons (de_lc [("spot", 3)] sc_scaled.nd (di_tup (de_var 2)) (by kernel_rfl) (fun _ _ _ _ _ => (dg_name (i := 3) sc_scaled.nd)) (fun _ _ _ _ _ => dts_nil) (fun _ _ _ _ _ => (de_tup (da_cons (de_mul (de_ix (de_var 3) de_int) (de_div (de_var 1) (de_ix (de_var 3) de_int))) (da_cons (de_mul (de_ix (de_var 3) de_int) (de_div (de_var 1) (de_ix (de_var 3) de_int))) da_nil))))) da_nil)) da_nil)))))
 (dss_one (ds_ret (de_tup (da_cons (de_var 1) (da_cons (de_frz (de_var 4)) da_nil))))))))
theorem dv_line_key (Γ : CL) (T : Fc K mg Γ) (G_common_divisor : FnG P w K mg base 1 "common_divisor" (sp_common_divisor Γ)) (cdv : Value) (A : Around) (outer : List Env) (s0 : Shared) (H : Hp) (E : XK) (hr : Room 1 (A.deeper (envOfC "line_key" (defScope (top 47)) s0.heap.objs.size f cdv))) : DSs (cxOf CX0 P w K mg base ["one", "other", "right", "up", "divisor"] "line_key" (defScope (top 47)) f cdv A outer s0 H E).nox (defBody (top 47)) (rd_line_key Γ) :=
 (dss_cons (ds_par (i := 2) (j := 3) sc_line_key.nd (da_cons (de_sub (de_ix (de_var 1) de_int) (de_ix (de_var 0) de_int)) (da_cons (de_sub (de_ix (de_var 1) de_int) (de_ix (de_var 0) de_int)) da_nil)))
 (dss_cons (ds_set (i := 4) sc_line_key.nd (de_call G_common_divisor (hr.mono (by decide)) rfl (da_cons (de_var 2) (da_cons (de_var 3) da_nil))))
 (dss_cons (ds_par (i := 2) (j := 3) sc_line_key.nd (da_cons (de_div (de_var 2) (de_var 4)) (da_cons (de_div (de_var 3) (de_var 4)) da_nil)))
 (dss_cons (ds_if (dt_w (dw_or (dt_lt (de_var 2) de_int) (dw_or1 (dt_w (dw_and (dt_eq hr.units (de_var 2) de_int) (dw_and1 (dt_lt (de_var 3) de_int)))))))
 (dss_one (ds_par (i := 2) (j := 3) sc_line_key.nd (da_cons (de_sub de_int (de_var 2)) (da_cons (de_sub de_int (de_var 3)) da_nil))))
 dss_nil)
 (dss_one (ds_ret (de_tup (da_cons (de_var 2) (da_cons (de_var 3) (da_cons (de_sub (de_mul (de_ix (de_var 0) de_int) (de_var 3)) (de_mul (de_ix (de_var 0) de_int) (de_var 2))) da_nil))))))))))
theorem dv_joined (Γ : CL) (T : Fc K mg Γ)  (cdv : Value) (A : Around) (outer : List Env) (s0 : Shared) (H : Hp) (E : XK) (hr : Room 0 (A.deeper (envOfC "joined" (defScope (top 48)) s0.heap.objs.size f cdv))) : DSs (cxOf CX0 P w K mg base ["parts", "found", "first", "last"] "joined" (defScope (top 48)) f cdv A outer s0 H E).nox (defBody (top 48)) (rd_joined Γ) :=
 (dss_cons (ds_set (i := 1) sc_joined.nd (de_lstM da_nil))
 (dss_cons (ds_for (vs := [2, 3]) (di_list (de_sorted hr rfl T.f_sorted (da_cons (de_var 0) da_nil))) (dg_tup (dgs_cons (dg_name (i := 2) sc_joined.nd) (dgs_cons (dg_name (i := 3) sc_joined.nd) dgs_nil)))
 (dss_one (ds_if (dt_w (dw_and (dt_ne hr.units (de_var 1) (de_lst da_nil)) (dw_and1 (dt_leD hr (de_var 2) (de_ix (de_ix (de_var 1) (de_neg de_int)) de_int)))))
 (dss_one (ds_setIx (de_tup (da_cons (de_ix (de_ix (de_var 1) (de_neg de_int)) de_int) (da_cons (de_maxD hr rfl T.f_max (da_cons (de_ix (de_ix (de_var 1) (de_neg de_int)) de_int) (da_cons (de_var 3) da_nil))) da_nil))) (de_var 1) (de_neg de_int)))
 (dss_one (ds_expr (de_append (de_var 1) (da_cons (de_tup (da_cons (de_var 2) (da_cons (de_var 3) da_nil))) da_nil)))))))
 (dss_one (ds_ret (de_frz (de_var 1))))))
theorem dv_lines_of (Γ : CL) (T : Fc K mg Γ) (G_line_key : FnG P w K mg base 2 "line_key" (sp_line_key Γ)) (G_joined : FnG P w K mg base 1 "joined" (sp_joined Γ)) (cdv : Value) (A : Around) (outer : List Env) (s0 : Shared) (H : Hp) (E : XK) (hr : Room 2 (A.deeper (envOfC "lines_of" (defScope (top 49)) s0.heap.objs.size f cdv))) : DSs (cxOf CX0 P w K mg base ["strokes", "parts", "stroke", "one", "other", "line", "found"] "lines_of" (defScope (top 49)) f cdv A outer s0 H E).nox (defBody (top 49)) (rd_lines_of Γ) :=
 (dss_cons (ds_set (i := 1) sc_lines_of.nd de_cnew)
 (dss_cons (ds_for (vs := [2]) (di_list (de_var 0)) (dg_name (i := 2) sc_lines_of.nd)
 (dss_one (ds_for (vs := [3, 4]) (di_zip rfl T.f_zip (da_cons (de_var 2) (da_cons (de_slice (de_var 2) (do_some de_int) do_none) da_nil))) (dg_tup (dgs_cons (dg_name (i := 3) sc_lines_of.nd) (dgs_cons (dg_name (i := 4) sc_lines_of.nd) dgs_nil)))
 (dss_one (ds_expr (de_append (de_cdef hr (de_var 1) (de_call G_line_key (hr.mono (by decide)) rfl (da_cons (de_var 3) (da_cons (de_var 4) da_nil))) (de_lstM da_nil)) (da_cons (de_tup (da_cons (de_minD hr rfl T.f_min (da_cons (de_var 3) (da_cons (de_var 4) da_nil))) (da_cons (de_maxD hr rfl T.f_max (da_cons (de_var 3) (da_cons (de_var 4) da_nil))) da_nil))) da_nil)))))))
 (dss_one (ds_ret (de_dc hr [("line", 5), ("found", 6)] sc_lines_of.nd (di_citems (de_var 1)) (by kernel_rfl) (fun _ _ _ _ _ => (dg_tup (dgs_cons (dg_name (i := 5) sc_lines_of.nd) (dgs_cons (dg_name (i := 6) sc_lines_of.nd) dgs_nil)))) (fun _ _ _ _ _ => dts_nil) (fun _ _ _ _ _ => (de_var 5)) (fun _ _ _ _ _ => (de_call G_joined (hr.mono (by decide)) rfl (da_cons (de_var 6) da_nil))))))))
theorem dv_lies_on (Γ : CL) (T : Fc K mg Γ)  (cdv : Value) (A : Around) (outer : List Env) (s0 : Shared) (H : Hp) (E : XK) (hr : Room 0 (A.deeper (envOfC "lies_on" (defScope (top 50)) s0.heap.objs.size f cdv))) : DSs (cxOf CX0 P w K mg base ["place", "lines", "right", "up", "rest", "parts", "first", "last"] "lies_on" (defScope (top 50)) f cdv A outer s0 H E).nox (defBody (top 50)) (rd_lies_on Γ) :=
 (dss_cons (ds_for (vs := [5, 2, 3, 4]) (di_citems (de_var 1)) (dg_tup (dgs_cons (dg_tup (dgs_cons (dg_name (i := 2) sc_lies_on.nd) (dgs_cons (dg_name (i := 3) sc_lies_on.nd) (dgs_cons (dg_name (i := 4) sc_lies_on.nd) dgs_nil)))) (dgs_cons (dg_name (i := 5) sc_lies_on.nd) dgs_nil)))
 (dss_one (ds_if (dt_w (dw_and (dt_eq hr.units (de_sub (de_mul (de_ix (de_var 0) de_int) (de_var 3)) (de_mul (de_ix (de_var 0) de_int) (de_var 2))) (de_var 4)) (dw_and1 (dt_val (de_any rfl T.f_any (da_cons (de_lc [("first", 6), ("last", 7)] sc_lies_on.nd (di_list (de_var 5)) (by kernel_rfl) (fun _ _ _ _ _ => (dg_tup (dgs_cons (dg_name (i := 6) sc_lies_on.nd) (dgs_cons (dg_name (i := 7) sc_lies_on.nd) dgs_nil)))) (fun _ _ _ _ _ => dts_nil) (fun _ _ _ _ _ => (de_chain_leD hr (de_var 6) (de_var 0) (de_var 7)))) da_nil))))))
 (dss_one (ds_ret de_bl))
 dss_nil)))
 (dss_one (ds_ret de_bl)))
theorem dv_picture (Γ : CL) (T : Fc K mg Γ) (G_is_int_in : FnG P w K mg base 1 "is_int_in" (sp_is_int_in Γ)) (G_scaled : FnG P w K mg base 3 "scaled" (sp_scaled Γ)) (G_lines_of : FnG P w K mg base 3 "lines_of" (sp_lines_of Γ)) (G_lies_on : FnG P w K mg base 1 "lies_on" (sp_lies_on Γ)) (cdv : Value) (A : Around) (outer : List Env) (s0 : Shared) (H : Hp) (E : XK) (hr : Room 3 (A.deeper (envOfC "picture" (defScope (top 53)) s0.heap.objs.size f cdv))) : DSs (cxOf CX0 P w K mg base ["drawing", "limit", "scale", "places", "lines", "dots", "stroke", "rows", "numbers", "y", "covered", "x", "is_covered"] "picture" (defScope (top 53)) f cdv A outer s0 H E).nox (defBody (top 53)) (rd_picture Γ) :=
 (dss_cons (ds_if (dt_not (dt_val (de_call G_is_int_in (hr.mono (by decide)) rfl (da_cons (de_var 1) (da_cons de_int (da_cons T.c_MAX_SIZE.de da_nil))))))
 (dss_one ds_never)
 dss_nil)
 (dss_cons (ds_asg (vs := [2, 3]) (de_call G_scaled (hr.mono (by decide)) rfl (da_cons (de_fld (de_var 0) T.cl_Drawing T.n_Drawing_strokes) da_nil)) (dg_tup (dgs_cons (dg_name (i := 2) sc_picture.nd) (dgs_cons (dg_name (i := 3) sc_picture.nd) dgs_nil))))
 (dss_cons (ds_set (i := 4) sc_picture.nd (de_call G_lines_of (hr.mono (by decide)) rfl (da_cons (de_var 3) da_nil)))
 (dss_cons (ds_set (i := 5) sc_picture.nd (de_lc [("stroke", 6)] sc_picture.nd (di_list (de_var 3)) (by kernel_rfl) (fun _ _ _ _ _ => (dg_name (i := 6) sc_picture.nd)) (fun _ _ _ _ _ => (dts_one (dt_eq hr.units (de_len rfl T.f_len (da_cons (de_var 6) da_nil)) de_int))) (fun _ _ _ _ _ => (de_ix (de_var 6) de_int))))
 (dss_cons (ds_par (i := 7) (j := 8) sc_picture.nd (da_cons (de_lstM da_nil) (da_cons (de_listRg2 rfl T.f_range rfl T.f_list (de_sub de_int (de_var 1)) (de_add (de_var 1) de_int)) da_nil)))
 (dss_cons (ds_for (vs := [9]) (di_list (de_revL (de_var 8))) (dg_name (i := 9) sc_picture.nd)
 (dss_cons (ds_setLc (i := 10) [("x", 11)] sc_picture.nd (sw_true rfl rfl rfl (by kernel_rfl)) (di_list (de_var 8)) (by kernel_rfl) (fun _ _ _ _ _ => (dg_name (i := 11) sc_picture.nd)) (fun _ _ _ _ _ => dts_nil) (fun _ _ _ _ _ => (de_or (de_in hr.u65 (de_tup (da_cons (de_mul (de_var 11) (de_var 2)) (da_cons (de_mul (de_var 9) (de_var 2)) da_nil))) (de_var 5)) (de_one (de_call G_lies_on (hr.mono (by decide)) rfl (da_cons (de_tup (da_cons (de_mul (de_var 11) (de_var 2)) (da_cons (de_mul (de_var 9) (de_var 2)) da_nil))) (da_cons (de_var 4) da_nil)))))))
 (dss_one (ds_expr (de_append (de_var 7) (da_cons (de_join de_str (de_lc [("is_covered", 12)] sc_picture.nd (di_list (de_var 10)) (by kernel_rfl) (fun _ _ _ _ _ => (dg_name (i := 12) sc_picture.nd)) (fun _ _ _ _ _ => dts_nil) (fun _ _ _ _ _ => (de_if (dt_val (de_var 12)) de_str de_str)))) da_nil))))))
 (dss_one (ds_ret (de_join de_str (de_var 7))))))))))
theorem dv_check_turn (Γ : CL) (T : Fc K mg Γ) (G_is_number : FnG P w K mg base 3 "is_number" (sp_is_number Γ)) (cdv : Value) (A : Around) (outer : List Env) (s0 : Shared) (H : Hp) (E : XK) (hr : Room 3 (A.deeper (envOfC "check_turn" (defScope (top 38)) s0.heap.objs.size f cdv))) : DSs (cxOf CX0 P w K mg base ["value"] "check_turn" (defScope (top 38)) f cdv A outer s0 H E).nox (defBody (top 38)) (rd_check_turn Γ) :=
 (dss_one (ds_if (dt_w (dw_or (dt_not (dt_val (de_call G_is_number (hr.mono (by decide)) rfl (da_cons (de_var 0) da_nil)))) (dw_or1 (dt_eq hr.units (de_var 0) T.c_ZERO.de))))
 (dss_one ds_never)
 dss_nil))
theorem dv_Copy___init (Γ : CL) (T : Fc K mg Γ) (G_check_turn : FnG P w K mg base 4 "check_turn" (sp_check_turn Γ)) (G_check_spot : FnG P w K mg base 4 "check_spot" (sp_check_spot Γ)) (cdv : Value) (A : Around) (outer : List Env) (s0 : Shared) (H : Hp) (E : XK) (hr : Room 4 (A.deeper (envOfC "Copy.__init__" (defScope (inClass (top 40) 0)) s0.heap.objs.size f cdv))) : DSs (cxOf CX0 P w K mg base ["self", "turn", "shift", "mirrored"] "Copy.__init__" (defScope (inClass (top 40) 0)) f cdv A outer s0 H E).nox (defBody (inClass (top 40) 0)) (rd_Copy___init Γ) :=
 (dss_cons (ds_expr (de_call G_check_turn (hr.mono (by decide)) rfl (da_cons (de_var 1) da_nil)))
 (dss_cons (ds_expr (de_call G_check_spot (hr.mono (by decide)) rfl (da_cons (de_var 2) da_nil)))
 (dss_cons (ds_fld (de_var 0) (de_var 1) T.cl_Copy T.n_Copy_turn)
 (dss_cons (ds_fld (de_var 0) (de_var 2) T.cl_Copy T.n_Copy_shift)
 (dss_cons (ds_fld (de_var 0) (de_var 3) T.cl_Copy T.n_Copy_mirrored)
 (dss_one (ds_fld (de_var 0) (de_tup (da_cons (de_var 1) (da_cons (de_var 2) (da_cons (de_var 3) da_nil)))) T.cl_Copy T.n_Copy_key)))))))
theorem dv_added (Γ : CL) (T : Fc K mg Γ) (G_lowest : FnG P w K mg base 2 "lowest" (sp_lowest Γ)) (cdv : Value) (A : Around) (outer : List Env) (s0 : Shared) (H : Hp) (E : XK) (hr : Room 2 (A.deeper (envOfC "added" (defScope (top 31)) s0.heap.objs.size f cdv))) : DSs (cxOf CX0 P w K mg base ["one", "other"] "added" (defScope (top 31)) f cdv A outer s0 H E).nox (defBody (top 31)) (rd_added Γ) :=
 (dss_one (ds_ret (de_call G_lowest (hr.mono (by decide)) rfl (da_cons (de_add (de_mul (de_ix (de_var 0) de_int) (de_ix (de_var 1) de_int)) (de_mul (de_ix (de_var 1) de_int) (de_ix (de_var 0) de_int))) (da_cons (de_add (de_mul (de_ix (de_var 0) de_int) (de_ix (de_var 1) de_int)) (de_mul (de_ix (de_var 1) de_int) (de_ix (de_var 0) de_int))) (da_cons (de_mul (de_ix (de_var 0) de_int) (de_ix (de_var 1) de_int)) da_nil))))))
theorem dv_multiplied (Γ : CL) (T : Fc K mg Γ) (G_lowest : FnG P w K mg base 2 "lowest" (sp_lowest Γ)) (cdv : Value) (A : Around) (outer : List Env) (s0 : Shared) (H : Hp) (E : XK) (hr : Room 2 (A.deeper (envOfC "multiplied" (defScope (top 33)) s0.heap.objs.size f cdv))) : DSs (cxOf CX0 P w K mg base ["one", "other", "x"] "multiplied" (defScope (top 33)) f cdv A outer s0 H E).nox (defBody (top 33)) (rd_multiplied Γ) :=
 (dss_cons (ds_set (i := 2) sc_multiplied.nd (de_sub (de_mul (de_ix (de_var 0) de_int) (de_ix (de_var 1) de_int)) (de_mul (de_ix (de_var 0) de_int) (de_ix (de_var 1) de_int))))
 (dss_one (ds_ret (de_call G_lowest (hr.mono (by decide)) rfl (da_cons (de_var 2) (da_cons (de_add (de_mul (de_ix (de_var 0) de_int) (de_ix (de_var 1) de_int)) (de_mul (de_ix (de_var 0) de_int) (de_ix (de_var 1) de_int))) (da_cons (de_mul (de_ix (de_var 0) de_int) (de_ix (de_var 1) de_int)) da_nil)))))))
theorem dv_turned_over (Γ : CL) (T : Fc K mg Γ)  (cdv : Value) (A : Around) (outer : List Env) (s0 : Shared) (H : Hp) (E : XK) (hr : Room 0 (A.deeper (envOfC "turned_over" (defScope (top 34)) s0.heap.objs.size f cdv))) : DSs (cxOf CX0 P w K mg base ["one"] "turned_over" (defScope (top 34)) f cdv A outer s0 H E).nox (defBody (top 34)) (rd_turned_over Γ) :=
 (dss_one (ds_ret (de_tup (da_cons (de_ix (de_var 0) de_int) (da_cons (de_sub de_int (de_ix (de_var 0) de_int)) (da_cons (de_ix (de_var 0) de_int) da_nil))))))
theorem dv_carried (Γ : CL) (T : Fc K mg Γ) (G_added : FnG P w K mg base 3 "added" (sp_added Γ)) (G_multiplied : FnG P w K mg base 3 "multiplied" (sp_multiplied Γ)) (G_turned_over : FnG P w K mg base 1 "turned_over" (sp_turned_over Γ)) (cdv : Value) (A : Around) (outer : List Env) (s0 : Shared) (H : Hp) (E : XK) (hr : Room 3 (A.deeper (envOfC "carried" (defScope (top 39)) s0.heap.objs.size f cdv))) : DSs (cxOf CX0 P w K mg base ["copy", "spot"] "carried" (defScope (top 39)) f cdv A outer s0 H E).nox (defBody (top 39)) (rd_carried Γ) :=
 (dss_one (ds_ret (de_call G_added (hr.mono (by decide)) rfl (da_cons (de_call G_multiplied (hr.mono (by decide)) rfl (da_cons (de_fld (de_var 0) T.cl_Copy T.n_Copy_turn) (da_cons (de_if (dt_val (de_fld (de_var 0) T.cl_Copy T.n_Copy_mirrored)) (de_call G_turned_over (hr.mono (by decide)) rfl (da_cons (de_var 1) da_nil)) (de_var 1)) da_nil))) (da_cons (de_fld (de_var 0) T.cl_Copy T.n_Copy_shift) da_nil)))))
theorem dv_Drawing_copied (Γ : CL) (T : Fc K mg Γ) (G_carried : FnG P w K mg base 4 "carried" (sp_carried Γ)) (G_Drawing___init : MkS P w K mg base 6 "Drawing" Γ.Drawing (sp_Drawing___init Γ)) (cdv : Value) (A : Around) (outer : List Env) (s0 : Shared) (H : Hp) (E : XK) (hr : Room 7 (A.deeper (envOfC "Drawing.copied" (defScope (inClass (top 45) 8)) s0.heap.objs.size f cdv))) : DSs (cxOf CX0 P w K mg base ["self", "copy", "strokes", "spot", "stroke"] "Drawing.copied" (defScope (inClass (top 45) 8)) f cdv A outer s0 H E).nox (defBody (inClass (top 45) 8)) (rd_Drawing_copied Γ) :=
 (dss_cons (ds_setLc (i := 2) [("stroke", 4)] sc_Drawing_copied.nd (sw_true rfl rfl rfl (by kernel_rfl)) (di_tup (de_fld (de_var 0) T.cl_Drawing T.n_Drawing_strokes)) (by kernel_rfl) (fun _ _ _ _ _ => (dg_name (i := 4) sc_Drawing_copied.nd)) (fun _ _ _ _ _ => dts_nil) (fun _ _ _ _ _ => (de_tuple rfl T.f_tuple (da_cons (de_lc [("spot", 3)] sc_Drawing_copied.nd (di_tup (de_var 4)) (by kernel_rfl) (fun _ _ _ _ _ => (dg_name (i := 3) sc_Drawing_copied.nd)) (fun _ _ _ _ _ => dts_nil) (fun _ _ _ _ _ => (de_call G_carried (hr.mono (by decide)) rfl (da_cons (de_var 1) (da_cons (de_var 3) da_nil))))) da_nil))))
 (dss_one (ds_ret (de_makeS1 G_Drawing___init (hr.mono (by decide)) rfl (de_var 2)))))
theorem dv_law (Γ : CL) (T : Fc K mg Γ) (G_law_random : FnG P w K mg base 1 "_law_random" (sp_law_random Γ)) (G_law_strokesT : FnG P w K mg base 5 "_law_strokes" (sp_law_strokesT Γ)) (G_law_below : FnG P w K mg base 1 "_law_below" (sp_law_below Γ)) (G_law_drawing : FnG P w K mg base 9 "_law_drawing" (sp_law_drawing Γ)) (G_law_covers : FnG P w K mg base 6 "_law_covers" (sp_law_covers Γ)) (G_law_equal : FnG P w K mg base 5 "_law_equal" (sp_law_equal Γ 5)) (G_picture : FnG P w K mg base 4 "picture" (sp_picture Γ)) (G_Drawing_copied : MtG P w K mg base 8 Γ.Drawing (He.ma K Γ.Drawing "copied") (sp_Drawing_copied Γ)) (G_Copy___init_k_mirrored : MkK P w K mg base 5 "Copy" Γ.Copy (sp_Copy___init Γ) 2 ["mirrored"] gD_Copy_mirrored) (G_Drawing___init : MkS P w K mg base 6 "Drawing" Γ.Drawing (sp_Drawing___init Γ)) (G_err : ErrD P w K mg base "_law_error_of" (resE Γ errL)) (GX_picture : FnGX P w K mg base 4 "picture" (spx_picture Γ)) (TB : LamX.TabB base mg (lawC K) Γ.tab) (A : Around) (outer : List Env) (s0 : Shared) (H : Hp) (E : XK) (hr : Room 9 (A.deeper (envOfC "law" (defScope (top 71)) s0.heap.objs.size f (.ref (lawC K))))) : DSs (cxOf CX0 P w K mg base ["_law_script", "_law_d", "_law_strokes_here", "_law_limit", "_law_drawing_here", "_law_rows", "_law_y", "_law_row", "_law_x", "_law_upside", "_law_wide", "_law_odd"] "law" (defScope (top 71)) f (.ref (lawC K)) A outer s0 H E).nox (defBody (top 71)) (rd_law Γ) :=
 (dss_cons (ds_set (i := 1) sc_law.nd (de_call G_law_random (hr.mono (by decide)) rfl (da_cons (de_var 0) (da_cons de_int da_nil))))
 (dss_cons (ds_par (i := 2) (j := 3) sc_law.nd (da_cons (de_call G_law_strokesT (hr.mono (by decide)) rfl (da_cons (de_var 1) (da_cons de_int da_nil))) (da_cons (de_call G_law_below (hr.mono (by decide)) rfl (da_cons (de_var 1) (da_cons de_int da_nil))) da_nil)))
 (dss_cons (ds_asg (vs := [4, 5]) (de_tup (da_cons (de_call G_law_drawing (hr.mono (by decide)) rfl (da_cons (de_var 2) da_nil)) (da_cons (de_lstM da_nil) da_nil))) (dg_tup (dgs_cons (dg_name (i := 4) sc_law.nd) (dgs_cons (dg_name (i := 5) sc_law.nd) dgs_nil))))
 (dss_cons (ds_for (vs := [6]) (di_range3 rfl T.f_range (da_cons (de_var 3) (da_cons (de_sub (de_sub de_int (de_var 3)) de_int) (da_cons (de_sub de_int de_int) da_nil)))) (dg_name (i := 6) sc_law.nd)
 (dss_cons (ds_set (i := 7) sc_law.nd de_str)
 (dss_cons (ds_for (vs := [8]) (di_range2 rfl T.f_range (da_cons (de_sub de_int (de_var 3)) (da_cons (de_add (de_var 3) de_int) da_nil))) (dg_name (i := 8) sc_law.nd)
 (dss_one (ds_set (i := 7) sc_law.nd (de_add (de_var 7) (de_ixS de_str (de_int1 rfl T.f_int (da_cons (de_call G_law_covers (hr.mono (by decide)) rfl (da_cons (de_var 2) (da_cons (de_tup (da_cons (de_var 8) (da_cons (de_var 6) (da_cons de_int da_nil)))) da_nil))) da_nil)))))))
 (dss_one (ds_expr (de_append (de_var 5) (da_cons (de_var 7) da_nil)))))))
 (dss_cons (ds_if (dt_not (dt_val (de_call G_law_equal (hr.mono (by decide)) rfl (da_cons (de_call G_picture (hr.mono (by decide)) rfl (da_cons (de_var 4) (da_cons (de_var 3) da_nil))) (da_cons (de_join de_str (de_var 5)) da_nil)))))
 (dss_one (ds_ret de_bl))
 dss_nil)
 (dss_cons (ds_set (i := 9) sc_law.nd (de_call G_picture (hr.mono (by decide)) rfl (da_cons (de_meth G_Drawing_copied (hr.mono (by decide)) T.cl_Drawing T.m_Drawing_copied (de_var 4) (da_cons (de_makeK G_Copy___init_k_mirrored (hr.mono (by decide)) rfl (da_cons (de_tup (da_cons de_int (da_cons de_int (da_cons de_int da_nil)))) (da_cons (de_tup (da_cons de_int (da_cons de_int (da_cons de_int da_nil)))) da_nil)) (dk_cons de_bl dk_nil)) da_nil)) (da_cons (de_var 3) da_nil))))
 (dss_cons (ds_if (dt_ne hr.units (de_split (de_var 9) de_str) (de_revL (de_var 5)))
 (dss_one (ds_ret de_bl))
 dss_nil)
 (dss_cons (ds_set (i := 10) sc_law.nd (de_call G_picture (hr.mono (by decide)) rfl (da_cons (de_makeS0 G_Drawing___init (hr.mono (by decide)) rfl) (da_cons de_int da_nil))))
 (dss_cons (ds_if (dt_ne hr.units (de_var 10) (de_join de_str (de_rep (de_lst (da_cons (de_mulS de_str de_int) da_nil)) de_int)))
 (dss_one (ds_ret de_bl))
 dss_nil)
 (dss_cons (ds_set (i := 11) sc_law.nd (de_ix (de_lst (da_cons (de_sub de_int de_int) (da_cons de_int (da_cons de_non (da_cons de_bl (da_cons de_str da_nil)))))) (de_call G_law_below (hr.mono (by decide)) rfl (da_cons (de_var 1) (da_cons de_int da_nil)))))
 (dss_one (ds_ret (de_eq hr.units (de_errOf (X := (cxOf CX0 P w K mg base ["_law_script", "_law_d", "_law_strokes_here", "_law_limit", "_law_drawing_here", "_law_rows", "_law_y", "_law_row", "_law_x", "_law_upside", "_law_wide", "_law_odd"] "law" (defScope (top 71)) f (.ref (lawC K)) A outer s0 H E).nox) (k := 4) G_err (hr.mono (by decide)) rfl TB rfl (LamX.lamS_by (by kernel_rfl)) rfl (fun _ _ _ _ _ => rfl) (fun _ _ _ _ _ _ _ hr tk => (dex_call GX_picture tk (hr.mono (by decide)) (by rfl) (da_cons (de_var 4) (da_cons (de_var 11) da_nil)))) (q := lamQ) (by kernel_rfl)) (de_tup (da_cons de_str (da_cons de_int da_nil))))))))))))))))
end

end L3.K34

/-! ## V21 -/
set_option Elab.async false
set_option linter.all false
set_option maxRecDepth 100000
set_option maxHeartbeats 1000000
/-! Arms at random. -/
namespace L3
open PySem NM L2
theorem Am.small.ok {a : Am} (h : a.small) : a.ok := ⟨h.1.1, h.2.1.1, h.2.2.1, h.2.2.2.1, h.2.2.2.2.2.1, by have := h.2.2.2.2.2.2; omega⟩
theorem Am.small.sz {a : Am} (h : a.small) : a.sz 5 := ⟨h.1.2, h.2.1.2⟩
section
variable {Γ : CL} {μ : MH} {Q : D → MH → Prop} {as : List Am} {ss : List Stk} {a : Am}
end
end L3

/-! ## V23 -/
set_option Elab.async false
set_option linter.all false
set_option maxRecDepth 100000
set_option maxHeartbeats 1000000
/-! Chains that draw, and what is seen from elsewhere. -/
namespace L3
open PySem NM L2
/-! ### a chain that draws -/
/-! ### the law's helpers -/
end L3

/-! ## V24 -/
set_option Elab.async false
set_option linter.all false
set_option maxRecDepth 100000
set_option maxHeartbeats 1000000
/-! What is seen from elsewhere: carried by a copy of size 1. -/
namespace L3
open PySem NM L2
/-! ### distances -/
section
variable {u : Cp} (hu : u.ok) (h : u.unit) {p a b : Num} (hp : Can p) (ha : Can a) (hb : Can b)
include hu h hp ha
include hb
end
def CanS (ss : List Stk) : Prop := ∀ s ∈ ss, ∀ z ∈ s, Can z
theorem CanS.at {c : Cp} {ss : List Stk} (hc : c.ok) (k : CanS ss) : CanS (movedBy c ss) := by
  intro s hs z hz
  obtain ⟨s', h1, rfl⟩ := List.mem_map.mp hs
  obtain ⟨w, h2, rfl⟩ := List.mem_map.mp hz
  exact Cp.can_at hc (k s' h1 w h2)
section
variable {u : Cp} (hu : u.ok) (h : u.unit)
include hu h
end
/-! ### zones -/
/-! ### sizes -/
/-! ### what is kept -/
end L3

/-! ## V25 -/
set_option Elab.async false
set_option linter.all false
set_option maxRecDepth 100000
set_option maxHeartbeats 1000000
/-! Spots in reach. -/
namespace L3
open PySem NM L2
theorem side_mem {n i : Int} (hn : 0 ≤ n) : i ∈ sideL n ↔ -n ≤ i ∧ i ≤ n := by
  unfold sideL
  rw [intsL_mem]
  omega
section
variable {Γ : CL} {E : Ed} {as : List Am} {n : Int} {p : Addr} {μ : MH} {s0 s1 : Option D}
end
end L3

/-! ## V26 -/
set_option Elab.async false
set_option linter.all false
set_option maxRecDepth 100000
set_option maxHeartbeats 1000000
/-! Zones of chains and dots that are traced. -/
namespace L3
open PySem NM L2
/-! ### plain laws of zones -/
section
variable {Γ : CL} {μ : MH} {as : List Am}
end
end L3

/-! ## V27 -/
set_option Elab.async false
set_option linter.all false
set_option maxRecDepth 100000
set_option maxHeartbeats 1000000
/-! Chains one behind another; poles of single arms. -/
namespace L3
open PySem NM L2
/-! ### chains one behind another -/
/-! ### the same data -/
end L3

/-! ## V28 -/
set_option Elab.async false
set_option linter.all false
set_option maxRecDepth 100000
set_option maxHeartbeats 1000000
/-! Chains: equal ones, too many arms. -/
namespace L3
open PySem NM L2
end L3

/-! ## V30 -/
set_option Elab.async false
set_option linter.all false
set_option maxRecDepth 100000
set_option maxHeartbeats 1000000
/-! Inks: what the defs keep. -/
namespace L3
open PySem NM L2
open Ink (Q2 Pl Sg Ky)
theorem lcD_gen {α : Type} {i : Nat} {f : RX} {ρ : EV} {R : List D → MH → Prop} {μ : MH} {C : MH → Prop} (hC : C μ) (xs : List α) (p g : α → D) (hf : ∀ x ∈ xs, ∀ Q : D → MH → Prop, Q (g x) μ → f (st ρ i (p x)) μ Q) {acc : List D} (h : R (acc ++ xs.map g) μ) : lcD (rGN i) rTrue f C ρ (xs.map p) acc μ R := by
  induction xs generalizing acc with
  | nil =>
    rw [List.map_nil, List.append_nil] at h
    exact ⟨hC, h⟩
  | cons x r ih =>
    refine ⟨hC, ?_⟩
    simp only [rGN, rTrue, if_true]
    refine hf x (List.mem_cons_self ..) _ (ih (fun y m => hf y (List.mem_cons_of_mem _ m)) ?_)
    rw [List.map_cons] at h
    rw [List.append_assoc]
    exact h
theorem lc2D_gen {α β : Type} {i j : Nat} {fi1 : RI} {f : RX} {ρ : EV} {μ : MH} {R : List D → MH → Prop} {C : MH → Prop} (hC : C μ) (fx : α → D) (ys : α → List β) (fy : α → β → D) (e : α → β → D) : ∀ (xs : List α) (acc : List D),
    (∀ x ∈ xs, ∀ Q : List D → (MH → Prop) → MH → Prop, (∀ C1 : MH → Prop, C1 μ → Q ((ys x).map (fy x)) C1 μ) → fi1 (st ρ i (fx x)) μ Q) →
    (∀ x ∈ xs, ∀ y ∈ ys x, ∀ Q : D → MH → Prop, Q (e x y) μ → f (st (rms (st ρ i (fx x)) [j]) j (fy x y)) μ Q) →
    acc.length + (xs.map fun x => (ys x).length).sum ≤ sizeLine → R (acc ++ xs.flatMap fun x => (ys x).map (e x)) μ →
    lc2D (rGN i) rTrue fi1 (rGN j) rTrue f [j] C ρ (xs.map fx) acc μ R
  | [], acc, _, _, _, h => ⟨hC, by simpa using h⟩
  | x :: xs, acc, h1, h2, hz, h => by
    rw [List.map_cons, List.sum_cons] at hz
    refine ⟨hC, ?_⟩
    simp only [rGN, rTrue, if_true]
    refine h1 x (List.mem_cons_self ..) _ fun C1 hC1 => ?_
    refine ⟨by rw [List.length_map]; omega, ?_⟩
    refine lcD_gen hC1 (ys x) (fy x) (e x) (fun y m Q q => h2 x (List.mem_cons_self ..) y m Q q) ?_
    refine lc2D_gen hC fx ys fy e xs _ (fun z m => h1 z (List.mem_cons_of_mem _ m)) (fun z m => h2 z (List.mem_cons_of_mem _ m)) (by rw [List.length_append, List.length_map]; omega) ?_
    rw [List.flatMap_cons] at h
    rw [List.append_assoc]
    exact h
theorem row_seq {d : D} {ss : List Stk} (hd : d = strsD ss ∨ d = .lst (ss.map strD)) {i : Nat} {ρ : EV} {μ : MH} {R : List D → (MH → Prop) → MH → Prop} (hi : gt ρ i = some d) (q : R (ss.map strD) tru μ) : rISeq (rVar i) ρ μ R := by
  unfold rISeq rVar
  rw [hi]
  rcases hd with rfl | rfl <;> exact q
theorem sum_le {α : Type} (f : α → Nat) (m : Nat) : ∀ xs : List α, (∀ x ∈ xs, f x ≤ m) → (xs.map f).sum ≤ xs.length * m
  | [], _ => by simp
  | x :: xs, h => by
    have := sum_le f m xs fun y hy => h y (List.mem_cons_of_mem _ hy)
    have := h x (List.mem_cons_self ..)
    rw [List.map_cons, List.sum_cons, List.length_cons, Nat.succ_mul]
    omega
theorem vc_scaled (Γ : CL) : ∀ ds μ R, sp_scaled Γ ds μ R → rd_scaled Γ (fin R) (startD 5 ds) μ := by
  rintro ds μ R ⟨ss, N0, hrow, k, h⟩
  obtain ⟨d, rfl, hd⟩ : ∃ d, ds = [d] ∧ (d = strsD ss ∨ d = .lst (ss.map strD)) := by
    rcases hrow with rfl | rfl
    · exact ⟨_, rfl, .inl rfl⟩
    · exact ⟨_, rfl, .inr rfl⟩
  unfold rd_scaled
  rw [show startD 5 [d] = [some d, none, none, none, none] from rfl]
  refine seq_g fun N hN => ?_
  simp only [rAsg, rCl, rCons, rNil, rLc2]
  refine row_seq hd rfl ?_
  have tot := sum_le (fun s : Stk => s.length) 12 ss fun s hs => (k.st s hs).2.1
  refine lc2D_gen (C := tru) trivial strD (fun s => s) (fun _ z => numD z) (fun _ z => D.int z.d) ss [] (fun s hs Q q => ?_) (fun s hs z hz Q q => ?_) ?_ ?_
  · exact q tru trivial
  · simp only [rms, rm, rOp, rVar, rC, gt, st]
    exact q
  · have := k.le
    have := Nat.mul_le_mul_right 12 this
    show 0 + _ ≤ 2 ^ 24
    omega
  have em : (ss.flatMap fun s => s.map fun z => D.int z.d) = (ss.flatMap fun s => s.map fun z => z.d).map D.int := by
    rw [List.map_flatMap]
    refine congrArg (List.flatMap · ss) ?_
    funext s
    rw [List.map_map]
    rfl
  rw [List.nil_append, em]
  refine ⟨_, N0, rfl, k.pos, k.bn.mono (by decide), fun x m => ?_, fun S hS dS dall => ?_⟩
  · obtain ⟨s, hs, m⟩ := List.mem_flatMap.mp m
    obtain ⟨z, hz, rfl⟩ := List.mem_map.mp m
    obtain ⟨a, _, c⟩ := k.can s hs z hz
    exact ⟨a.1, c⟩
  have bS : Bt 6000 S := k.bn.le (by
    have := Int.le_of_dvd k.pos dS
    omega)
  have kS : okS S ss := ⟨hS, fun s hs => (k.st s hs).2.2, fun s hs z hz => ⟨(k.can s hs z hz).1, dall _ (List.mem_flatMap.mpr ⟨s, hs, List.mem_map.mpr ⟨z, hz, rfl⟩⟩)⟩⟩
  simp only [rGN, st]
  refine hN _ _ ?_
  clear hN N
  refine seq_g fun N hN => ?_
  simp only [rAsg, rLstM, rNil, rGN, st]
  refine ⟨by decide, fun p hp => ?_⟩
  refine hN _ _ ?_
  clear hN N
  refine seq_g fun N hN => ?_
  simp only [rFor]
  refine row_seq hd rfl ?_
  have loop : ∀ (r pre : List Stk) (x2 x3 : Option D), (∀ s ∈ r, s ∈ ss) → pre.length + r.length ≤ 500 → (∀ x2 x3, N [some d, some (.int S), x2, x3, some (.ref p)] (updM μ p (.lst ((plsI S (pre ++ r)).map plsD)))) →
      forD (rGN 2) (rDrop (rMut (rVar 4) (rCons (rCl gTuple (rCons (rLc (rITup (rVar 2)) (rGN 3) rTrue (rTup (rCons (rOp gMul (rOp gIx (rVar 3) (rC (.int 0))) (rOp gDiv (rVar 1) (rOp gIx (rVar 3) (rC (.int 2))))) (rCons (rOp gMul (rOp gIx (rVar 3) (rC (.int 1))) (rOp gDiv (rVar 1) (rOp gIx (rVar 3) (rC (.int 2))))) rNil))) [3]) rNil)) rNil) gAppend)) tru { (fin R) with nx := N } (r.map strD) [some d, some (.int S), x2, x3, some (.ref p)] (updM μ p (.lst ((plsI S pre).map plsD))) := by
    intro r
    induction r with
    | nil =>
      intro pre x2 x3 _ _ q
      have := q x2 x3
      rw [List.append_nil] at this
      exact ⟨trivial, this⟩
    | cons s r ih =>
      intro pre x2 x3 hr hl q
      rw [List.length_cons] at hl
      have hs := hr s (List.mem_cons_self ..)
      refine ⟨trivial, ?_⟩
      simp only [rGN, st, rDrop, rMut, rVar, gt, rCons, rCl, rNil, rLc, rITup, rms, rm, updM_same, strD]
      refine ⟨by rw [List.length_map]; exact Nat.le_trans (k.st s hs).2.1 (by decide), ?_⟩
      refine lcD_gen (C := tru) trivial s numD (fun z => plD (plI S z)) (fun z hz Q qq => ?_) ?_
      · obtain ⟨cz, sz, dz⟩ := k.can s hs z hz
        obtain ⟨kk, hk⟩ := (kS.can s hs z hz).2
        have ek : S.fdiv z.d = kk := by rw [hk]; exact fdiv_mul' (ne_d cz)
        have bk : Bt 6000 (S.fdiv z.d) := by
          rw [ek]
          refine bS.le ?_
          rw [hk, Int.natAbs_mul]
          have := cz.1
          exact Nat.le_mul_of_pos_left _ (by omega)
        simp only [rTup, rCons, rNil, rOp, rVar, rC, gt, st]
        refine ⟨⟨ne_d cz, sz.2.2.mono (by decide)⟩, ⟨sz.1.mono (by decide), bk.mono (by decide)⟩, ?_⟩
        refine ⟨⟨ne_d cz, sz.2.2.mono (by decide)⟩, ⟨sz.2.1.mono (by decide), bk.mono (by decide)⟩, ?_⟩
        exact ⟨by show 2 ≤ 2 ^ 24; decide, qq⟩
      · simp only [gTuple, res, seqD, List.nil_append, gAppend, updM_same, updM_updM]
        refine ⟨by rw [List.length_map, plsI, List.length_map]; show _ < 2 ^ 24; omega, ?_⟩
        have e : (plsI S pre).map plsD ++ [D.tup (s.map fun z => plD (plI S z))] = (plsI S (pre ++ [s])).map plsD := by
          simp [plsI, plsD, List.map_map, Function.comp_def]
        rw [e]
        refine ih (pre ++ [s]) _ _ (fun t m => hr t (List.mem_cons_of_mem _ m)) (by rw [List.length_append]; simp only [List.length_cons, List.length_nil]; omega) fun y2 y3 => ?_
        have := q y2 y3
        rw [List.append_assoc]
        exact this
  refine loop ss [] none none (fun _ m => m) (by have := k.le; simp; omega) fun x2 x3 => ?_
  refine hN _ _ ?_
  simp only [rRet, rTup, rCons, rVar, gt, rFrz, frz, rNil, updM_same]
  refine ⟨by show 2 ≤ 2 ^ 24; decide, ?_⟩
  rw [delM_updM hp]
  exact h S bS dS kS
end L3

/-! ## V31 -/
set_option Elab.async false
set_option linter.all false
set_option maxRecDepth 100000
set_option maxHeartbeats 1000000
/-! Inks: keys of lines, joined stretches, lines, dots. -/
namespace L3
open PySem NM L2
open Ink (Q2 Pl Sg Ky)
theorem item_lt (a b : Int) : PyProof.Rows.itemLt (.inl a) (.inl b) = decide (a < b) := rfl
theorem dlt_pl (a b : Pl) : dlt (plD a) (plD b) = decide (Ink.ltI a b) := by
  obtain ⟨a1, a2⟩ := a
  obtain ⟨b1, b2⟩ := b
  unfold dlt PySem.W.dataLt plD Ink.ltI
  simp [toPy, toPys, PySem.W.keyToks, PySem.W.keyToksAll, PyProof.Rows.lexLt, item_lt]
  by_cases h1 : a1 < b1
  · simp [h1]
  · by_cases h2 : b1 < a1
    · have : ¬ a1 = b1 := by omega
      simp [h1, h2, this]
    · have : a1 = b1 := by omega
      simp [h1, h2, this]
theorem dle_pl (a b : Pl) : dle (plD a) (plD b) = decide (Ink.leI a b) := by
  unfold dle
  rw [dlt_pl, ← decide_not]
  exact decide_eq_decide.mpr Ink.leI_iff.symm
theorem dle_sg (s t : Sg) : dle (sgD s) (sgD t) = Ink.leS s t := by
  obtain ⟨⟨a1, a2⟩, a3, a4⟩ := s
  obtain ⟨⟨b1, b2⟩, b3, b4⟩ := t
  unfold dle dlt PySem.W.dataLt sgD plD Ink.leS Ink.ltI Ink.leI
  simp [toPy, toPys, PySem.W.keyToks, PySem.W.keyToksAll, PyProof.Rows.lexLt, item_lt]
  apply Bool.eq_iff_iff.mpr
  simp
  omega
theorem ord_pls (l : List Pl) : OrdAll (l.map plD) := by
  refine ⟨fun d hd => ?_, fun d hd e he => ?_⟩
  · obtain ⟨p, _, rfl⟩ := List.mem_map.mp hd
    exact ⟨rfl, by intro h; cases h⟩
  · obtain ⟨p, _, rfl⟩ := List.mem_map.mp hd
    obtain ⟨q, _, rfl⟩ := List.mem_map.mp he
    rfl
theorem ord_sgs (l : List Sg) : OrdAll (l.map sgD) := by
  refine ⟨fun d hd => ?_, fun d hd e he => ?_⟩
  · obtain ⟨p, _, rfl⟩ := List.mem_map.mp hd
    exact ⟨rfl, by intro h; cases h⟩
  · obtain ⟨p, _, rfl⟩ := List.mem_map.mp hd
    obtain ⟨q, _, rfl⟩ := List.mem_map.mp he
    rfl
theorem ordD_pl (a b : Pl) : OrdD (plD a) (plD b) := ⟨rfl, rfl, rfl, by intro h; cases h⟩
section
variable {μ : MH} {R : D → MH → Prop}
theorem min_i (a b : Pl) (q : R (plD (Ink.minI a b)) μ) : gMinD [plD a, plD b] μ R := by
  refine ⟨_, _, rfl, ord_pls [a, b], ?_⟩
  show R (if dlt (plD b) (plD a) = true then plD b else plD a) μ
  rw [dlt_pl]
  unfold Ink.minI at q
  by_cases h : Ink.ltI b a
  · rw [if_pos (decide_eq_true h)]; rwa [if_pos h] at q
  · rw [if_neg (by simpa using h)]; rwa [if_neg h] at q
theorem max_i (a b : Pl) (q : R (plD (Ink.maxI a b)) μ) : gMaxD [plD a, plD b] μ R := by
  refine ⟨_, _, rfl, ord_pls [a, b], ?_⟩
  rw [dlt_pl]
  unfold Ink.maxI at q
  by_cases h : Ink.ltI a b
  · rw [if_pos (decide_eq_true h)]; rwa [if_pos h] at q
  · rw [if_neg (by simpa using h)]; rwa [if_neg h] at q
theorem led_i (a b : Pl) (q : R (.bl (decide (Ink.leI a b))) μ) : gLeD (plD a) (plD b) μ R := by
  refine ⟨ordD_pl a b, ?_⟩
  show R (.bl (dle (plD a) (plD b))) μ
  rw [dle_pl]
  exact q
theorem sort_sgs (l : List Sg) : (l.map sgD).mergeSort dle = (l.mergeSort Ink.leS).map sgD := (List.map_mergeSort (fun a _ b _ => (dle_sg a b).symm)).symm
theorem sorted_sg {d : D} {l : List Sg} (h : res μ d = .lst (l.map sgD)) (hz : l.length ≤ 100000) (q : R (.lst ((l.mergeSort Ink.leS).map sgD)) μ) : gSorted [d] μ R := by
  refine ⟨d, _, rfl, h, ⟨ord_sgs l, fun x hx => ?_, by rw [List.length_map]; exact Nat.le_trans hz (by decide)⟩, ?_⟩
  · obtain ⟨s, _, rfl⟩ := List.mem_map.mp hx
    exact ⟨_, _, rfl⟩
  · rw [sort_sgs]; exact q
end
theorem vc_line_key (Γ : CL) : ∀ ds μ R, sp_line_key Γ ds μ R → rd_line_key Γ (fin R) (startD 5 ds) μ := by
  rintro ds μ R ⟨⟨a1, a2⟩, ⟨b1, b2⟩, rfl, hne, sa, sb, h⟩
  unfold rd_line_key
  rw [show startD 5 [plD (a1, a2), plD (b1, b2)] = [some (plD (a1, a2)), some (plD (b1, b2)), none, none, none] from rfl]
  have ne : ¬ (b1 - a1 = 0 ∧ b2 - a2 = 0) := fun ⟨e1, e2⟩ => hne (Prod.ext (by show a1 = b1; omega) (by show a2 = b2; omega))
  have g0 : 0 < gz (b1 - a1) (b2 - a2) := by
    by_cases e : b2 - a2 = 0
    · have e1 : b1 - a1 ≠ 0 := fun z => ne ⟨z, e⟩
      unfold gz
      rw [Int.gcd_comm]
      exact gz_pos e1
    · exact gz_pos e
  have r1 : Bt 7501 (b1 - a1) := Bt.sub sb.1 sa.1
  have r2 : Bt 7501 (b2 - a2) := Bt.sub sb.2 sa.2
  have gb : Bt 7501 (gz (b1 - a1) (b2 - a2)) := by
    by_cases e : b2 - a2 = 0
    · have e1 : b1 - a1 ≠ 0 := fun z => ne ⟨z, e⟩
      have : gz (b1 - a1) (b2 - a2) = gz (b2 - a2) (b1 - a1) := by unfold gz; rw [Int.gcd_comm]
      rw [this]
      exact bt_gz e1 r1
    · exact bt_gz e r2
  refine seq_g fun N hN => ?_
  simp only [rPar, rCons, rNil, rOp, rVar, rC, gt, plD, gSub, gI0]
  refine hN _ _ ?_
  clear hN N
  refine seq_g fun N hN => ?_
  simp only [rAsg, rCl, rCons, rNil, rVar, gt, st, rGN]
  refine hN _ _ ?_
  clear hN N
  obtain ⟨r, hr⟩ := gz_dl (b1 - a1) (b2 - a2)
  obtain ⟨u, hu⟩ := gz_dr (b1 - a1) (b2 - a2)
  have er : (b1 - a1).fdiv (gz (b1 - a1) (b2 - a2)) = r := by
    conv => lhs; arg 1; rw [hr]
    exact fdiv_mul' (by omega)
  have eu : (b2 - a2).fdiv (gz (b1 - a1) (b2 - a2)) = u := by
    conv => lhs; arg 1; rw [hu]
    exact fdiv_mul' (by omega)
  have br : Bt 7501 r := r1.le (by
    conv => rhs; rw [hr]
    rw [Int.natAbs_mul]
    exact Nat.le_mul_of_pos_left _ (by omega))
  have bu : Bt 7501 u := r2.le (by
    conv => rhs; rw [hu]
    rw [Int.natAbs_mul]
    exact Nat.le_mul_of_pos_left _ (by omega))
  have ek : Ink.keyI (a1, a2) (b1, b2) = if r < 0 ∨ r = 0 ∧ u < 0 then (0 - r, 0 - u, a1 * (0 - u) - a2 * (0 - r)) else (r, u, a1 * u - a2 * r) := by
    unfold Ink.keyI
    dsimp only
    rw [er, eu]
  rw [ek] at h
  refine seq_g fun N hN => ?_
  simp only [rPar, rCons, rNil, rOp, rVar, gt, st]
  refine ⟨⟨by omega, gb.mono (by decide)⟩, ⟨by omega, gb.mono (by decide)⟩, ?_⟩
  show N [_, _, some (.int ((b1 - a1).fdiv (gz (b1 - a1) (b2 - a2)))), some (.int ((b2 - a2).fdiv (gz (b1 - a1) (b2 - a2)))), _] μ
  rw [er, eu]
  refine hN _ _ ?_
  clear hN N
  have fin_ : ∀ (r u : Int) (x : Option D), Bt 7502 r → Bt 7502 u → R (kyD (r, u, a1 * u - a2 * r)) μ → rRet (rTup (rCons (rVar 2) (rCons (rVar 3) (rCons (rOp gSub (rOp gMul (rOp gIx (rVar 0) (rC (.int 0))) (rVar 3)) (rOp gMul (rOp gIx (rVar 0) (rC (.int 1))) (rVar 2))) rNil)))) (fin R)
      [some (.tup [.int a1, .int a2]), some (.tup [.int b1, .int b2]), some (.int r), some (.int u), x] μ := by
    intro r u x hr hu q
    simp only [rRet, rTup, rCons, rNil, rOp, rVar, rC, gt, gSub, gI0]
    refine ⟨⟨sa.1.mono (by decide), hu.mono (by decide)⟩, ⟨sa.2.mono (by decide), hr.mono (by decide)⟩, by show 3 ≤ 2 ^ 24; decide, ?_⟩
    exact q
  refine seq_g fun N hN => ?_
  have pick : (fun b μ1 => if b = true then rPar 2 3 (rCons (rOp gSub (rC (.int 0)) (rVar 2)) (rCons (rOp gSub (rC (.int 0)) (rVar 3)) rNil)) { (fin R) with nx := N } [some (.tup [.int a1, .int a2]), some (.tup [.int b1, .int b2]), some (.int r), some (.int u), some (.int (gz (b1 - a1) (b2 - a2)))] μ1 else rNext { (fin R) with nx := N } [some (.tup [.int a1, .int a2]), some (.tup [.int b1, .int b2]), some (.int r), some (.int u), some (.int (gz (b1 - a1) (b2 - a2)))] μ1) (decide (r < 0 ∨ r = 0 ∧ u < 0)) μ := by
    by_cases c : r < 0 ∨ r = 0 ∧ u < 0
    · rw [if_pos c] at h
      refine ite_yes (decide_eq_true c) ?_
      simp only [rPar, rCons, rNil, rOp, rVar, rC, gt, gSub, gI0, st]
      refine hN _ _ ?_
      exact fin_ _ _ _ (Bt.neg br |>.mono (by decide)) (Bt.neg bu |>.mono (by decide)) h
    · rw [if_neg c] at h
      refine ite_no (by simpa using c) ?_
      exact hN _ _ (fin_ _ _ _ (br.mono (by decide)) (bu.mono (by decide)) h)
  simp only [rIf, rOr, rAnd, rB, rOp, rVar, rC, gt, gLt, gI0]
  by_cases c1 : r < 0
  · refine ite_yes (decide_eq_true c1) ?_
    rw [decide_eq_true (Or.inl c1 : r < 0 ∨ r = 0 ∧ u < 0)] at pick
    exact pick
  · refine ite_no (by simpa using c1) ?_
    refine ⟨rfl, rfl, ?_⟩
    rw [show res μ (D.int r) = .int r from rfl, show res μ (D.int 0) = .int 0 from rfl, deq_int]
    by_cases c2 : r = 0
    · subst c2
      refine ite_yes (by simp) ?_
      rw [show decide ((0 : Int) < 0 ∨ (0 : Int) = 0 ∧ u < 0) = decide (u < 0) from decide_eq_decide.mpr (by omega)] at pick
      exact pick
    · refine ite_no (by simpa using c2) ?_
      rw [decide_eq_false (fun z => z.elim c1 fun w => c2 w.1 : ¬ (r < 0 ∨ r = 0 ∧ u < 0))] at pick
      exact pick
end L3

/-! ## V32 -/
set_option Elab.async false
set_option linter.all false
set_option maxRecDepth 100000
set_option maxHeartbeats 1000000
/-! Inks: joined stretches. -/
namespace L3
open PySem NM L2
open Ink (Q2 Pl Sg Ky)
theorem ixN_end (n : Nat) : ixN (n + 1) (-1) = some n := by
  unfold ixN
  simp
  omega
theorem atI_end {α : Type} (xs : List α) (x : α) : atI (xs ++ [x]) (-1) = some x := by
  unfold atI
  rw [show (xs ++ [x]).length = xs.length + 1 from by simp, ixN_end]
  simp
theorem pure_sgs (l : List Sg) : pureN 20 (.lst (l.map sgD)) = true := by
  show (l.map sgD).all (pureN 19) = true
  rw [List.all_eq_true]
  intro d hd
  obtain ⟨s, _, rfl⟩ := List.mem_map.mp hd
  rfl
theorem res_upd {μ : MH} {p : Addr} {m : MO} {d : D} {xs : List D} (hp : μ p = none) (hd : res μ d = .lst xs) : res (updM μ p m) d = .lst xs := by
  cases d with
  | ref q =>
    have hq : q ≠ p := fun e => by
      subst e
      unfold res at hd
      dsimp only at hd
      rw [hp] at hd
      cases hd
    unfold res at hd ⊢
    dsimp only at hd ⊢
    rw [updM_ne hq]
    exact hd
  | _ => exact hd
section
variable {Γ : CL} {E : Ed} {μ : MH} {d : Option D} {p : Addr}
theorem joined_app (s : Sg) (pre : List Sg) (hl : pre.length < 200000) (h : E.nx [d, some (.ref p), some (plD s.1), some (plD s.2)] (updM μ p (.lst ((s :: pre).reverse.map sgD)))) :
    rDrop (rMut (rVar 1) (rCons (rTup (rCons (rVar 2) (rCons (rVar 3) rNil))) rNil) gAppend) E [d, some (.ref p), some (plD s.1), some (plD s.2)] (updM μ p (.lst (pre.reverse.map sgD))) := by
  simp only [rDrop, rMut, rVar, gt, updM_same, rCons, rNil, rTup, gAppend]
  refine ⟨by show 2 ≤ 2 ^ 24; decide, by rw [List.length_map, List.length_reverse]; show _ < 2 ^ 24; omega, ?_⟩
  rw [updM_updM]
  rw [List.reverse_cons, List.map_append] at h
  exact h
theorem joined_turn (s : Sg) (acc : List Sg) (hl : acc.length < 200000) (h : ∀ acc', (match acc with
      | [] => acc' = [s]
      | l :: a => acc' = if Ink.leI s.1 l.2 then (l.1, Ink.maxI l.2 s.2) :: a else s :: l :: a) → E.nx [d, some (.ref p), some (plD s.1), some (plD s.2)] (updM μ p (.lst (acc'.reverse.map sgD)))) :
    rd_joined_f1 Γ E [d, some (.ref p), some (plD s.1), some (plD s.2)] (updM μ p (.lst (acc.reverse.map sgD))) := by
  unfold rd_joined_f1
  simp only [rIf, rAnd, rB, rOp, rLst, rNil, rVar, gt]
  refine ⟨by decide, ?_⟩
  refine ⟨?_, rfl, ?_⟩
  · simp only [res, updM_same]
    exact pure_sgs _
  simp only [res, updM_same]
  cases acc with
  | nil =>
    refine ite_no (by decide) ?_
    refine ite_no (by decide) ?_
    exact joined_app s [] (by decide) (h _ rfl)
  | cons l a =>
    rw [List.length_cons] at hl
    have en : (List.map sgD (l :: a).reverse) = a.reverse.map sgD ++ [sgD l] := by rw [List.reverse_cons, List.map_append]; rfl
    rw [en]
    refine ite_yes ?_ ?_
    · have : deq (.lst (a.reverse.map sgD ++ [sgD l])) (.lst []) = false := by
        cases a.reverse.map sgD <;> rfl
      rw [this]
      rfl
    have ix : ∀ (Q : D → MH → Prop), Q (sgD l) (updM μ p (.lst (a.reverse.map sgD ++ [sgD l]))) → rOp gIx (rVar 1) (rUn (gU fun i => .int (-i)) (rC (.int 1))) [d, some (.ref p), some (plD s.1), some (plD s.2)] (updM μ p (.lst (a.reverse.map sgD ++ [sgD l]))) Q := fun Q q => by
      simp only [rOp, rVar, gt, rUn, rC, gU, gIx, res, updM_same, seqD]
      rw [show (-1 : Int) = -1 from rfl, atI_end]
      exact q
    have ix1 : ∀ (Q : D → MH → Prop), Q (plD l.2) (updM μ p (.lst (a.reverse.map sgD ++ [sgD l]))) → rOp gIx (rOp gIx (rVar 1) (rUn (gU fun i => .int (-i)) (rC (.int 1)))) (rC (.int 1)) [d, some (.ref p), some (plD s.1), some (plD s.2)] (updM μ p (.lst (a.reverse.map sgD ++ [sgD l]))) Q := fun Q q => ix _ q
    have ix0 : ∀ (Q : D → MH → Prop), Q (plD l.1) (updM μ p (.lst (a.reverse.map sgD ++ [sgD l]))) → rOp gIx (rOp gIx (rVar 1) (rUn (gU fun i => .int (-i)) (rC (.int 1)))) (rC (.int 0)) [d, some (.ref p), some (plD s.1), some (plD s.2)] (updM μ p (.lst (a.reverse.map sgD ++ [sgD l]))) Q := fun Q q => ix _ q
    refine ix1 _ ?_
    refine led_i _ _ ?_
    by_cases c : Ink.leI s.1 l.2
    · refine ite_yes (decide_eq_true c) ?_
      simp only [rSetIx, rTup, rCons, rNil]
      refine ix0 _ ?_
      simp only [rCl, rCons, rNil]
      refine ix1 _ ?_
      simp only [rVar, gt]
      refine max_i _ _ ?_
      refine ⟨by show 2 ≤ 2 ^ 24; decide, ?_⟩
      simp only [rUn, rC, gU, updM_same]
      rw [show (a.reverse.map sgD ++ [sgD l]).length = (a.reverse.map sgD).length + 1 from by simp, ixN_end]
      have := h _ rfl
      simp only [if_pos c] at this
      rw [List.reverse_cons, List.map_append] at this
      show E.nx _ (updM (updM μ p _) p (.lst ((a.reverse.map sgD ++ [sgD l]).set (a.reverse.map sgD).length (sgD (l.1, Ink.maxI l.2 s.2)))))
      rw [updM_updM, List.set_append_right _ _ (Nat.le_refl _), Nat.sub_self]
      exact this
    · refine ite_no (by simpa using c) ?_
      have := h _ rfl
      simp only [if_neg c] at this
      have z := joined_app (E := E) (μ := μ) (d := d) (p := p) s (l :: a) (by rw [List.length_cons]; omega) this
      rw [en] at z
      exact z
end
theorem vc_joined (Γ : CL) : ∀ ds μ R, sp_joined Γ ds μ R → rd_joined Γ (fin R) (startD 4 ds) μ := by
  rintro ds μ R ⟨d, l, rfl, hd, hz, h⟩
  unfold rd_joined
  rw [show startD 4 [d] = [some d, none, none, none] from rfl]
  refine seq_g fun N hN => ?_
  simp only [rAsg, rLstM, rNil, rGN, st]
  refine ⟨by decide, fun p hp => ?_⟩
  refine hN _ _ ?_
  clear hN N
  refine seq_g fun N hN => ?_
  simp only [rFor, rILst, rCl, rCons, rNil, rVar, gt]
  refine sorted_sg (res_upd hp hd) hz ?_
  have loop : ∀ (r acc : List Sg) (x2 x3 : Option D), acc.length + r.length ≤ 100000 → (∀ x2 x3, N [some d, some (.ref p), x2, x3] (updM μ p (.lst ((Ink.joinR acc r).map sgD)))) →
      forD (rGTup 2 (rGCons (rGN 2) (rGCons (rGN 3) rGNil))) (rd_joined_f1 Γ) tru { (fin R) with nx := N } (r.map sgD) [some d, some (.ref p), x2, x3] (updM μ p (.lst (acc.reverse.map sgD))) := by
    intro r
    induction r with
    | nil =>
      intro acc x2 x3 _ q
      have := q x2 x3
      rw [show Ink.joinR acc [] = acc.reverse from by cases acc <;> rfl] at this
      exact ⟨trivial, this⟩
    | cons s r ih =>
      intro acc x2 x3 hl q
      rw [List.length_cons] at hl
      refine ⟨trivial, ?_⟩
      simp only [sgD, rGTup, rGCons, rGN, rGNil, st, List.length_cons, List.length_nil, true_and]
      refine joined_turn s acc (by omega) fun acc' e => ?_
      refine ih acc' _ _ ?_ fun y2 y3 => ?_
      · cases acc with
        | nil => subst e; simp only [List.length_cons, List.length_nil] at *; omega
        | cons l a =>
          dsimp only at e
          subst e
          simp only [List.length_cons] at hl
          split <;> simp only [List.length_cons] <;> omega
      · have := q y2 y3
        cases acc with
        | nil => subst e; exact this
        | cons l a =>
          dsimp only at e
          subst e
          unfold Ink.joinR at this
          split
          · rw [if_pos ‹_›] at this; exact this
          · rw [if_neg ‹_›] at this; exact this
  refine loop (l.mergeSort Ink.leS) [] none none (by rw [List.length_mergeSort]; simpa using hz) fun x2 x3 => ?_
  refine hN _ _ ?_
  simp only [rRet, rFrz, rVar, gt, frz, updM_same]
  rw [delM_updM hp]
  exact h
end L3

/-! ## V33 -/
set_option Elab.async false
set_option linter.all false
set_option maxRecDepth 100000
set_option maxHeartbeats 1000000
/-! Inks: parts by their lines. -/
namespace L3
open PySem NM L2
open Ink (Q2 Pl Sg Ky)
def nkI (k : Ky) : NestedKey := .tup [.num k.1, .num k.2.1, .num k.2.2]
theorem nk_ky (k : Ky) : nkD (kyD k) = some (nkI k) := by
  simp [kyD, nkI, nkD, nkDs]
theorem key_ky (k : Ky) : keyD (kyD k) = some (nkI k) := by
  unfold keyD kyD nkI
  simp [nkDs, nkD, NestedKey.depth, NestedKey.depthAll]
theorem nkI_inj {k l : Ky} (h : nkI k = nkI l) : k = l := by
  unfold nkI at h
  injection h with h
  injection h with a h
  injection h with b h
  injection h with c _
  injection a with a
  injection b with b
  injection c with c
  exact Prod.ext a (Prod.ext b c)
/-- the entries of a dict of lists at as -/
def kvG : List (Ky × List Sg) → List Addr → List (D × D)
  | x :: G, a :: as => (kyD x.1, .ref a) :: kvG G as
  | _, _ => []
def Grp (μ : MH) : List (Ky × List Sg) → List Addr → Prop
  | [], [] => True
  | x :: G, a :: as => μ a = some (.lst (x.2.map sgD)) ∧ Grp μ G as
  | _, _ => False
theorem grp_congr {μ μ' : MH} : ∀ {G : List (Ky × List Sg)} {as : List Addr}, Grp μ G as → (∀ a ∈ as, μ' a = μ a) → Grp μ' G as
  | [], [], _, _ => trivial
  | _ :: G, a :: as, h, k => ⟨(k a (List.mem_cons_self ..)).trans h.1, grp_congr h.2 fun b m => k b (List.mem_cons_of_mem _ m)⟩
  | [], _ :: _, h, _ => h.elim
  | _ :: _, [], h, _ => h.elim
theorem kv_len {μ : MH} : ∀ {G : List (Ky × List Sg)} {as : List Addr}, Grp μ G as → (kvG G as).length = G.length
  | [], [], _ => rfl
  | _ :: G, _ :: as, h => by
    show (kvG G as).length + 1 = _
    rw [kv_len h.2]; rfl
  | [], _ :: _, h => h.elim
  | _ :: _, [], h => h.elim
theorem atD_cons {k : Ky} {x : Ky} {d : D} {r : List (D × D)} : atD ((kyD x, d) :: r) (nkI k) = if x = k then some d else atD r (nkI k) := by
  unfold atD
  by_cases c : x = k
  · rw [if_pos c, List.find?_cons_of_pos (by rw [nk_ky, c]; simp)]
    rfl
  · rw [if_neg c, List.find?_cons_of_neg (by
      rw [nk_ky]
      simp only [decide_eq_true_eq]
      intro e
      exact c (nkI_inj (Option.some.inj e)))]
/-- the key is there: its list is told, and may be written -/
theorem grp_old {μ : MH} {k : Ky} {s : Sg} : ∀ {G : List (Ky × List Sg)} {as : List Addr} {d : D}, Grp μ G as → as.Nodup → atD (kvG G as) (nkI k) = some d →
    ∃ a l, d = .ref a ∧ a ∈ as ∧ μ a = some (.lst (l.map sgD)) ∧ (∃ x ∈ G, x.2 = l) ∧ ∀ μ', μ' a = some (.lst ((l ++ [s]).map sgD)) → (∀ b ∈ as, b ≠ a → μ' b = μ b) → Grp μ' (Ink.insK k s G) as ∧ kvG (Ink.insK k s G) as = kvG G as
  | [], [], d, _, _, e => by cases e
  | x :: G, a :: as, d, h, nd, e => by
    rw [List.nodup_cons] at nd
    rw [show kvG (x :: G) (a :: as) = (kyD x.1, .ref a) :: kvG G as from rfl, atD_cons] at e
    unfold Ink.insK
    by_cases c : x.1 = k
    · rw [if_pos c] at e
      refine ⟨a, x.2, (Option.some.inj e).symm, List.mem_cons_self .., h.1, ⟨x, List.mem_cons_self .., rfl⟩, fun μ' e1 e2 => ?_⟩
      rw [if_pos c]
      exact ⟨⟨e1, grp_congr h.2 fun b m => e2 b (List.mem_cons_of_mem _ m) fun z => nd.1 (z ▸ m)⟩, rfl⟩
    · rw [if_neg c] at e
      obtain ⟨a', l, e1, e2, e3, ⟨y, hy, ey⟩, e4⟩ := grp_old (s := s) h.2 nd.2 e
      refine ⟨a', l, e1, List.mem_cons_of_mem _ e2, e3, ⟨y, List.mem_cons_of_mem _ hy, ey⟩, fun μ' f1 f2 => ?_⟩
      rw [if_neg c]
      obtain ⟨g1, g2⟩ := e4 μ' f1 fun b m n => f2 b (List.mem_cons_of_mem _ m) n
      refine ⟨⟨?_, g1⟩, ?_⟩
      · rw [f2 a (List.mem_cons_self ..) fun z => nd.1 (z ▸ e2)]
        exact h.1
      · show (kyD x.1, D.ref a) :: kvG (Ink.insK k s G) as = _
        rw [g2]
        rfl
  | [], _ :: _, _, h, _, _ => h.elim
  | _ :: _, [], _, h, _, _ => h.elim
theorem grp_new {μ : MH} {k : Ky} {s : Sg} {q : Addr} : ∀ {G : List (Ky × List Sg)} {as : List Addr}, Grp μ G as → atD (kvG G as) (nkI k) = none →
    (∀ μ', μ' q = some (.lst ([s].map sgD)) → (∀ b ∈ as, μ' b = μ b) → Grp μ' (Ink.insK k s G) (as ++ [q])) ∧ kvG (Ink.insK k s G) (as ++ [q]) = kvG G as ++ [(kyD k, .ref q)]
  | [], [], _, _ => ⟨fun μ' e _ => ⟨e, trivial⟩, rfl⟩
  | x :: G, a :: as, h, e => by
    rw [show kvG (x :: G) (a :: as) = (kyD x.1, .ref a) :: kvG G as from rfl, atD_cons] at e
    by_cases c : x.1 = k
    · rw [if_pos c] at e; cases e
    · rw [if_neg c] at e
      obtain ⟨g1, g2⟩ := grp_new (s := s) (q := q) h.2 e
      unfold Ink.insK
      rw [if_neg c]
      refine ⟨fun μ' f1 f2 => ⟨?_, g1 μ' f1 fun b m => f2 b (List.mem_cons_of_mem _ m)⟩, ?_⟩
      · rw [f2 a (List.mem_cons_self ..)]
        exact h.1
      · show (kyD x.1, D.ref a) :: kvG (Ink.insK k s G) (as ++ [q]) = _
        rw [g2]
        rfl
  | [], _ :: _, h, _ => h.elim
  | _ :: _, [], h, _ => h.elim
/-- while parts are sorted: the dict at p, its lists -/
def LSt (μ0 : MH) (p : Addr) (G : List (Ky × List Sg)) (μ : MH) : Prop := ∃ o as, μ p = some (.dct o (kvG G as)) ∧ Grp μ G as ∧ as.Nodup ∧ (∀ a ∈ as, μ0 a = none ∧ a ≠ p) ∧ μ0 p = none ∧ Sub μ0 μ
section
variable {Γ : CL} {E : Ed} {μ μ0 : MH} {p : Addr} {x0 x2 x5 x6 : Option D} {G : List (Ky × List Sg)}
theorem lines_turn {a b : Pl} (hne : a ≠ b) (sa : BtP 7500 a) (sb : BtP 7500 b) (st : LSt μ0 p G μ) (hG : G.length < 100000) (hL : ∀ x ∈ G, x.2.length < 100000) (h : ∀ μ', LSt μ0 p (Ink.putP G (a, b)) μ' → E.nx [x0, some (.ref p), x2, some (plD a), some (plD b), x5, x6] μ') :
    rd_lines_of_f1 Γ E [x0, some (.ref p), x2, some (plD a), some (plD b), x5, x6] μ := by
  obtain ⟨o, as, hp, gr, nd, fr, h0, sub⟩ := st
  unfold rd_lines_of_f1
  simp only [rDrop, rMut, rCDef, rVar, gt, rCl, rCons, rNil, rLstM]
  refine ⟨p, o, _, rfl, hp, ?_⟩
  refine ⟨a, b, rfl, hne, sa, sb, ?_⟩
  refine ⟨by decide, fun q hq => ?_⟩
  have qp : p ≠ q := fun e => by rw [← e, hp] at hq; cases hq
  have q0 : μ0 q = none := sub.none hq
  refine ⟨o, kvG G as, nkI (Ink.keyI a b), by rw [updM_ne qp]; exact hp, key_ky _, by rw [kv_len gr]; show _ < 2 ^ 24; omega, fun d hd => ?_, fun hd o' => ?_⟩
  · obtain ⟨c, l, rfl, ca, cl, ⟨y, hy, ey⟩, nx⟩ := grp_old (s := Ink.mmS (a, b)) gr nd hd
    have cq : c ≠ q := fun e => by rw [e, hq] at cl; cases cl
    have cl' : updM μ q (.lst []) c = some (.lst (l.map sgD)) := by rw [updM_ne cq]; exact cl
    simp only [cl', rTup, rCl, rCons, rNil, rVar, gt]
    refine min_i _ _ ?_
    refine max_i _ _ ?_
    refine ⟨by show 2 ≤ 2 ^ 24; decide, ?_⟩
    simp only [cl', gAppend]
    refine ⟨by rw [List.length_map, ← ey]; have := hL y hy; show _ < 2 ^ 24; omega, ?_⟩
    refine h _ ?_
    have cp : c ≠ p := (fr c ca).2
    obtain ⟨g1, g2⟩ := nx (updM (updM μ q (.lst [])) c (.lst ((l ++ [Ink.mmS (a, b)]).map sgD))) updM_same fun b' m n => by
      rw [updM_ne n, updM_ne]
      intro e
      obtain ⟨i, hi, rfl⟩ := List.mem_iff_getElem.mp m
      have : ∀ {G : List (Ky × List Sg)} {as : List Addr}, Grp μ G as → ∀ z ∈ as, μ z ≠ none := by
        intro G
        induction G with
        | nil => intro as g z hz; cases as with
          | nil => exact nomatch hz
          | cons _ _ => exact g.elim
        | cons x G ih => intro as g z hz; cases as with
          | nil => exact nomatch hz
          | cons w ws =>
            rcases List.mem_cons.mp hz with rfl | hz
            · rw [g.1]; simp
            · exact ih g.2 z hz
      exact this gr _ m (e ▸ hq)
    have en : List.map sgD l ++ [D.tup [plD (Ink.minI a b), plD (Ink.maxI a b)]] = (l ++ [Ink.mmS (a, b)]).map sgD := by rw [List.map_append]; rfl
    rw [en]
    refine ⟨o, as, ?_, g1, nd, fr, h0, ?_⟩
    · show _ = some (MO.dct o (kvG (Ink.insK (Ink.keyI a b) (Ink.mmS (a, b)) G) as))
      rw [updM_ne cp.symm, updM_ne qp, g2]
      exact hp
    · exact (sub.put q0).put (fr c ca).1
  · have pc : putC (kvG G as) (kyD (Ink.keyI a b)) (nkI (Ink.keyI a b)) (.ref q) = kvG G as ++ [(kyD (Ink.keyI a b), .ref q)] := by
      unfold putC
      rw [hd]
      rfl
    obtain ⟨g1, g2⟩ := grp_new (s := Ink.mmS (a, b)) (q := q) gr hd
    have ql : updM (updM μ q (.lst [])) p (.dct o' (putC (kvG G as) (kyD (Ink.keyI a b)) (nkI (Ink.keyI a b)) (.ref q))) q = some (.lst []) := by rw [updM_ne qp.symm, updM_same]
    simp only [ql, rTup, rCl, rCons, rNil, rVar, gt]
    refine min_i _ _ ?_
    refine max_i _ _ ?_
    refine ⟨by show 2 ≤ 2 ^ 24; decide, ?_⟩
    simp only [ql, gAppend]
    refine ⟨by decide, ?_⟩
    refine h _ ?_
    have nq : ∀ z ∈ as, z ≠ q := fun z m e => by
      have : ∀ {G : List (Ky × List Sg)} {as : List Addr}, Grp μ G as → ∀ z ∈ as, μ z ≠ none := by
        intro G
        induction G with
        | nil => intro as g z hz; cases as with
          | nil => exact nomatch hz
          | cons _ _ => exact g.elim
        | cons x G ih => intro as g z hz; cases as with
          | nil => exact nomatch hz
          | cons w ws =>
            rcases List.mem_cons.mp hz with rfl | hz
            · rw [g.1]; simp
            · exact ih g.2 z hz
      exact this gr z m (e ▸ hq)
    refine ⟨o', as ++ [q], ?_, g1 _ updM_same fun b' m => ?_, ?_, fun z m => ?_, h0, ?_⟩
    · show _ = some (MO.dct o' (kvG (Ink.insK (Ink.keyI a b) (Ink.mmS (a, b)) G) (as ++ [q])))
      rw [updM_ne qp, updM_same, g2, pc]
    · rw [updM_ne (nq b' m), updM_ne (fr b' m).2, updM_ne (nq b' m)]
    · rw [List.nodup_append]
      refine ⟨nd, by simp, fun z m w hw e => ?_⟩
      have : w = q := by simpa using hw
      exact nq z m (e.trans this)
    · rcases List.mem_append.mp m with m | m
      · exact fr z m
      · have : z = q := by simpa using m
        exact this ▸ ⟨q0, qp.symm⟩
    · exact ((sub.put q0).put h0).put q0
end
end L3

/-! ## V34 -/
set_option Elab.async false
set_option linter.all false
set_option maxRecDepth 100000
set_option maxHeartbeats 1000000
/-! Inks: lines, places that lie on them. -/
namespace L3
open PySem NM L2
open Ink (Q2 Pl Sg Ky)
def totG (G : List (Ky × List Sg)) : Nat := (G.map fun x => x.2.length).sum
theorem ins_tot (k : Ky) (s : Sg) : ∀ G : List (Ky × List Sg), totG (Ink.insK k s G) = totG G + 1 ∧ (Ink.insK k s G).length ≤ G.length + 1
  | [] => ⟨rfl, Nat.le_refl _⟩
  | x :: G => by
    unfold Ink.insK
    by_cases c : x.1 = k
    · rw [if_pos c]
      refine ⟨?_, by simp⟩
      unfold totG
      rw [List.map_cons, List.map_cons, List.sum_cons, List.sum_cons, List.length_append]
      simp only [List.length_cons, List.length_nil]
      omega
    · rw [if_neg c]
      obtain ⟨h1, h2⟩ := ins_tot k s G
      refine ⟨?_, by rw [List.length_cons, List.length_cons]; omega⟩
      unfold totG at *
      rw [List.map_cons, List.map_cons, List.sum_cons, List.sum_cons, h1]
      omega
theorem fold_tot : ∀ (ps : List (Pl × Pl)) (G : List (Ky × List Sg)), totG (ps.foldl Ink.putP G) = totG G + ps.length ∧ (ps.foldl Ink.putP G).length ≤ G.length + ps.length
  | [], G => ⟨rfl, Nat.le_refl _⟩
  | x :: ps, G => by
    obtain ⟨h1, h2⟩ := fold_tot ps (Ink.putP G x)
    obtain ⟨k1, k2⟩ := ins_tot (Ink.keyI x.1 x.2) (Ink.mmS x) G
    rw [List.foldl_cons, List.length_cons]
    unfold Ink.putP at *
    omega
theorem tot_mem : ∀ {G : List (Ky × List Sg)} {x : Ky × List Sg}, x ∈ G → x.2.length ≤ totG G
  | [], _, h => nomatch h
  | y :: G, x, h => by
    unfold totG
    rw [List.map_cons, List.sum_cons]
    rcases List.mem_cons.mp h with rfl | h
    · omega
    · have := tot_mem h
      unfold totG at this
      omega
theorem joinR_len : ∀ (ss acc : List Sg), (Ink.joinR acc ss).length ≤ acc.length + ss.length
  | [], acc => by
    rw [show Ink.joinR acc [] = acc.reverse from by cases acc <;> rfl]
    simp
  | s :: r, [] => by
    have := joinR_len r [s]
    show (Ink.joinR [s] r).length ≤ _
    simp only [List.length_cons, List.length_nil] at *
    omega
  | s :: r, l :: acc => by
    unfold Ink.joinR
    split
    · have := joinR_len r ((l.1, Ink.maxI l.2 s.2) :: acc)
      simp only [List.length_cons] at *
      omega
    · have := joinR_len r (s :: l :: acc)
      simp only [List.length_cons] at *
      omega
theorem joinS_len (l : List Sg) : (Ink.joinS l).length ≤ l.length := by
  have := joinR_len (l.mergeSort Ink.leS) []
  rw [List.length_mergeSort] at this
  unfold Ink.joinS
  simpa using this
theorem zip_pls : ∀ s : List Pl, zipD (s.map plD) ((s.map plD).drop 1) = (Ink.segsI s).map fun y => .tup [plD y.1, plD y.2]
  | [] => rfl
  | [_] => rfl
  | a :: b :: r => by
    have := zip_pls (b :: r)
    show .tup [plD a, plD b] :: zipD ((b :: r).map plD) (r.map plD) = _
    rw [show (r.map plD) = ((b :: r).map plD).drop 1 from rfl, this]
    rfl
theorem segsI_mem : ∀ {s : List Pl} {y : Pl × Pl}, y ∈ Ink.segsI s → y.1 ∈ s ∧ y.2 ∈ s
  | [], _, h => nomatch h
  | [_], _, h => nomatch h
  | a :: b :: r, y, h => by
    rcases List.mem_cons.mp h with rfl | h
    · exact ⟨List.mem_cons_self .., List.mem_cons_of_mem _ (List.mem_cons_self ..)⟩
    · obtain ⟨p, q⟩ := segsI_mem h
      exact ⟨List.mem_cons_of_mem _ p, List.mem_cons_of_mem _ q⟩
theorem segsI_len : ∀ s : List Pl, (Ink.segsI s).length ≤ s.length
  | [] => Nat.le_refl _
  | [_] => Nat.zero_le _
  | a :: b :: r => by
    have := segsI_len (b :: r)
    show (Ink.segsI (b :: r)).length + 1 ≤ _
    rw [List.length_cons]
    omega
theorem parts_len {pl : List (List Pl)} (h : ∀ s ∈ pl, s.length ≤ 12) : (Ink.partsI pl).length ≤ pl.length * 12 := by
  unfold Ink.partsI
  rw [List.length_flatMap]
  exact sum_le _ 12 pl fun s hs => Nat.le_trans (segsI_len s) (h s hs)
section
variable {Γ : CL} {E : Ed} {μ μ0 : MH} {p : Addr} {x0 : Option D} {G : List (Ky × List Sg)}
theorem lines_segs {s2 : Option D} : ∀ (ys : List (Pl × Pl)) (G : List (Ky × List Sg)) (μ : MH) (x3 x4 : Option D), (∀ y ∈ ys, y.1 ≠ y.2 ∧ BtP 7500 y.1 ∧ BtP 7500 y.2) → LSt μ0 p G μ → G.length + ys.length < 100000 → totG G + ys.length < 100000 →
    (∀ μ' x3 x4, LSt μ0 p (ys.foldl Ink.putP G) μ' → E.nx [x0, some (.ref p), s2, x3, x4, none, none] μ') →
    forD (rGTup 2 (rGCons (rGN 3) (rGCons (rGN 4) rGNil))) (rd_lines_of_f1 Γ) tru E (ys.map fun y => .tup [plD y.1, plD y.2]) [x0, some (.ref p), s2, x3, x4, none, none] μ
  | [], G, μ, x3, x4, _, st, _, _, h => ⟨trivial, h μ x3 x4 st⟩
  | y :: ys, G, μ, x3, x4, hy, st, h1, h2, h => by
    obtain ⟨a, b, c⟩ := hy y (List.mem_cons_self ..)
    rw [List.length_cons] at h1 h2
    refine ⟨trivial, ?_⟩
    simp only [rGTup, rGCons, rGN, rGNil, L3.st, List.length_cons, List.length_nil, true_and]
    refine lines_turn a b c st (by omega) (fun x m => by have := tot_mem m; omega) fun μ' st' => ?_
    obtain ⟨k1, k2⟩ := ins_tot (Ink.keyI y.1 y.2) (Ink.mmS y) G
    exact lines_segs ys _ μ' _ _ (fun z m => hy z (List.mem_cons_of_mem _ m)) st' (by show (Ink.insK (Ink.keyI y.1 y.2) (Ink.mmS y) G).length + _ < _; omega) (by show totG (Ink.insK (Ink.keyI y.1 y.2) (Ink.mmS y) G) + _ < _; omega) h
theorem lines_strokes : ∀ (r : List (List Pl)) (G : List (Ky × List Sg)) (μ : MH) (x2 x3 x4 : Option D), (∀ s ∈ r, s.length ≤ 12 ∧ ∀ q ∈ s, BtP 7500 q) → (∀ s ∈ r, ∀ y ∈ Ink.segsI s, y.1 ≠ y.2) → LSt μ0 p G μ → G.length + r.length * 12 < 100000 → totG G + r.length * 12 < 100000 →
    (∀ μ' x2 x3 x4, LSt μ0 p ((Ink.partsI r).foldl Ink.putP G) μ' → E.nx [x0, some (.ref p), x2, x3, x4, none, none] μ') →
    forD (rGN 2) (rd_lines_of_f2 Γ) tru E (r.map plsD) [x0, some (.ref p), x2, x3, x4, none, none] μ
  | [], G, μ, x2, x3, x4, _, _, st, _, _, h => ⟨trivial, h μ x2 x3 x4 st⟩
  | s :: r, G, μ, x2, x3, x4, hs, hn, st, h1, h2, h => by
    obtain ⟨a, b⟩ := hs s (List.mem_cons_self ..)
    rw [List.length_cons, Nat.succ_mul] at h1 h2
    have sl := segsI_len s
    refine ⟨trivial, ?_⟩
    unfold rd_lines_of_f2
    simp only [rGN, L3.st, plsD, rFor, rIZip, rCons, rNil, rVar, gt, rSl, rPart, rNoPart, rC, gSl, res, cut1, rowD, zip_pls]
    refine lines_segs (Ink.segsI s) G μ _ _ (fun y m => ⟨hn s (List.mem_cons_self ..) y m, b _ (segsI_mem m).1, b _ (segsI_mem m).2⟩) st (by omega) (by omega) fun μ' y3 y4 st' => ?_
    obtain ⟨k1, k2⟩ := fold_tot (Ink.segsI s) G
    refine lines_strokes r _ μ' _ _ _ (fun t m => hs t (List.mem_cons_of_mem _ m)) (fun t m => hn t (List.mem_cons_of_mem _ m)) st' (by omega) (by omega) fun μ2 z2 z3 z4 st2 => ?_
    refine h μ2 z2 z3 z4 ?_
    have : (Ink.partsI (s :: r)).foldl Ink.putP G = (Ink.partsI r).foldl Ink.putP ((Ink.segsI s).foldl Ink.putP G) := by
      unfold Ink.partsI
      rw [List.flatMap_cons, List.foldl_append]
    rw [this]
    exact st2
end
/-- the lists are told one by one -/
theorem lines_dc {Γ : CL} {R : MH → Prop} {x0 : Option D} {p q : Addr} {o : Obj} {kv0 : List (D × D)} {x2 x3 x4 : Option D} (hpq : p ≠ q) : ∀ (G pre : List (Ky × List Sg)) (as : List Addr) (μ : MH) (o1 : Obj), μ p = some (.dct o kv0) → μ q = some (.dct o1 (lnsD (pre.map fun x => (x.1, Ink.joinS x.2)))) → Grp μ G as → (∀ a ∈ as, a ≠ q) → ((pre ++ G).map (·.1)).Nodup → pre.length + G.length < 100000 → (∀ x ∈ G, x.2.length ≤ 100000) →
    (∀ o2, R (updM μ q (.dct o2 (lnsD ((pre ++ G).map fun x => (x.1, Ink.joinS x.2)))))) →
    dcD (rGTup 2 (rGCons (rGN 5) (rGCons (rGN 6) rGNil))) rTrue (rVar 5) (rCl (sp_joined Γ) (rCons (rVar 6) rNil)) (fun μ => μ p = some (.dct o kv0)) [x0, some (.ref p), x2, x3, x4, none, none] q ((kvG G as).map pairC) μ R
  | [], pre, as, μ, o1, hp, hq, _, _, _, _, _, h => by
    have e : (kvG [] as).map pairC = [] := by cases as <;> rfl
    rw [e]
    refine ⟨hp, ?_⟩
    have := h o1
    rw [List.append_nil] at this
    have eq : updM μ q (.dct o1 (lnsD (pre.map fun x => (x.1, Ink.joinS x.2)))) = μ := by
      funext b
      by_cases c : b = q
      · rw [c, updM_same, hq]
      · rw [updM_ne c]
    rw [eq] at this
    exact this
  | x :: G, pre, [], μ, o1, hp, hq, g, _, _, _, _, h => g.elim
  | x :: G, pre, a :: as, μ, o1, hp, hq, g, ha, nd, hl, hx, h => by
    rw [List.length_cons] at hl
    refine ⟨hp, ?_⟩
    simp only [pairC, rGTup, rGCons, rGN, rGNil, st, List.length_cons, List.length_nil, true_and, rTrue, if_true, rVar, gt, rCl, rCons, rNil]
    have ra : res μ (.ref a) = .lst (x.2.map sgD) := by
      unfold res
      dsimp only
      rw [g.1]
    refine ⟨.ref a, x.2, rfl, ra, hx x (List.mem_cons_self ..), ?_⟩
    refine ⟨o1, _, nkI x.1, hq, key_ky _, by unfold lnsD; rw [List.length_map, List.length_map]; show _ < 2 ^ 24; omega, fun o' => ?_⟩
    have nw : atD (lnsD (pre.map fun x => (x.1, Ink.joinS x.2))) (nkI x.1) = none := by
      rw [List.map_append, List.nodup_append] at nd
      have ni : ∀ y ∈ pre, y.1 ≠ x.1 := fun y hy e => nd.2.2 y.1 (List.mem_map.mpr ⟨y, hy, rfl⟩) x.1 (List.mem_map.mpr ⟨x, List.mem_cons_self .., rfl⟩) e
      clear nd hq hl h
      induction pre with
      | nil => rfl
      | cons y pre ih =>
        show atD ((kyD y.1, _) :: lnsD (pre.map fun x => (x.1, Ink.joinS x.2))) (nkI x.1) = none
        rw [atD_cons, if_neg (ni y (List.mem_cons_self ..))]
        exact ih fun z m => ni z (List.mem_cons_of_mem _ m)
    have pc : putC (lnsD (pre.map fun x => (x.1, Ink.joinS x.2))) (kyD x.1) (nkI x.1) (.lst ((Ink.joinS x.2).map sgD)) = lnsD ((pre ++ [x]).map fun x => (x.1, Ink.joinS x.2)) := by
      unfold putC
      rw [nw]
      unfold lnsD
      simp
    rw [pc]
    refine lines_dc hpq G (pre ++ [x]) as _ o' (by rw [updM_ne hpq]; exact hp) updM_same (grp_congr g.2 fun b m => updM_ne (ha b (List.mem_cons_of_mem _ m))) (fun b m => ha b (List.mem_cons_of_mem _ m)) (by rw [List.append_assoc]; exact nd) (by rw [List.length_append]; simp only [List.length_cons, List.length_nil]; omega) (fun y m => hx y (List.mem_cons_of_mem _ m)) fun o2 => ?_
    rw [updM_updM, List.append_assoc]
    exact h o2
theorem grp_none {μ : MH} : ∀ {G : List (Ky × List Sg)} {as : List Addr}, Grp μ G as → ∀ z ∈ as, μ z ≠ none
  | [], [], _, _, h => nomatch h
  | x :: G, a :: as, g, z, h => by
    rcases List.mem_cons.mp h with rfl | h
    · rw [g.1]; simp
    · exact grp_none g.2 z h
  | [], _ :: _, g, _, _ => g.elim
  | _ :: _, [], g, _, _ => g.elim
theorem vc_lines_of (Γ : CL) : ∀ ds μ R, sp_lines_of Γ ds μ R → rd_lines_of Γ (fin (wkR R)) (startD 7 ds) μ := by
  rintro ds μ R ⟨pl, rfl, hl, hs, hn, h⟩
  unfold rd_lines_of
  rw [show startD 7 [.lst (pl.map plsD)] = [some (.lst (pl.map plsD)), none, none, none, none, none, none] from rfl]
  refine seq_g fun N hN => ?_
  simp only [rAsg, rCNew, rGN, st]
  intro p hp
  refine hN _ _ ?_
  clear hN N
  refine seq_g fun N hN => ?_
  simp only [rFor, rILst, rVar, gt]
  have pk := parts_len fun s m => (hs s m).1
  refine lines_strokes pl [] _ none none none hs (fun s hs' y hy => hn y (List.mem_flatMap.mpr ⟨s, hs', hy⟩)) ⟨emptyDo, [], updM_same, trivial, List.Pairwise.nil, (fun _ m => nomatch m), hp, Sub.upd hp⟩ (by simp; omega) (by show 0 + _ < _; omega) fun μ' x2 x3 x4 stt => ?_
  refine hN _ _ ?_
  obtain ⟨o, as, e1, gr, nd, fr, h0, sub⟩ := stt
  have ft := fold_tot (Ink.partsI pl) []
  simp only [rRet, rDc, rIDct, rVar, gt, rms, rm]
  refine ⟨p, o, _, rfl, e1, fun q hq => ?_⟩
  have pq : p ≠ q := fun e => by rw [← e, e1] at hq; cases hq
  have nz : ∀ a ∈ as, a ≠ q := fun a m e => grp_none gr a m (e ▸ hq)
  refine lines_dc pq _ [] as _ emptyDo (by rw [updM_ne pq]; exact e1) (by rw [updM_same]; rfl) (grp_congr gr fun b m => updM_ne (nz b m)) nz ?_ ?_ ?_ fun o2 => ?_
  · rw [List.nil_append]
    exact (Ink.group_ok (Ink.partsI pl)).nd
  · have : ([] : List (Ky × List Sg)).length = 0 := rfl
    omega
  · intro x m
    have := tot_mem m
    have : totG [] = 0 := rfl
    omega
  · refine ⟨updM μ q (.dct o2 (lnsD (Ink.linesI pl))), ?_, h q o2 (sub.none hq)⟩
    rw [updM_updM]
    exact sub.both
theorem vc_lies_on (Γ : CL) : ∀ ds μ R, sp_lies_on Γ ds μ R → rd_lies_on Γ (fin R) (startD 8 ds) μ := by
  rintro ds μ R ⟨⟨p1, p2⟩, a, o, L, rfl, ha, sp, ok, h⟩
  unfold rd_lies_on
  rw [show startD 8 [plD (p1, p2), .ref a] = [some (plD (p1, p2)), some (.ref a), none, none, none, none, none, none] from rfl]
  refine seq_g fun N hN => ?_
  simp only [rFor, rIDct, rVar, gt]
  refine ⟨a, o, _, rfl, ha, ?_⟩
  have loop : ∀ (r : List (Ky × List Sg)) (x2 x3 x4 x5 : Option D), okLn r → (Ink.lieI (p1, p2) r = true → R (.bl true) μ) → (Ink.lieI (p1, p2) r = false → ∀ x2 x3 x4 x5, N [some (plD (p1, p2)), some (.ref a), x2, x3, x4, x5, none, none] μ) →
      forD (rGTup 2 (rGCons (rGTup 3 (rGCons (rGN 2) (rGCons (rGN 3) (rGCons (rGN 4) rGNil)))) (rGCons (rGN 5) rGNil))) (rd_lies_on_f1 Γ) (fun μ => μ a = some (.dct o (lnsD L))) { (fin R) with nx := N } ((lnsD r).map pairC) [some (plD (p1, p2)), some (.ref a), x2, x3, x4, x5, none, none] μ := by
    intro r
    induction r with
    | nil => intro x2 x3 x4 x5 _ _ q; exact ⟨ha, q rfl x2 x3 x4 x5⟩
    | cons x r ih =>
      intro x2 x3 x4 x5 hok q1 q2
      obtain ⟨⟨b1, b2⟩, b3⟩ := hok x (List.mem_cons_self ..)
      refine ⟨ha, ?_⟩
      have e : Ink.lieI (p1, p2) (x :: r) = ((decide (Ink.onK x.1 (p1, p2)) && x.2.any fun s => decide (Ink.leI s.1 (p1, p2)) && decide (Ink.leI (p1, p2) s.2)) || Ink.lieI (p1, p2) r) := by
        unfold Ink.lieI; rw [List.any_cons]
      rw [e] at q1 q2
      have go : (decide (Ink.onK x.1 (p1, p2)) && x.2.any fun s => decide (Ink.leI s.1 (p1, p2)) && decide (Ink.leI (p1, p2) s.2)) = false → ∀ x2 x3 x4 x5, forD (rGTup 2 (rGCons (rGTup 3 (rGCons (rGN 2) (rGCons (rGN 3) (rGCons (rGN 4) rGNil)))) (rGCons (rGN 5) rGNil))) (rd_lies_on_f1 Γ) (fun μ => μ a = some (.dct o (lnsD L))) { (fin R) with nx := N } ((lnsD r).map pairC) [some (plD (p1, p2)), some (.ref a), x2, x3, x4, x5, none, none] μ := fun z y2 y3 y4 y5 => by
        rw [z, Bool.false_or] at q1 q2
        exact ih y2 y3 y4 y5 (fun y m => hok y (List.mem_cons_of_mem _ m)) q1 q2
      simp only [pairC, kyD, rGTup, rGCons, rGN, rGNil, st, List.length_cons, List.length_nil, true_and]
      unfold rd_lies_on_f1
      simp only [rIf, rAnd, rB, rOp, rVar, rC, gt, plD, gSub, gI0]
      refine ⟨⟨sp.1.mono (by decide), b2.mono (by decide)⟩, ⟨sp.2.mono (by decide), b1.mono (by decide)⟩, ?_⟩
      refine ⟨rfl, rfl, ?_⟩
      simp only [res, deq_int]
      by_cases c : p1 * x.1.2.1 - p2 * x.1.1 = x.1.2.2
      · refine ite_yes (by simpa using c) ?_
        have oc : decide (Ink.onK x.1 (p1, p2)) = true := decide_eq_true c
        simp only [rCl, rCons, rNil, rLc, rILst, rVar, gt, rms, rm]
        refine ⟨by rw [List.length_map]; exact Nat.le_trans b3 (by decide), ?_⟩
        have lc : ∀ (t : List Sg) (acc : List D) (Q : List D → MH → Prop), Q (acc ++ t.map fun s => .bl (decide (Ink.leI s.1 (p1, p2)) && decide (Ink.leI (p1, p2) s.2))) μ →
            lcD (rGTup 2 (rGCons (rGN 6) (rGCons (rGN 7) rGNil))) rTrue (rChain gLeD gLeD (rVar 6) (rVar 0) (rVar 7)) tru [some (.tup [.int p1, .int p2]), some (.ref a), some (.int x.1.1), some (.int x.1.2.1), some (.int x.1.2.2), some (.lst (x.2.map sgD)), none, none] (t.map sgD) acc μ Q := by
          intro t
          induction t with
          | nil => intro acc Q qq; exact ⟨trivial, by simpa using qq⟩
          | cons s t iht =>
            intro acc Q qq
            refine ⟨trivial, ?_⟩
            simp only [sgD, rGTup, rGCons, rGN, rGNil, st, List.length_cons, List.length_nil, true_and, rTrue, if_true, rChain, rVar, gt]
            refine led_i s.1 (p1, p2) ?_
            have nx := iht (acc ++ [.bl (decide (Ink.leI s.1 (p1, p2)) && decide (Ink.leI (p1, p2) s.2))]) Q (by rw [List.append_assoc]; exact qq)
            by_cases c1 : Ink.leI s.1 (p1, p2)
            · refine ite_yes (decide_eq_true c1) ?_
              refine led_i (p1, p2) s.2 ?_
              rw [decide_eq_true c1, Bool.true_and] at nx
              exact nx
            · refine ite_no (by simpa using c1) ?_
              rw [decide_eq_false c1, Bool.false_and] at nx
              exact nx
        refine lc x.2 [] _ ?_
        have bo : ∀ (t : List Sg), bools (t.map fun s => D.bl (decide (Ink.leI s.1 (p1, p2)) && decide (Ink.leI (p1, p2) s.2))) = some (t.map fun s => (decide (Ink.leI s.1 (p1, p2)) && decide (Ink.leI (p1, p2) s.2))) := by
          intro t
          induction t with
          | nil => rfl
          | cons s t iht =>
            rw [List.map_cons, List.map_cons]
            unfold bools
            rw [iht]
            rfl
        simp only [gAny, res, List.nil_append, bo]
        rw [List.any_map]
        have an : (x.2.any (_root_.id ∘ fun s => (decide (Ink.leI s.1 (p1, p2)) && decide (Ink.leI (p1, p2) s.2)))) = x.2.any fun s => (decide (Ink.leI s.1 (p1, p2)) && decide (Ink.leI (p1, p2) s.2)) := rfl
        rw [an]
        cases w : x.2.any fun s => (decide (Ink.leI s.1 (p1, p2)) && decide (Ink.leI (p1, p2) s.2)) with
        | true =>
          refine ite_yes rfl ?_
          rw [oc, w] at q1
          simp only [rRet, rC]
          exact q1 rfl
        | false =>
          refine ite_no (by simp) ?_
          exact go (by rw [oc, w]; rfl) _ _ _ _
      · refine ite_no (by simpa using c) ?_
        have oc : decide (Ink.onK x.1 (p1, p2)) = false := decide_eq_false c
        refine ite_no (by simp) ?_
        exact go (by rw [oc]; rfl) _ _ _ _
  refine loop L none none none none ok (fun e => by rw [e] at h; exact h) fun e x2 x3 x4 x5 => ?_
  refine hN _ _ ?_
  rw [e] at h
  exact h
end L3

/-! ## V35 -/
set_option Elab.async false
set_option linter.all false
set_option maxRecDepth 100000
set_option maxHeartbeats 1000000
/-! Inks: ink_of and what rests on it. -/
namespace L3
open PySem NM L2
open Ink (Q2 Pl Sg Ky)
theorem key_bt {a b : Pl} (h : a ≠ b) {n : Nat} (ha : BtP n a) (hb : BtP n b) : Bt (n + 1) (Ink.keyI a b).1 ∧ Bt (n + 1) (Ink.keyI a b).2.1 := by
  obtain ⟨g, hg, e1, e2, _, _⟩ := Ink.key_spec h
  have b1 : Bt (n + 1) (b.1 - a.1) := Bt.sub hb.1 ha.1
  have b2 : Bt (n + 1) (b.2 - a.2) := Bt.sub hb.2 ha.2
  refine ⟨b1.le ?_, b2.le ?_⟩
  · rw [e1, Int.natAbs_mul]
    exact Nat.le_mul_of_pos_left _ (by omega)
  · rw [e2, Int.natAbs_mul]
    exact Nat.le_mul_of_pos_left _ (by omega)
theorem lines_ok {pl : List (List Pl)} (hl : pl.length ≤ 500) (hs : ∀ s ∈ pl, s.length ≤ 12 ∧ ∀ p ∈ s, BtP 7500 p) (hn : ∀ y ∈ Ink.partsI pl, y.1 ≠ y.2) : okLn (Ink.linesI pl) := by
  intro x hx
  obtain ⟨g, hg, rfl⟩ := List.mem_map.mp hx
  obtain ⟨ne, fr⟩ := (Ink.group_ok (Ink.partsI pl)).from_ g hg
  have ft := fold_tot (Ink.partsI pl) []
  have pk := parts_len fun s m => (hs s m).1
  refine ⟨?_, ?_⟩
  · cases hq : g.2 with
    | nil => exact absurd hq ne
    | cons s r =>
      obtain ⟨y, hy, e, _⟩ := fr s (by rw [hq]; exact List.mem_cons_self ..)
      obtain ⟨t, ht, hy'⟩ := List.mem_flatMap.mp hy
      have m := segsI_mem hy'
      have := key_bt (hn y hy) ((hs t ht).2 _ m.1) ((hs t ht).2 _ m.2)
      rw [e] at this
      exact ⟨this.1.mono (by decide), this.2.mono (by decide)⟩
  · have := joinS_len g.2
    have := tot_mem hg
    have : totG [] = 0 := rfl
    unfold Ink.groupI at *
    show (Ink.joinS g.2).length ≤ _
    omega
theorem sum_map_le {α : Type} (f g : α → Nat) : ∀ l : List α, (∀ x ∈ l, f x ≤ g x) → (l.map f).sum ≤ (l.map g).sum
  | [], _ => Nat.le_refl _
  | x :: l, h => by
    have := sum_map_le f g l fun y m => h y (List.mem_cons_of_mem _ m)
    have := h x (List.mem_cons_self ..)
    rw [List.map_cons, List.map_cons, List.sum_cons, List.sum_cons]
    omega
section
variable {Γ : CL} {μ : MH} {R : MH → Prop} {s0 s1 s2 : Option D} {p q : Addr} {o : Obj} {L : List (Ky × List Sg)}
end
end L3

/-! ## V36 -/
set_option Elab.async false
set_option linter.all false
set_option maxRecDepth 100000
set_option maxHeartbeats 1000000
/-! Inks of drawings; what inks say of covered spots. -/
namespace L3
open PySem NM L2
open Ink (Q2 Pl Sg Ky)
/-! ### inks and what is covered -/
theorem okI.okS {N : Int} {ss : List Stk} (k : okI N ss) : okS N ss := ⟨k.pos, fun s hs => (k.st s hs).2.2, fun s hs z hz => ⟨(k.can s hs z hz).1, (k.can s hs z hz).2.2⟩⟩
theorem okI.is {N : Int} {ss : List Stk} (k : okI N ss) : IsInk (covS ss) (inkS ss) := by
  rw [inkS_of k.okS.ink]
  exact k.okS.ink
theorem okI.left {N : Int} {as bs : List Stk} (k : okI N (as ++ bs)) : okI N as := ⟨k.pos, k.bn, by have := k.le; rw [List.length_append] at this; omega, fun s hs => k.st s (List.mem_append_left _ hs), fun s hs => k.can s (List.mem_append_left _ hs)⟩
theorem okI.right {N : Int} {as bs : List Stk} (k : okI N (as ++ bs)) : okI N bs := ⟨k.pos, k.bn, by have := k.le; rw [List.length_append] at this; omega, fun s hs => k.st s (List.mem_append_right _ hs), fun s hs => k.can s (List.mem_append_right _ hs)⟩
/-- the ink's spots are spots of the strokes -/
theorem ink_spots {N : Int} {ss : List Stk} (k : okI N ss) : (∀ z ∈ (inkS ss).dots, ∃ s ∈ ss, z ∈ s) ∧ ∀ l ∈ (inkS ss).lines, (∃ s ∈ ss, l.1 ∈ s) ∧ ∃ s ∈ ss, l.2 ∈ s := by
  rw [inkS_of k.okS.ink]
  refine ⟨fun z hz => ?_, fun l hl => ?_⟩
  · obtain ⟨p, hp, rfl⟩ := List.mem_map.mp hz
    obtain ⟨s, hs, w, hw, rfl⟩ := k.okS.dot_of hp
    refine ⟨s, hs, ?_⟩
    rw [lowP_self k.okS hs hw]
    exact hw
  · obtain ⟨x, hx, rfl⟩ := List.mem_map.mp hl
    obtain ⟨⟨s, hs, w, hw, e⟩, t, ht, v, hv, f⟩ := k.okS.end_of hx
    refine ⟨⟨s, hs, ?_⟩, t, ht, ?_⟩
    · show lowP N x.1 ∈ s
      rw [e, lowP_self k.okS hs hw]
      exact hw
    · show lowP N x.2 ∈ t
      rw [f, lowP_self k.okS ht hv]
      exact hv
/-! ### equal inks -/
/-! ### the defs -/
/-! ### strokes whose inks can be told -/
def prodD (ss : List Stk) : Int := ss.foldl (fun a s => s.foldl (fun b z => b * z.d) a) 1
theorem prod_in : ∀ (s : Stk) (a : Int) (n : Nat), 0 < a → Bt n a → (∀ z ∈ s, Can z) → (m : Nat) → (∀ z ∈ s, Bt m z.d) → 0 < s.foldl (fun b z => b * z.d) a ∧ Bt (n + m * s.length) (s.foldl (fun b z => b * z.d) a) ∧ a ∣ s.foldl (fun b z => b * z.d) a ∧ ∀ z ∈ s, z.d ∣ s.foldl (fun b z => b * z.d) a
  | [], a, n, ha, hb, _, m, _ => ⟨ha, hb, Int.dvd_refl _, fun _ h => nomatch h⟩
  | w :: s, a, n, ha, hb, hc, m, hm => by
    obtain ⟨p1, p2, p3, p4⟩ := prod_in s (a * w.d) (n + m) (Int.mul_pos ha (hc w (List.mem_cons_self ..)).1) (hb.mul (hm w (List.mem_cons_self ..))) (fun z h => hc z (List.mem_cons_of_mem _ h)) m (fun z h => hm z (List.mem_cons_of_mem _ h))
    rw [List.foldl_cons]
    refine ⟨p1, p2.mono (by rw [List.length_cons, Nat.mul_add]; omega), Int.dvd_trans ⟨w.d, rfl⟩ p3, fun z h => ?_⟩
    rcases List.mem_cons.mp h with rfl | h
    · exact Int.dvd_trans ⟨a, Int.mul_comm ..⟩ p3
    · exact p4 z h
theorem prod_all : ∀ (ss : List Stk) (a : Int) (n : Nat), 0 < a → Bt n a → (m : Nat) → (∀ s ∈ ss, ∀ z ∈ s, Can z ∧ Bt m z.d) → 0 < ss.foldl (fun a s => s.foldl (fun b z => b * z.d) a) a ∧ Bt (n + m * (ss.map List.length).sum) (ss.foldl (fun a s => s.foldl (fun b z => b * z.d) a) a) ∧ a ∣ ss.foldl (fun a s => s.foldl (fun b z => b * z.d) a) a ∧
    ∀ s ∈ ss, ∀ z ∈ s, z.d ∣ ss.foldl (fun a s => s.foldl (fun b z => b * z.d) a) a
  | [], a, n, ha, hb, m, _ => ⟨ha, hb, Int.dvd_refl _, fun _ h => nomatch h⟩
  | s :: ss, a, n, ha, hb, m, hc => by
    obtain ⟨q1, q2, q3, q4⟩ := prod_in s a n ha hb (fun z h => (hc s (List.mem_cons_self ..) z h).1) m (fun z h => (hc s (List.mem_cons_self ..) z h).2)
    obtain ⟨p1, p2, p3, p4⟩ := prod_all ss _ _ q1 q2 m fun t ht => hc t (List.mem_cons_of_mem _ ht)
    rw [List.foldl_cons]
    refine ⟨p1, p2.mono (by rw [List.map_cons, List.sum_cons, Nat.mul_add]; omega), Int.dvd_trans q3 p3, fun t ht z hz => ?_⟩
    rcases List.mem_cons.mp ht with rfl | ht
    · exact Int.dvd_trans (q4 z hz) p3
    · exact p4 t ht z hz
theorem okI_prod {n c : Nat} {ss : List Stk} (h : ∀ s ∈ ss, okSt n s) (hc : (ss.map List.length).sum ≤ c) (hb : 1 + n * c ≤ 6000) (hn : n ≤ 1500) (hl : ss.length ≤ 500) : okI (prodD ss) ss := by
  obtain ⟨p1, p2, _, p4⟩ := prod_all ss 1 1 (by decide) (by show (1 : Int).natAbs < 2 ^ 1; decide) n fun s hs z hz => ⟨((h s hs).can z hz).1, ((h s hs).can z hz).2.2.2⟩
  have := Nat.mul_le_mul_left n hc
  exact ⟨p1, p2.mono (by omega), hl, fun s hs => ⟨(h s hs).ne, (h s hs).le, (h s hs).mv⟩, fun s hs z hz => ⟨((h s hs).can z hz).1, ((h s hs).can z hz).2.mono hn, p4 s hs z hz⟩⟩
end L3

/-! ## V39 -/
set_option Elab.async false
set_option linter.all false
set_option maxRecDepth 100000
set_option maxHeartbeats 1000000
/-! carriers, shuffled. -/
namespace L3
open PySem NM L2
section
variable {Γ : CL} {E : Ed} {μ : MH} {x3 x4 x5 x6 x7 x8 x9 x10 x11 : Option D}
end
end L3

/-! ## V40 -/
set_option Elab.async false
set_option linter.all false
set_option maxRecDepth 100000
set_option maxHeartbeats 1000000
/-! shuffled; what carriers are. -/
namespace L3
open PySem NM L2
/-! ### what carriers are -/
section
variable {p q : Num × Num} {m : Bool} {c : Cp} {ps : List (Num × Num)}
/-- the cross product of two ways -/
def crossQ (a b c : Num) : Rat := (re b - re a) * (im c - im a) - (im b - im a) * (re c - re a)
end
end L3

/-! ## V43 -/
set_option Elab.async false
set_option linter.all false
set_option maxRecDepth 100000
set_option maxHeartbeats 1000000
/-! ahead, lies, covers. -/
namespace L3
open PySem NM L2
theorem vc_law_ahead (Γ : CL) : ∀ ds μ R, sp_law_ahead Γ ds μ R → rd_law_ahead Γ (fin R) (startD 3 ds) μ := by
  rintro ds μ R ⟨a, b, rfl, sa, sb, h⟩
  have cb : ∀ {x y : Int}, Bt 1000 x → Bt 1000 y → CBig x y := fun h l => ⟨h.mono (by decide), l.mono (by decide)⟩
  unfold rd_law_ahead
  rw [show startD 3 [numD a, numD b] = [some (numD a), some (numD b), none] from rfl]
  refine seq_g fun N hN => ?_
  simp only [rAsg, rOp, rVar, rC, gt, numD, gIx_t, atI_0, atI_1, atI_2, List.getElem?_cons_zero, List.getElem?_cons_succ, gSub, gMul, gI, gI0]
  refine ⟨cb sa.1 sb.2.2, cb sb.1 sa.2.2, ?_⟩
  simp only [rGN, st]
  refine hN _ _ ?_
  clear hN N
  simp only [rRet, rOrV, rAndV, rOp, rVar, rC, gt, gLt, gI0, gEq_i, gIx_t, atI_0, atI_1, atI_2, List.getElem?_cons_zero, List.getElem?_cons_succ, gMul, gI]
  unfold aheadB at h
  by_cases c1 : a.x * b.d - b.x * a.d < 0
  · rw [decide_eq_true c1] at h
    refine ite_yes (decide_eq_true c1) ?_
    exact h
  · rw [decide_eq_false c1, Bool.false_or] at h
    refine ite_no (by simp [c1]) ?_
    by_cases c2 : a.x * b.d - b.x * a.d = 0
    · rw [show (a.x * b.d - b.x * a.d == 0) = true from by simp [c2]] at h
      refine ite_yes (by simp [c2]) ?_
      exact ⟨cb sa.2.1 sb.2.2, cb sb.2.1 sa.2.2, h⟩
    · rw [show (a.x * b.d - b.x * a.d == 0) = false from by simp [c2]] at h
      refine ite_no (by simp [c2]) ?_
      exact h
theorem ahead_i {Γ : CL} {μ : MH} {R : D → MH → Prop} {a b : Num} (sa : Sz 1000 a) (sb : Sz 1000 b) (h : R (.bl (aheadB a b)) μ) : sp_law_ahead Γ [numD a, numD b] μ R := ⟨a, b, rfl, sa, sb, h⟩
theorem vc_law_lies (Γ : CL) : ∀ ds μ R, sp_law_lies Γ ds μ R → rd_law_lies Γ (fin R) (startD 7 ds) μ := by
  rintro ds μ R ⟨z, a, b, rfl, ⟨kz, sz⟩, ⟨ka, sa⟩, ⟨kb, sb⟩, h⟩
  have s1 : Sz 700 (sub z a) := (Sz.add kz (can_opp ka) sz sa.opp).mono (by decide)
  have s2 : Sz 700 (sub b a) := (Sz.add kb (can_opp ka) sb sa.opp).mono (by decide)
  have cb : ∀ {x y : Int}, Bt 700 x → Bt 700 y → CBig x y := fun h l => ⟨h.mono (by decide), l.mono (by decide)⟩
  have z1 := sz.mono (show 300 ≤ 1000 by decide)
  have a1 := sa.mono (show 300 ≤ 1000 by decide)
  have b1 := sb.mono (show 300 ≤ 1000 by decide)
  unfold rd_law_lies
  rw [show startD 7 [numD z, numD a, numD b] = [some (numD z), some (numD a), some (numD b), none, none, none, none] from rfl]
  refine seq_g fun N hN => ?_
  simp only [rPar, rCl, rCons, rVar, rNil, gt]
  refine ⟨ne_d kz, ne_d ka, sz.mono (by decide), sa.mono (by decide), ?_⟩
  refine ⟨ne_d kb, ne_d ka, sb.mono (by decide), sa.mono (by decide), ?_⟩
  simp only [st]
  refine hN _ _ ?_
  clear hN N
  refine seq_g fun N hN => ?_
  show rIf _ _ _ _ [some (numD z), some (numD a), some (numD b), some (numD (sub z a)), some (numD (sub b a)), none, none] μ
  unfold liesB at h
  generalize sub z a = s at *
  generalize sub b a = t at *
  simp only [rIf, rB, rOp, rVar, rC, gt, numD, gIx_t, atI_0, atI_1, List.getElem?_cons_zero, List.getElem?_cons_succ, gMul, gI]
  refine ⟨cb s1.1 s2.2.1, cb s1.2.1 s2.1, ?_⟩
  rw [gNe_i]
  cases e : (s.x * t.y == s.y * t.x) with
  | false =>
    rw [e] at h
    simp only [Bool.not_false, if_true, rRet, rC]
    exact h
  | true =>
    rw [e, Bool.true_and] at h
    simp only [Bool.not_true, Bool.false_eq_true, if_false, rNext]
    refine hN _ _ ?_
    clear hN N
    refine seq_g fun N hN => ?_
    have fin2 : ∀ lo hi : Num, Sz 1000 lo → Sz 1000 hi → R (.bl (!aheadB z lo && !aheadB hi z)) μ → N [some (numD z), some (numD a), some (numD b), some (numD s), some (numD t), some (numD lo), some (numD hi)] μ := fun lo hi kl kh q => by
      refine hN _ _ ?_
      simp only [rRet, rAndV, rNotV, rCl, rCons, rVar, rNil, gt]
      refine ahead_i z1 kl ?_
      cases w : aheadB z lo with
      | true =>
        rw [w] at q
        exact q
      | false =>
        rw [w] at q
        simp only [Bool.not_false, if_true]
        refine ahead_i kh z1 ?_
        rw [Bool.not_false, Bool.true_and] at q
        exact q
    clear hN
    simp only [rAsg, rIfE, rB, rCl, rCons, rVar, rNil, gt]
    refine ahead_i b1 a1 ?_
    cases w : aheadB b a with
    | true =>
      rw [w, if_pos rfl] at h
      simp only [if_true, rLst, rCons, rVar, rNil, gt]
      refine ⟨by show 2 ≤ 2 ^ 24; decide, rfl, ?_⟩
      simp only [rGCons, rGNil, rGN, st, true_and]
      exact fin2 b a b1 a1 h
    | false =>
      rw [w, if_neg (by simp)] at h
      simp only [Bool.false_eq_true, if_false, rLst, rCons, rVar, rNil, gt]
      refine ⟨by show 2 ≤ 2 ^ 24; decide, rfl, ?_⟩
      simp only [rGCons, rGNil, rGN, st, true_and]
      exact fin2 a b a1 b1 h
theorem seg_ix : ∀ {s : Stk} {a b : Num}, (a, b) ∈ segs s ↔ ∃ i : Nat, s[i]? = some a ∧ s[i + 1]? = some b
  | [], a, b => by simp [segs]
  | [x], a, b => by
    constructor
    · intro h
      cases h
    · rintro ⟨i, h1, h2⟩
      rw [List.getElem?_cons_succ, List.getElem?_nil] at h2
      cases h2
  | x :: y :: r, a, b => by
    show (a, b) ∈ (x, y) :: segs (y :: r) ↔ _
    rw [List.mem_cons, seg_ix]
    constructor
    · rintro (h | ⟨i, h1, h2⟩)
      · injection h with h1 h2
        subst h1 h2
        exact ⟨0, rfl, rfl⟩
      · exact ⟨i + 1, h1, h2⟩
    · rintro ⟨i, h1, h2⟩
      cases i with
      | zero =>
        left
        simp at h1 h2
        rw [h1, h2]
      | succ i => exact .inr ⟨i, h1, h2⟩
theorem lc_fltI {ρ : EV} {i : Nat} {t : RT} {g : RX} {b : Int → Bool} {Q : List D → MH → Prop} {μ : MH} (hg : ∀ x (R : D → MH → Prop), R (.int x) μ → g (st ρ i (.int x)) μ R) : ∀ (zs : List Int) (acc : List D), (∀ z ∈ zs, ∀ (R : Bool → MH → Prop), R (b z) μ → t (st ρ i (.int z)) μ R) → Q (acc ++ (zs.filter b).map D.int) μ →
    lcD (rGN i) t g tru ρ (zs.map D.int) acc μ Q
  | [], acc, _, h => ⟨trivial, by simpa using h⟩
  | z :: zs, acc, k, h => by
    refine ⟨trivial, ?_⟩
    simp only [rGN]
    refine k z (List.mem_cons_self ..) _ ?_
    cases q : b z with
    | true =>
      refine ite_yes rfl ?_
      refine hg z _ ?_
      refine lc_fltI hg zs _ (fun w m => k w (List.mem_cons_of_mem _ m)) ?_
      rw [List.filter_cons_of_pos q] at h
      rw [List.append_assoc]
      exact h
    | false =>
      refine ite_no (by simp) ?_
      refine lc_fltI hg zs _ (fun w m => k w (List.mem_cons_of_mem _ m)) ?_
      rw [List.filter_cons_of_neg (by rw [q]; simp)] at h
      exact h
def getN (s : Stk) (i : Int) : Num := s.getD i.toNat zero
theorem gNe_nilI {l : List Int} {μ : MH} {R : D → MH → Prop} (h : R (.bl (!l.isEmpty)) μ) : gNe (.lst (l.map D.int)) (.lst []) μ R := by
  refine ⟨by show (l.map D.int).all (pureN 19) = true; rw [List.all_eq_true]; intro d hd; obtain ⟨z, _, rfl⟩ := List.mem_map.mp hd; rfl, rfl, ?_⟩
  cases l with
  | nil => exact h
  | cons d r => exact h
theorem covers_loop {Γ : CL} {E : Ed} {μ : MH} {z : Num} {s0 : Option D} (kz : okZ3 z) : ∀ (ss : List Stk) (x2 x3 : Option D), (∀ s ∈ ss, 1 ≤ s.length ∧ s.length ≤ 1000 ∧ ∀ z ∈ s, okZ3 z) → (coversB ss z = true → E.rt (.bl true) μ) → (coversB ss z = false → ∀ x2 x3, E.nx [s0, some (numD z), x2, x3] μ) →
    forD (rGN 2) (rSeq (rIf (rB (rOp gEq (rVar 1) (rOp gIx (rVar 2) (rC (.int 0)))))
 (rRet (rC (.bl true)))
 rNext)
 (rIf (rB (rOp gNe (rLc (rIRng1 (rCons (rOp gSub (rCl gLen (rCons (rVar 2) rNil)) (rC (.int 1))) rNil)) (rGN 3) (rB (rCl (sp_law_lies Γ) (rCons (rVar 1) (rCons (rOp gIx (rVar 2) (rVar 3)) (rCons (rOp gIx (rVar 2) (rOp gAdd (rVar 3) (rC (.int 1)))) rNil))))) (rVar 3) [3]) (rLst rNil)))
 (rRet (rC (.bl true)))
 rNext)) tru E (ss.map strD) [s0, some (numD z), x2, x3] μ
  | [], x2, x3, _, _, h => ⟨trivial, h rfl x2 x3⟩
  | s :: ss, x2, x3, hs, ht, hf => by
    obtain ⟨l1, l2, ks⟩ := hs s (List.mem_cons_self ..)
    have ec : coversB (s :: ss) z = (onStB z s || coversB ss z) := rfl
    rw [ec] at ht hf
    refine ⟨trivial, ?_⟩
    simp only [rGN, st]
    obtain ⟨a, r, rfl⟩ : ∃ a r, s = a :: r := by
      cases s with
      | nil => exact absurd l1 (by decide)
      | cons a r => exact ⟨a, r, rfl⟩
    refine seq_g fun N hN => ?_
    simp only [rIf, rB, rOp, rVar, rC, gt]
    show gIx (.tup ((a :: r).map numD)) (.int 0) μ _
    simp only [gIx_t, List.map_cons, atI_0, List.getElem?_cons_zero]
    rw [gEq_num]
    have eo : onStB z (a :: r) = (decide (z = a) || (segs (a :: r)).any fun y => liesB z y.1 y.2) := rfl
    by_cases e : z = a
    · refine ite_yes (decide_eq_true e) ?_
      simp only [rRet, rC]
      exact ht (by rw [eo, decide_eq_true e]; rfl)
    · refine ite_no (by simp [e]) ?_
      rw [decide_eq_false e, Bool.false_or] at eo
      rw [eo] at ht hf
      simp only [rNext]
      refine hN _ _ ?_
      clear hN N
      simp only [rIf, rB, rOp, rLc, rIRng1, rCl, rCons, rVar, rC, rNil, gt, rms, rm]
      show gLen [.tup ((a :: r).map numD)] μ _
      simp only [gLen, res, seqD, List.length_map, gSub, gI0]
      have hn : ((((a :: r).length : Int)) - 1).toNat = (a :: r).length - 1 := by omega
      refine ⟨by unfold inR; omega, by rw [rangeD_len]; show _ ≤ 2 ^ 24; omega, ?_⟩
      rw [rangeD_intsL, hn]
      refine lc_fltI (b := fun i => liesB z (getN (a :: r) i) (getN (a :: r) (i + 1))) (fun x Q w => w) _ [] (fun i hi Q w => ?_) ?_
      · rw [intsL_mem] at hi
        obtain ⟨m, rfl⟩ := Int.eq_ofNat_of_zero_le hi.1
        have hm : m + 1 < (a :: r).length := by have := hi.2; omega
        simp only [rB, rOp, rCl, rCons, rVar, rC, rNil, gt, st, gAdd, gI0]
        show gIx (.tup ((a :: r).map numD)) (.int (m : Int)) μ _
        rw [gIx_t, atI_lit, List.getElem?_map, List.getElem?_eq_getElem (by omega : m < (a :: r).length)]
        show gIx (.tup ((a :: r).map numD)) (.int ((m : Int) + 1)) μ _
        rw [show ((m : Int) + 1) = ((m + 1 : Nat) : Int) from by push_cast; rfl, gIx_t, atI_lit, List.getElem?_map, List.getElem?_eq_getElem hm]
        refine ⟨z, (a :: r)[m], (a :: r)[m + 1], rfl, kz, ks _ (List.getElem_mem _), ks _ (List.getElem_mem _), ?_⟩
        have g1 : getN (a :: r) (m : Int) = (a :: r)[m] := by
          unfold getN
          rw [Int.toNat_natCast, List.getD_eq_getElem?_getD, List.getElem?_eq_getElem (by omega : m < (a :: r).length)]
          rfl
        have g2 : getN (a :: r) ((m : Int) + 1) = (a :: r)[m + 1] := by
          unfold getN
          rw [show ((m : Int) + 1) = ((m + 1 : Nat) : Int) from by push_cast; rfl, Int.toNat_natCast, List.getD_eq_getElem?_getD, List.getElem?_eq_getElem hm]
          rfl
        rw [g1, g2] at w
        exact w
      rw [List.nil_append]
      refine ⟨by show 0 ≤ 2 ^ 24; decide, gNe_nilI ?_⟩
      have key : (!((intsL 0 ((a :: r).length - 1)).filter fun i => liesB z (getN (a :: r) i) (getN (a :: r) (i + 1))).isEmpty) = (segs (a :: r)).any fun y => liesB z y.1 y.2 := by
        rw [Bool.eq_iff_iff, Bool.not_eq_true', Bool.eq_false_iff, ne_eq, List.isEmpty_iff, List.filter_eq_nil_iff, List.any_eq_true]
        constructor
        · intro h
          apply Classical.byContradiction
          intro no
          refine h fun i hi w => no ?_
          rw [intsL_mem] at hi
          obtain ⟨m, rfl⟩ := Int.eq_ofNat_of_zero_le hi.1
          have hm : m + 1 < (a :: r).length := by have := hi.2; omega
          refine ⟨((a :: r)[m], (a :: r)[m + 1]), seg_ix.mpr ⟨m, List.getElem?_eq_getElem (by omega), List.getElem?_eq_getElem hm⟩, ?_⟩
          have g1 : getN (a :: r) (m : Int) = (a :: r)[m] := by
            unfold getN
            rw [Int.toNat_natCast, List.getD_eq_getElem?_getD, List.getElem?_eq_getElem (by omega : m < (a :: r).length)]
            rfl
          have g2 : getN (a :: r) ((m : Int) + 1) = (a :: r)[m + 1] := by
            unfold getN
            rw [show ((m : Int) + 1) = ((m + 1 : Nat) : Int) from by push_cast; rfl, Int.toNat_natCast, List.getD_eq_getElem?_getD, List.getElem?_eq_getElem hm]
            rfl
          rw [g1, g2] at w
          exact w
        · rintro ⟨⟨p, q⟩, hy, w⟩ no
          obtain ⟨m, e1, e2⟩ := seg_ix.mp hy
          obtain ⟨hm, _⟩ := List.getElem?_eq_some_iff.mp e2
          refine no (m : Int) ?_ ?_
          · rw [intsL_mem]
            omega
          · have g1 : getN (a :: r) (m : Int) = p := by
              unfold getN
              rw [Int.toNat_natCast, List.getD_eq_getElem?_getD, e1]
              rfl
            have g2 : getN (a :: r) ((m : Int) + 1) = q := by
              unfold getN
              rw [show ((m : Int) + 1) = ((m + 1 : Nat) : Int) from by push_cast; rfl, Int.toNat_natCast, List.getD_eq_getElem?_getD, e2]
              rfl
            rw [g1, g2]
            exact w
      rw [key]
      cases hk : (segs (a :: r)).any fun y => liesB z y.1 y.2 with
      | true =>
        rw [hk] at ht
        simp only [if_true, rRet, rC]
        exact ht rfl
      | false =>
        rw [hk, Bool.false_or] at ht hf
        simp only [Bool.false_eq_true, if_false, rNext]
        exact covers_loop kz ss _ _ (fun s hs' => hs s (List.mem_cons_of_mem _ hs')) ht hf
theorem vc_law_covers (Γ : CL) : ∀ ds μ R, sp_law_covers Γ ds μ R → rd_law_covers Γ (fin R) (startD 4 ds) μ := by
  rintro ds μ R ⟨ss, z, rfl, ⟨l, ks⟩, kz, h⟩
  unfold rd_law_covers
  rw [show startD 4 [strsD ss, numD z] = [some (strsD ss), some (numD z), none, none] from rfl]
  refine seq_g fun N hN => ?_
  rw [rFor]
  simp only [rITup, rVar, gt, strsD]
  refine covers_loop kz ss none none ks (fun e => ?_) fun e x2 x3 => ?_
  · rw [e] at h
    exact h
  · refine hN _ _ ?_
    simp only [rRet, rC]
    rw [e] at h
    exact h
/-! ### what it says -/
theorem flat_iff2 {a b z : Num} (ha : Can a) (hb : Can b) (hz : Can z) : ((sub z a).x * (sub b a).y = (sub z a).y * (sub b a).x) ↔ crossQ a b z = 0 := by
  have k1 := can_sub hz ha
  have k2 := can_sub hb ha
  have d1 := rat_d k1
  have d2 := rat_d k2
  have e : crossQ a b z = re (sub b a) * im (sub z a) - im (sub b a) * re (sub z a) := by
    unfold crossQ
    rw [re_sub hz ha, im_sub hz ha, re_sub hb ha, im_sub hb ha]
  rw [e]
  unfold re im
  generalize sub z a = s at *
  generalize sub b a = w at *
  constructor
  · intro h
    have h2 : ((s.x : Rat)) * (w.y : Rat) = (s.y : Rat) * (w.x : Rat) := by exact_mod_cast h
    grind
  · intro h
    have h2 : ((s.x : Rat)) * (w.y : Rat) = (s.y : Rat) * (w.x : Rat) := by grind
    exact_mod_cast h2
theorem sg_fst {a b : Ink.Q2} : Ink.sg a b a := by
  refine ⟨by unfold Ink.crs; grind, ?_⟩
  have r : Ink.le a a := .inr ⟨rfl, by grind⟩
  by_cases h : Ink.le a b
  · exact .inl ⟨r, h⟩
  · refine .inr ⟨?_, r⟩
    unfold Ink.le at h ⊢
    by_cases h1 : b.1 < a.1
    · exact .inl h1
    · by_cases h2 : a.1 < b.1
      · exact absurd (.inl h2) h
      · have e : a.1 = b.1 := by grind
        refine .inr ⟨e.symm, ?_⟩
        by_cases h3 : a.2 ≤ b.2
        · exact absurd (.inr ⟨e, h3⟩) h
        · grind
theorem ahead_iff {a b : Num} (ka : Can a) (kb : Can b) : aheadB a b = true ↔ Ink.lt (numQ a) (numQ b) := by
  have d1 := rat_d ka
  have d2 := rat_d kb
  have p1 : (0 : Rat) < (a.d : Rat) := by exact_mod_cast ka.1
  have p2 : (0 : Rat) < (b.d : Rat) := by exact_mod_cast kb.1
  have lt_iff : ∀ x y : Int, ((x : Rat) / (a.d : Rat) < (y : Rat) / (b.d : Rat)) ↔ x * b.d < y * a.d := fun x y => by
    rw [Rat.div_lt_iff p1]
    have e : (y : Rat) / (b.d : Rat) * (a.d : Rat) = ((y : Rat) * (a.d : Rat)) / (b.d : Rat) := by grind
    rw [e, Rat.lt_div_iff p2]
    exact_mod_cast Iff.rfl
  have eq_iff : ∀ x y : Int, ((x : Rat) / (a.d : Rat) = (y : Rat) / (b.d : Rat)) ↔ x * b.d = y * a.d := fun x y => by
    constructor
    · intro h
      have : (x : Rat) * (b.d : Rat) = (y : Rat) * (a.d : Rat) := by grind
      exact_mod_cast this
    · intro h
      have : (x : Rat) * (b.d : Rat) = (y : Rat) * (a.d : Rat) := by exact_mod_cast h
      grind
  unfold aheadB Ink.lt numQ re im
  simp only [Bool.or_eq_true, Bool.and_eq_true, decide_eq_true_eq, beq_iff_eq]
  rw [lt_iff, lt_iff, eq_iff]
  constructor
  · rintro (h | ⟨h1, h2⟩)
    · exact .inl (by omega)
    · exact .inr ⟨by omega, h2⟩
  · rintro (h | ⟨h1, h2⟩)
    · exact .inl (by omega)
    · exact .inr ⟨by omega, h2⟩
theorem nlt_le {p q : Ink.Q2} : ¬ Ink.lt p q ↔ Ink.le q p := by
  unfold Ink.lt Ink.le
  constructor
  · intro h
    by_cases h1 : q.1 < p.1
    · exact .inl h1
    · by_cases h2 : p.1 < q.1
      · exact absurd (.inl h2) h
      · have e : p.1 = q.1 := by grind
        refine .inr ⟨e.symm, ?_⟩
        by_cases h3 : p.2 < q.2
        · exact absurd (.inr ⟨e, h3⟩) h
        · grind
  · rintro (h | ⟨h1, h2⟩) (w | ⟨w1, w2⟩) <;> grind
theorem nahead_iff {a b : Num} (ka : Can a) (kb : Can b) : (!aheadB a b) = true ↔ Ink.le (numQ b) (numQ a) := by
  rw [Bool.not_eq_true', Bool.eq_false_iff, ne_eq, ahead_iff ka kb, nlt_le]
theorem lies_iff {z a b : Num} (kz : Can z) (ka : Can a) (kb : Can b) : liesB z a b = true ↔ Ink.sg (numQ a) (numQ b) (numQ z) := by
  have k1 := can_sub kz ka
  have k2 := can_sub kb ka
  have d1 := rat_d k1
  have d2 := rat_d k2
  have ec : ((sub z a).x * (sub b a).y == (sub z a).y * (sub b a).x) = true ↔ Ink.crs (numQ a) (numQ b) (numQ z) = 0 := by
    rw [beq_iff_eq, flat_iff2 ka kb kz]
    unfold Ink.crs numQ crossQ
    simp only
    constructor <;> intro h <;> grind
  unfold liesB Ink.sg
  rw [Bool.and_eq_true, ec]
  refine and_congr_right fun hc => ?_
  cases w : aheadB b a with
  | true =>
    have hl := (ahead_iff kb ka).mp w
    rw [if_pos rfl, Bool.and_eq_true, nahead_iff kz kb, nahead_iff ka kz]
    constructor
    · rintro ⟨h1, h2⟩
      exact .inr ⟨h1, h2⟩
    · rintro (⟨h1, h2⟩ | h)
      · exfalso
        unfold Ink.lt at hl
        unfold Ink.le at h1 h2
        rcases hl with hl | ⟨hl, hl2⟩ <;> rcases h1 with h1 | ⟨h1, h12⟩ <;> rcases h2 with h2 | ⟨h2, h22⟩ <;> grind
      · exact h
  | false =>
    have hl : Ink.le (numQ a) (numQ b) := (nahead_iff kb ka).mp (by rw [w]; rfl)
    rw [if_neg (by simp), Bool.and_eq_true, nahead_iff kz ka, nahead_iff kb kz]
    constructor
    · rintro ⟨h1, h2⟩
      exact .inl ⟨h1, h2⟩
    · rintro (h | ⟨h1, h2⟩)
      · exact h
      · unfold Ink.le at hl h1 h2 ⊢
        rcases hl with hl | ⟨hl, hl2⟩ <;> rcases h1 with h1 | ⟨h1, h12⟩ <;> rcases h2 with h2 | ⟨h2, h22⟩ <;> grind
theorem covers_iff {ss : List Stk} {z : Num} (k : ∀ s ∈ ss, 1 ≤ s.length ∧ ∀ w ∈ s, Can w) (kz : Can z) : coversB ss z = true ↔ covS ss (numQ z) := by
  unfold coversB covS
  rw [List.any_eq_true]
  constructor
  · rintro ⟨s, hs, h⟩
    obtain ⟨l1, kc⟩ := k s hs
    refine ⟨s, hs, ?_⟩
    unfold onStB at h
    rw [Bool.or_eq_true] at h
    rcases h with h | h
    · cases s with
      | nil => cases h
      | cons a r =>
        have e : z = a := of_decide_eq_true h
        subst e
        cases r with
        | nil => exact .inl ⟨z, rfl, rfl⟩
        | cons b r => exact .inr ⟨(z, b), List.mem_cons_self .., sg_fst⟩
    · obtain ⟨y, hy, w⟩ := List.any_eq_true.mp h
      obtain ⟨m1, m2⟩ := segs_mem2 hy
      exact .inr ⟨y, hy, (lies_iff kz (kc _ m1) (kc _ m2)).mp w⟩
  · rintro ⟨s, hs, h⟩
    obtain ⟨l1, kc⟩ := k s hs
    refine ⟨s, hs, ?_⟩
    unfold onStB
    rw [Bool.or_eq_true]
    rcases h with ⟨w, rfl, e⟩ | ⟨y, hy, w⟩
    · left
      have : z = w := NM.ext kz (kc w (List.mem_cons_self ..)) (congrArg Prod.fst e) (congrArg Prod.snd e)
      exact decide_eq_true this
    · right
      obtain ⟨m1, m2⟩ := segs_mem2 hy
      exact List.any_eq_true.mpr ⟨y, hy, (lies_iff kz (kc _ m1) (kc _ m2)).mpr w⟩
end L3

/-! ## V44 -/
set_option Elab.async false
set_option linter.all false
set_option maxRecDepth 100000
set_option maxHeartbeats 1000000
/-! crossing. -/
namespace L3
open PySem NM L2
open Ink (Pl Sg Ky Q2)
end L3

/-! ## V45 -/
set_option Elab.async false
set_option linter.all false
set_option maxRecDepth 100000
set_option maxHeartbeats 1000000
/-! What two stretches have in common. -/
namespace L3
open PySem NM L2
open Ink (Pl Sg Ky Q2 qP keyI onK KyOk ltI leI minI maxI)
section
variable {S : Int} (hS : 0 < S) {p q a b : Pl} {k l : Ky} {P : Q2}
theorem sg_lt {a b P : Q2} (h : Ink.lt a b) : Ink.sg a b P ↔ Ink.crs a b P = 0 ∧ Ink.le a P ∧ Ink.le P b := by
  unfold Ink.sg
  refine and_congr_right fun _ => ⟨fun w => ?_, fun w => .inl w⟩
  rcases w with w | ⟨w1, w2⟩
  · exact w
  · exfalso
    exact (Ink.lt_iff.mp h) (Ink.le_trans w1 w2)
theorem ltI_ne {p q : Pl} (h : ltI p q) : p ≠ q := fun e => by
  subst e
  unfold ltI at h
  omega
end
end L3

/-! ## V46 -/
set_option Elab.async false
set_option linter.all false
set_option maxRecDepth 100000
set_option maxHeartbeats 1000000
/-! What two drawings have in common. -/
namespace L3
open PySem NM L2
open Ink (Pl Sg Ky Q2 qP keyI onK KyOk ltI leI minI maxI linesI partsI covI lieI inkLines inkDots)
/-- all stretches with their lines -/
def flatL (X : List (List Pl)) : List (Ky × Sg) := (linesI X).flatMap fun x => x.2.map fun s => (x.1, s)
noncomputable def rowX (h : Ky × Sg) (B : List (Ky × Sg)) : List (Option Stk) := B.map fun t => crossL h.1 h.2.1 h.2.2 t.1 t.2.1 t.2.2
noncomputable def crossAll (A B : List (Ky × Sg)) : List (Option Stk) := A.flatMap fun h => rowX h B
section
variable {S : Int} (hS : 0 < S) {X Y : List (List Pl)} (hx : ∀ y ∈ partsI X, y.1 ≠ y.2) (hy : ∀ y ∈ partsI Y, y.1 ≠ y.2) {P : Q2}
include hS hx in
theorem flat_facts {h : Ky × Sg} (m : h ∈ flatL X) : ltI h.2.1 h.2.2 ∧ keyI h.2.1 h.2.2 = h.1 ∧ h.2 ∈ inkLines X := by
  obtain ⟨x, mx, m⟩ := List.mem_flatMap.mp m
  obtain ⟨s, ms, rfl⟩ := List.mem_map.mp m
  obtain ⟨f, _, _⟩ := Ink.line_facts hS hx mx
  exact ⟨(f s ms).1, (f s ms).2, (Ink.mem_lines hS hx).mpr ⟨x, mx, ms⟩⟩
include hS hx in
theorem flat_has {s : Sg} (m : s ∈ inkLines X) : ∃ h ∈ flatL X, h.2 = s := by
  obtain ⟨x, mx, ms⟩ := (Ink.mem_lines hS hx).mp m
  exact ⟨(x.1, s), List.mem_flatMap.mpr ⟨x, mx, List.mem_map.mpr ⟨s, ms, rfl⟩⟩, rfl⟩
include hS hx in
/-- covered: a dot, or on a stretch -/
theorem cov_or : covI S X P ↔ (∃ p, [p] ∈ X ∧ P = qP S p) ∨ ∃ h ∈ flatL X, Ink.sg (qP S h.2.1) (qP S h.2.2) P := by
  rw [← Ink.ink_cov hS hx]
  constructor
  · rintro (h | ⟨l, hl, w⟩)
    · obtain ⟨p, hp, rfl⟩ := List.mem_map.mp h
      exact .inl ⟨p, ((Ink.mem_dots hS hx).mp hp).1, rfl⟩
    · obtain ⟨s, hs, rfl⟩ := List.mem_map.mp hl
      obtain ⟨h, mh, rfl⟩ := flat_has hS hx hs
      exact .inr ⟨h, mh, w.1, .inl w.2⟩
  · rintro (⟨p, hp, rfl⟩ | ⟨h, mh, w⟩)
    · by_cases c : lieI p (linesI X) = true
      · obtain ⟨s, hs, w⟩ := (Ink.lie_iff hS hx).mp c
        exact .inr ⟨_, List.mem_map.mpr ⟨s, hs, rfl⟩, w⟩
      · exact .inl (List.mem_map.mpr ⟨p, (Ink.mem_dots hS hx).mpr ⟨hp, by simpa using c⟩, rfl⟩)
    · obtain ⟨f1, f2, f3⟩ := flat_facts hS hx mh
      have w2 := (sg_lt ((Ink.qP_lt hS).mpr f1)).mp w
      exact .inr ⟨_, List.mem_map.mpr ⟨h.2, f3, rfl⟩, w2⟩
include hS hx in
theorem lie_flat {p : Pl} : lieI p (linesI X) = true ↔ ∃ h ∈ flatL X, Ink.sg (qP S h.2.1) (qP S h.2.2) (qP S p) := by
  rw [Ink.lie_iff hS hx]
  constructor
  · rintro ⟨s, hs, w⟩
    obtain ⟨h, mh, rfl⟩ := flat_has hS hx hs
    exact ⟨h, mh, w.1, .inl w.2⟩
  · rintro ⟨h, mh, w⟩
    obtain ⟨f1, f2, f3⟩ := flat_facts hS hx mh
    exact ⟨h.2, f3, (sg_lt ((Ink.qP_lt hS).mpr f1)).mp w⟩
end
end L3

/-! ## V47 -/
set_option Elab.async false
set_option linter.all false
set_option maxRecDepth 100000
set_option maxHeartbeats 1000000
/-! .. is not too large. -/
namespace L3
open PySem NM L2
open Ink (Pl Sg Ky Q2 qP keyI onK KyOk ltI leI minI maxI linesI partsI covI lieI inkLines inkDots)
section
variable {S : Int} (hS : 0 < S) {X Y : List (List Pl)} {n m e c : Nat}
end
end L3

/-! ## V48 -/
set_option Elab.async false
set_option linter.all false
set_option maxRecDepth 100000
set_option maxHeartbeats 1000000
/-! common: its dots. -/
namespace L3
open PySem NM L2
open Ink (Pl Sg Ky Q2 qP keyI onK KyOk ltI leI minI maxI linesI partsI covI lieI inkLines inkDots)
def ones (Y : List (List Pl)) : List (List Pl) := Y.filter fun s => decide (s.length = 1)
section
variable {Γ : CL} {E : Ed} {μ : MH} {s0 s1 s2 s3 s4 s6 s7 s8 s9 s10 s11 s12 s13 s16 s18 s20 : Option D} {q p1 p2 : Addr} {o1 o2 : Obj} {X Y : List (List Pl)}
end
end L3

/-! ## V49 -/
set_option Elab.async false
set_option linter.all false
set_option maxRecDepth 100000
set_option maxHeartbeats 1000000
/-! common: its loops. -/
namespace L3
open PySem NM L2
open Ink (Pl Sg Ky Q2 qP keyI onK KyOk ltI leI minI maxI linesI partsI covI lieI inkLines inkDots)
theorem lc_fm {α : Type} {ρ : EV} {i : Nat} {t : RT} {g : RX} {fd : α → D} {b : α → Bool} {out : α → D} {Q : List D → MH → Prop} {μ : MH} : ∀ (zs : List α) (acc : List D), (∀ z ∈ zs, ∀ (R : Bool → MH → Prop), R (b z) μ → t (st ρ i (fd z)) μ R) → (∀ z ∈ zs, b z = true → ∀ (R : D → MH → Prop), R (out z) μ → g (st ρ i (fd z)) μ R) → Q (acc ++ (zs.filter b).map out) μ →
    lcD (rGN i) t g tru ρ (zs.map fd) acc μ Q
  | [], acc, _, _, h => ⟨trivial, by simpa using h⟩
  | z :: zs, acc, k, kg, h => by
    refine ⟨trivial, ?_⟩
    simp only [rGN]
    refine k z (List.mem_cons_self ..) _ ?_
    cases q : b z with
    | true =>
      refine ite_yes rfl ?_
      refine kg z (List.mem_cons_self ..) q _ ?_
      refine lc_fm zs _ (fun w m => k w (List.mem_cons_of_mem _ m)) (fun w m => kg w (List.mem_cons_of_mem _ m)) ?_
      rw [List.filter_cons_of_pos q] at h
      rw [List.append_assoc]
      exact h
    | false =>
      refine ite_no (by simp) ?_
      refine lc_fm zs _ (fun w m => k w (List.mem_cons_of_mem _ m)) (fun w m => kg w (List.mem_cons_of_mem _ m)) ?_
      rw [List.filter_cons_of_neg (by rw [q]; simp)] at h
      exact h
def strkFD (h : Ky × Sg) : D := strkD h.1 h.2.1 h.2.2
section
variable {Γ : CL} {E : Ed} {μ : MH} {s0 s1 s2 s3 s4 s5 s6 s7 s8 s9 s10 s11 s12 s13 s14 s15 s16 s17 s18 s19 s20 : Option D} {q p1 p2 pp : Addr} {o1 o2 : Obj} {X Y : List (List Pl)}
open Classical in
theorem f2_loop {A B : List (Ky × Sg)} (hpp : ∀ ys : List D, (updM μ q (.lst ys)) pp = some (.lst [.lst (A.map strkFD), .lst (B.map strkFD)])) (fB : ∀ t ∈ B, okKy t.1 ∧ BtP 1500 t.2.1 ∧ BtP 1500 t.2.2) (lB : B.length ≤ 6500) : ∀ (hs : List (Ky × Sg)) (acc : List (Option Stk)) (s13 s14 : Option D), (∀ h ∈ hs, okKy h.1 ∧ BtP 1500 h.2.1 ∧ BtP 1500 h.2.2) → acc.length + hs.length * B.length ≤ 1000000 →
    (∀ s13 s14, E.nx [s0, s1, s2, s3, s4, s5, s6, some (.ref pp), s8, s9, s10, s11, some (.ref q), s13, s14, s15, s16, s17, s18, s19, s20] (updM μ q (.lst ((acc ++ crossAll hs B).map stkO)))) →
    forD (rGN 13) (rd_common_f2 Γ) tru E (hs.map strkFD) [s0, s1, s2, s3, s4, s5, s6, some (.ref pp), s8, s9, s10, s11, some (.ref q), s13, s14, s15, s16, s17, s18, s19, s20] (updM μ q (.lst (acc.map stkO)))
  | [], acc, s13, s14, _, _, h => ⟨trivial, by
    have := h s13 s14
    rw [show crossAll [] B = [] from rfl, List.append_nil] at this
    exact this⟩
  | h0 :: hs, acc, s13, s14, fh, hl, h => by
    rw [List.length_cons, Nat.succ_mul] at hl
    obtain ⟨k1, k2, k3⟩ := fh h0 (List.mem_cons_self ..)
    refine ⟨trivial, ?_⟩
    simp only [rGN, st, rd_common_f2, rDrop, rMut, rVar, gt, updM_same, rCons, rNil, rLc, rILst, rOp, rC, rms, rm]
    show gIx (.ref pp) (.int 1) _ _
    rw [gIx_r]
    simp only [res, hpp, seqD, atI_1, List.getElem?_cons_succ, List.getElem?_cons_zero]
    refine ⟨by rw [List.length_map]; show _ ≤ 2 ^ 24; omega, ?_⟩
    refine lc_fm (b := fun _ => true) (out := fun t => stkO (crossL h0.1 h0.2.1 h0.2.2 t.1 t.2.1 t.2.2)) B [] (fun t ht Q w => w) (fun t ht _ Q w => ?_) ?_
    · simp only [rCl, rCons, rVar, rNil, gt, st]
      obtain ⟨t1, t2, t3⟩ := fB t ht
      exact ⟨h0.1, h0.2.1, h0.2.2, t.1, t.2.1, t.2.2, rfl, k1, t1, k2, k3, t2, t3, w⟩
    rw [List.nil_append, List.filter_eq_self.mpr (fun _ _ => rfl), show (B.map fun t => stkO (crossL h0.1 h0.2.1 h0.2.2 t.1 t.2.1 t.2.2)) = (rowX h0 B).map stkO from by unfold rowX; rw [List.map_map]; rfl]
    simp only [updM_same, gExtend]
    refine ⟨by rw [List.length_map, List.length_map]; unfold rowX; rw [List.length_map]; show _ ≤ 2 ^ 24; omega, ?_⟩
    rw [updM_updM, ← List.map_append]
    refine f2_loop hpp fB lB hs (acc ++ rowX h0 B) _ _ (fun w m => fh w (List.mem_cons_of_mem _ m)) (by rw [List.length_append]; unfold rowX; rw [List.length_map]; omega) fun s13 s14 => ?_
    have := h s13 s14
    rw [show crossAll (h0 :: hs) B = rowX h0 B ++ crossAll hs B from List.flatMap_cons, ← List.append_assoc] at this
    exact this
end
end L3

/-! ## V50 -/
set_option Elab.async false
set_option linter.all false
set_option maxRecDepth 100000
set_option maxHeartbeats 1000000
/-! common. -/
namespace L3
open PySem NM L2
open Ink (Pl Sg Ky Q2 qP keyI onK KyOk ltI leI minI maxI linesI partsI covI lieI inkLines inkDots)
section
variable {Γ : CL} {E : Ed} {μ : MH} {s0 s1 s2 s3 s4 s5 s6 s7 s8 s9 s10 s11 s12 s13 s14 s15 s16 s17 s18 s19 s20 : Option D} {q p pp : Addr} {o : Obj} {X : List (List Pl)}
end
section
variable {S : Int} (hS : 0 < S) {N : Int} {n m e c : Nat} {as bs : List Stk}
theorem okC.left (k : okC N n m e c as bs) : okI N as := k.ok.left
theorem okC.right (k : okC N n m e c as bs) : okI N bs := k.ok.right
theorem flat_len (ss : List Stk) : (flatL (plsI S ss)).length ≤ (ss.flatMap segs).length := by
  have h1 : (flatL (plsI S ss)).length = ((linesI (plsI S ss)).map fun x => x.2.length).sum := by
    unfold flatL
    rw [List.length_flatMap]
    congr 1
    exact List.map_congr_left fun x _ => List.length_map ..
  have h2 : (partsI (plsI S ss)).length = (ss.flatMap segs).length := by
    unfold partsI plsI
    rw [List.length_flatMap, List.length_flatMap, List.map_map]
    congr 1
    refine List.map_congr_left fun s _ => ?_
    show (Ink.segsI (s.map (plI S))).length = (segs s).length
    rw [segs_map2, List.length_map]
  rw [h1, ← h2]
  unfold linesI
  rw [List.map_map]
  have ft := fold_tot (partsI (plsI S ss)) []
  have := sum_map_le (fun x : Ky × List Sg => (Ink.joinS x.2).length) (fun x => x.2.length) (Ink.groupI (partsI (plsI S ss))) fun x _ => joinS_len x.2
  show ((Ink.groupI (partsI (plsI S ss))).map fun x => (Ink.joinS x.2).length).sum ≤ _
  have z : totG [] = 0 := rfl
  unfold totG Ink.groupI at *
  omega
end
end L3

/-! ## V51 -/
set_option Elab.async false
set_option linter.all false
set_option maxRecDepth 100000
set_option maxHeartbeats 1000000
/-! common. -/
namespace L3
open PySem NM L2
open Ink (Pl Sg Ky Q2 qP keyI onK KyOk ltI leI minI maxI linesI partsI covI lieI inkLines inkDots)
theorem lc_fmC {α : Type} {C : MH → Prop} {ρ : EV} {i : Nat} {t : RT} {g : RX} {fd : α → D} {b : α → Bool} {out : α → D} {Q : List D → MH → Prop} {μ : MH} (hC : C μ) : ∀ (zs : List α) (acc : List D), (∀ z ∈ zs, ∀ (R : Bool → MH → Prop), R (b z) μ → t (st ρ i (fd z)) μ R) → (∀ z ∈ zs, b z = true → ∀ (R : D → MH → Prop), R (out z) μ → g (st ρ i (fd z)) μ R) → Q (acc ++ (zs.filter b).map out) μ →
    lcD (rGN i) t g C ρ (zs.map fd) acc μ Q
  | [], acc, _, _, h => ⟨hC, by simpa using h⟩
  | z :: zs, acc, k, kg, h => by
    refine ⟨hC, ?_⟩
    simp only [rGN]
    refine k z (List.mem_cons_self ..) _ ?_
    cases q : b z with
    | true =>
      refine ite_yes rfl ?_
      refine kg z (List.mem_cons_self ..) q _ ?_
      refine lc_fmC hC zs _ (fun w m => k w (List.mem_cons_of_mem _ m)) (fun w m => kg w (List.mem_cons_of_mem _ m)) ?_
      rw [List.filter_cons_of_pos q] at h
      rw [List.append_assoc]
      exact h
    | false =>
      refine ite_no (by simp) ?_
      refine lc_fmC hC zs _ (fun w m => k w (List.mem_cons_of_mem _ m)) (fun w m => kg w (List.mem_cons_of_mem _ m)) ?_
      rw [List.filter_cons_of_neg (by rw [q]; simp)] at h
      exact h
end L3

/-! ## V52 -/
set_option Elab.async false
set_option linter.all false
set_option maxRecDepth 100000
set_option maxHeartbeats 1000000
/-! within. -/
namespace L3
open PySem NM L2
end L3

/-! ## V37 -/
set_option Elab.async false
set_option linter.all false
set_option maxRecDepth 100000
set_option maxHeartbeats 1000000
/-! Random spots, turns, strokes: finer bounds. -/
namespace L3
open PySem NM L2
local macro_rules | `(tactic| walk_at "d") => `(tactic| (try (simp only [rSeq, rAsg, rRet, rRetN, rDrop, rIf, rNext, rPar, rPar3, rCons, rNil, rStar, rCl, rOp, rUn, rVar, rC, rGN, rTup, rLst, rB, rAnd, rOr, rNot, rIfE, rAndV, rOrV, rNotV, rNever, rFld, rOwn, rMeth, rMakeK, rMakeD, rFldS, rFrz, rSetIx, rMut, rILst, rITup, rIRng1, rIRng2, rFor, rLc, rLcM, rTrue, gt, st, gI, gI0, gU, gIx, gEq, gNe, gAdd, gSub, gMul, gDiv, gMod, gPow, gLt, gLe, gGt, gGe, gIsi, gAbs, gLen, gAll, gIsN, gNotN, gOwn1, gOwn2, isNonD, seqD, res, atI_0, atI_1, atI_2, atI_3, atI_4, List.getElem?_cons_zero, List.getElem?_cons_succ, List.length_cons, List.length_nil, decide_eq_true_eq, List.map_cons, List.map_nil, startD, List.cons_append, List.nil_append, List.replicate, Nat.zero_add, numD, if_true, if_false, Bool.false_eq_true, and_self, true_and, ite_true, ite_false, Nat.reduceAdd, Nat.reduceSub, ln, Nat.reduceLeDiff, fin, String.reduceBEq, Bool.not_true, Bool.not_false, pureN, deq_int, deq_tt, deq_t0, deq_bl, List.all_cons, List.all_nil, Bool.and_true, Bool.true_and, Bool.and_eq_true, List.append_nil, lk_turn, lk_shift, lk_mirrored, lk_key, insD, updM_same, updM_updM, Option.map_some, Option.map_none])))
theorem tiny_i1 {x y : Int} (a1 : -6 ≤ x) (a2 : x ≤ 6) (b1 : -6 ≤ y) (b2 : y ≤ 6) : Tiny ⟨x, y, 1⟩ := ⟨⟨can_i1 x y, by unfold Sz Bt; simp only; omega⟩, a1, a2, b1, b2, by show (1 : Int) ≤ 4; decide⟩
theorem abs_le_mul {k z n : Int} (hk : k ≠ 0) (h1 : -n ≤ k * z) (h2 : k * z ≤ n) : -n ≤ z ∧ z ≤ n := by
  have e : (k * z).natAbs ≤ n.natAbs := by omega
  rw [Int.natAbs_mul] at e
  have k1 : 1 ≤ k.natAbs := by omega
  have : 1 * z.natAbs ≤ k.natAbs * z.natAbs := Nat.mul_le_mul_right _ k1
  omega
theorem low_tiny {x y v : Int} (v0 : 0 < v) (v5 : v < 5) (a1 : -6 ≤ x) (a2 : x ≤ 6) (b1 : -6 ≤ y) (b2 : y ≤ 6) : Tiny (low x y v) := by
  have v0' : v ≠ 0 := by omega
  have f1 : Bt 5 x := by unfold Bt; omega
  have f2 : Bt 5 y := by unfold Bt; omega
  have f3 : Bt 5 v := by unfold Bt; omega
  refine ⟨⟨low_can v0', low_sz v0' f1 f2 f3⟩, ?_⟩
  obtain ⟨k, hk, ex, ey, ed, hp, _⟩ := low_spec (x := x) (y := y) v0'
  obtain ⟨x1, x2⟩ := abs_le_mul (n := 6) hk (by omega) (by omega : k * (low x y v).x ≤ 6)
  obtain ⟨y1, y2⟩ := abs_le_mul (n := 6) hk (by omega) (by omega : k * (low x y v).y ≤ 6)
  obtain ⟨d1, d2⟩ := abs_le_mul (n := 4) hk (by omega) (by omega : k * (low x y v).d ≤ 4)
  exact ⟨x1, x2, y1, y2, d2⟩
theorem vc_law_spotT (Γ : CL) : ∀ ds μ R, sp_law_spotT Γ ds μ R → rd_law_spotT Γ (fin R) (startD 2 ds) μ := by
  rintro ds μ R ⟨g, xs, rfl, hm, hx, h⟩
  unfold rd_law_spotT
  walk_at "d"
  refine ⟨g, 6, xs, rfl, by decide, by decide, hm, hx, fun r ys r0 r1 hy => ?_⟩
  have go : ∀ v : Int, 0 < v → v < 5 → sp_law_below Γ [.ref g, .int 13] (updM μ g (.lst ys)) fun d μ1 => rOp gSub (rCl (fun _ μ R => R d μ) rNil) (rC (.int 6)) [] μ1 fun a μ2 => sp_law_below Γ [.ref g, .int 13] μ2 fun d μ3 => rOp gSub (rCl (fun _ μ R => R d μ) rNil) (rC (.int 6)) [] μ3 fun b μ4 => sp_law_lowest Γ [a, b, .int v] μ4 R := by
    intro v v0 v5
    refine ⟨g, 13, ys, rfl, by decide, by decide, updM_same, hy, fun a ys1 a0 a1 hy1 => ?_⟩
    walk_at "d"
    refine ⟨g, 13, ys1, rfl, by decide, by decide, updM_same, hy1, fun b ys2 b0 b1 hy2 => ?_⟩
    walk_at "d"
    have f1 : Bt 5 (a - 6) := by unfold Bt; omega
    have f2 : Bt 5 (b - 6) := by unfold Bt; omega
    have f3 : Bt 5 v := by unfold Bt; omega
    have v0' : v ≠ 0 := by omega
    refine ⟨v0', f1.mono (by decide), f2.mono (by decide), f3.mono (by decide), ?_⟩
    exact h _ ys2 (low_tiny v0 (by omega) (by omega) (by omega) (by omega) (by omega)) hy2
  have : r = 0 ∨ r = 1 ∨ r = 2 ∨ r = 3 ∨ r = 4 ∨ r = 5 := by omega
  rcases this with rfl | rfl | rfl | rfl | rfl | rfl
  · exact go 1 (by decide) (by decide)
  · exact go 1 (by decide) (by decide)
  · exact go 1 (by decide) (by decide)
  · exact go 2 (by decide) (by decide)
  · exact go 3 (by decide) (by decide)
  · exact go 4 (by decide) (by decide)
theorem stroke_loopT {Γ : CL} {E : Ed} {g : Addr} : ∀ (ds : List D) (s : Stk) (a : Num) (x3 x4 : Option D) (μ : MH) (xs : List D), moves (s ++ [a]) → (∀ z ∈ s ++ [a], Tiny z) → s.length + 1 + ds.length ≤ 4 → μ g = some (.lst xs) → RL xs →
    (∀ s' ys x3 x4, okTn s' → RL ys → E.nx [some (.ref g), some (.int 4), some (strD s'), x3, x4] (updM μ g (.lst ys))) →
    forD (rGN 3) (rSeq (rAsg (rIfE (rB (rOp gGt (rCl (sp_law_below Γ) (rCons (rVar 0) (rCons (rC (.int 6)) rNil))) (rC (.int 0)))) (rCl (sp_law_step Γ) (rCons (rVar 0) (rCons (rC (.int 3)) rNil))) (rCl (sp_law_spotT Γ) (rCons (rVar 0) rNil))) (rGN 4))
 (rIf (rB (rOp gNe (rVar 4) (rOp gIx (rVar 2) (rUn (gU fun i => .int (-i)) (rC (.int 1))))))
 (rAsg (rOp gAdd (rVar 2) (rTup (rCons (rVar 4) rNil))) (rGN 2))
 rNext)) tru E ds [some (.ref g), some (.int 4), some (strD (s ++ [a])), x3, x4] μ
  | [], s, a, x3, x4, μ, xs, hm, hs, hl, hg, hx, h => ⟨trivial, by
    have := h (s ++ [a]) xs x3 x4 ⟨⟨by simp, by rw [List.length_append]; show s.length + 1 ≤ 4; exact hl, hm, fun z hz => (hs z hz).1⟩, hs⟩ hx
    rw [updM_idL hg] at this
    exact this⟩
  | d :: ds, s, a, x3, x4, μ, xs, hm, hs, hl, hg, hx, h => by
    refine ⟨trivial, ?_⟩
    rw [List.length_cons] at hl
    simp only [rGN, st]
    refine seq_g fun N hN => ?_
    have fin' : ∀ z ys, Tiny z → RL ys → N [some (.ref g), some (.int 4), some (strD (s ++ [a])), some d, some (numD z)] (updM μ g (.lst ys)) := by
      intro z ys kz hy
      refine hN _ _ ?_
      clear hN N
      simp only [rIf, rB, rOp, rVar, rUn, rC, gt, gU, strD, gIx_t, atI_lastD, gNe_num]
      by_cases q : z = a
      · rw [decide_eq_true q]
        simp only [Bool.not_true, Bool.false_eq_true, if_false, rNext]
        refine stroke_loopT ds s a _ _ _ ys hm hs (by omega) updM_same hy fun s' ys' x3 x4 k1 k2 => ?_
        rw [updM_updM]
        exact h s' ys' x3 x4 k1 k2
      · rw [decide_eq_false q]
        simp only [Bool.not_false, if_true, rAsg, rOp, rVar, rTup, rCons, rNil, gt]
        refine ⟨by show 1 ≤ 2 ^ 24; decide, ?_⟩
        refine gAdd_tt (by rw [List.length_map, List.length_append]; show s.length + 1 + 1 ≤ 2 ^ 24; omega) ?_
        simp only [rGN, st]
        have e : (s ++ [a]).map numD ++ [numD z] = ((s ++ [a]) ++ [z]).map numD := by simp
        rw [e]
        refine stroke_loopT ds (s ++ [a]) z _ _ _ ys (moves_snoc hm (fun e => q e.symm)) (fun w hw => ?_) (by rw [List.length_append]; show s.length + 1 + 1 + ds.length ≤ 4; omega) updM_same hy fun s' ys' x3 x4 k1 k2 => ?_
        · rcases List.mem_append.mp hw with hw | hw
          · exact hs w hw
          · rcases List.mem_cons.mp hw with rfl | hw
            · exact kz
            · exact nomatch hw
        · rw [updM_updM]
          exact h s' ys' x3 x4 k1 k2
    simp only [rAsg, rIfE, rB, rOp, rCl, rCons, rVar, rC, rNil, gt, rGN, st, gGt, gI0]
    refine ⟨g, 6, xs, rfl, by decide, by decide, hg, hx, fun r ys r0 r1 hy => ?_⟩
    by_cases q : 0 < r
    · refine ite_yes (decide_eq_true q) ?_
      refine ⟨g, 3, ys, rfl, by decide, by decide, updM_same, hy, fun x y ys2 a1 a2 b1 b2 hy2 => ?_⟩
      rw [updM_updM]
      exact fin' _ _ (tiny_i1 (by omega) (by omega) (by omega) (by omega)) hy2
    · refine ite_no (by rw [decide_eq_false q]; simp) ?_
      refine ⟨g, ys, rfl, updM_same, hy, fun z ys2 kz hy2 => ?_⟩
      rw [updM_updM]
      exact fin' _ _ kz hy2
theorem vc_law_strokeT (Γ : CL) : ∀ ds μ R, sp_law_strokeT Γ ds μ R → rd_law_strokeT Γ (fin R) (startD 5 ds) μ := by
  rintro ds μ R ⟨g, xs, rfl, hm, hx, h⟩
  unfold rd_law_strokeT
  rw [show startD 5 [.ref g, .int 4] = [some (.ref g), some (.int 4), none, none, none] from rfl]
  refine seq_g fun N hN => ?_
  simp only [rAsg, rTup, rCl, rCons, rVar, rC, rNil, gt]
  refine ⟨g, 3, xs, rfl, by decide, by decide, hm, hx, fun x y ys a1 a2 b1 b2 hy => ?_⟩
  refine ⟨by show 1 ≤ 2 ^ 24; decide, ?_⟩
  simp only [rGN, st]
  refine hN _ _ ?_
  clear hN N
  refine seq_g fun N hN => ?_
  simp only [rFor, rIRng1, rCl, rCons, rVar, rNil, gt]
  refine ⟨g, 4, ys, rfl, by decide, by decide, updM_same, hy, fun r zs r0 r1 hz => ?_⟩
  refine ⟨by unfold inR; omega, ?_⟩
  rw [updM_updM]
  refine stroke_loopT (rangeD 0 r.toNat) [] ⟨x, y, 1⟩ none none _ zs trivial (fun w hw => ?_) (by rw [rangeD_len]; show 0 + 1 + r.toNat ≤ 4; omega) updM_same hz fun s' ws x3 x4 k hw => ?_
  · rcases List.mem_cons.mp hw with rfl | hw
    · exact tiny_i1 (by omega) (by omega) (by omega) (by omega)
    · exact nomatch hw
  · refine hN _ _ ?_
    simp only [rRet, rVar, gt]
    rw [updM_updM]
    exact h s' ws k hw
theorem strokes_lcT {Γ : CL} {s1 s2 : Option D} {g : Addr} {R : List D → MH → Prop} : ∀ (ds : List D) (acc : List Stk) (μ : MH) (xs : List D), μ g = some (.lst xs) → RL xs →
    (∀ ss ys, ss.length = ds.length → (∀ s ∈ ss, okTn s) → RL ys → R ((acc ++ ss).map strD) (updM μ g (.lst ys))) → lcD (rGN 2) rTrue (rCl (sp_law_strokeT Γ) (rCons (rVar 0) (rCons (rC (.int 4)) rNil))) tru [some (.ref g), s1, s2] ds (acc.map strD) μ R
  | [], acc, μ, xs, hm, hx, h => by
    refine ⟨trivial, ?_⟩
    have := h [] xs rfl (by simp) hx
    rw [List.append_nil, updM_idL hm] at this
    exact this
  | d :: ds, acc, μ, xs, hm, hx, h => by
    refine ⟨trivial, ?_⟩
    simp only [rGN, st, rTrue, if_true, rCl, rCons, rVar, rC, rNil, gt]
    refine ⟨g, xs, rfl, hm, hx, fun a ys ka hy => ?_⟩
    have e : acc.map strD ++ [strD a] = (acc ++ [a]).map strD := by simp
    show lcD _ _ _ _ _ _ (acc.map strD ++ [strD a]) _ _
    rw [e]
    refine strokes_lcT ds (acc ++ [a]) _ ys updM_same hy fun as ys2 hl ha hy2 => ?_
    rw [updM_updM]
    have := h (a :: as) ys2 (by simp [hl]) (by
      intro w hw
      rcases List.mem_cons.mp hw with rfl | hw
      · exact ka
      · exact ha w hw) hy2
    rw [List.append_assoc]
    exact this
theorem vc_law_strokesT (Γ : CL) : ∀ ds μ R, sp_law_strokesT Γ ds μ R → rd_law_strokesT Γ (fin R) (startD 3 ds) μ := by
  rintro ds μ R ⟨g, n, xs, rfl, n0, n1, hm, hx, h⟩
  unfold rd_law_strokesT
  rw [show startD 3 [.ref g, .int n] = [some (.ref g), some (.int n), none] from rfl]
  simp only [rRet, rCl, rCons, rLc, rIRng1, rOp, rVar, rC, rNil, gt, gAdd]
  refine ⟨g, n + 1, xs, rfl, by omega, by omega, hm, hx, fun r ys r0 r1 hy => ?_⟩
  refine ⟨by unfold inR; omega, by rw [rangeD_len]; show _ ≤ 2 ^ 24; omega, ?_⟩
  simp only [rms, rm]
  refine strokes_lcT (rangeD 0 r.toNat) [] _ ys updM_same hy fun ss zs hl ks hz => ?_
  simp only [List.nil_append, gTuple, res]
  rw [updM_updM]
  rw [rangeD_len] at hl
  exact h ss zs (by omega) ks hz
end L3

/-! ## V53 -/
set_option Elab.async false
set_option linter.all false
set_option maxRecDepth 100000
set_option maxHeartbeats 1000000
/-! Random strokes are not too large for common. -/
namespace L3
open PySem NM L2
open Ink (Pl Sg Ky Q2 qP keyI onK KyOk ltI leI minI maxI linesI partsI covI lieI inkLines inkDots)
/-- an ink has not more dots and lines than there are strokes and parts -/
theorem ink_len {N : Int} {ss : List Stk} (k : okI N ss) : (inkS ss).lines.length ≤ (ss.flatMap segs).length ∧ (inkS ss).dots.length ≤ ss.length := by
  rw [inkS_of k.okS.ink]
  constructor
  · show ((Ink.inkLines (plsI N ss)).map _).length ≤ _
    rw [List.length_map]
    unfold Ink.inkLines
    rw [List.length_mergeSort]
    have := flat_len (S := N) ss
    unfold flatL at this
    rw [List.length_flatMap] at this ⊢
    simp only [List.length_map] at this
    exact this
  · show ((Ink.inkDots (plsI N ss)).map _).length ≤ _
    rw [List.length_map]
    unfold Ink.inkDots Ink.dotsI
    rw [List.length_mergeSort]
    have go : ∀ (L : List (Ky × List Sg)) (xs : List (List Pl)) (acc : List Pl), (xs.foldl (Ink.putDot L) acc).length ≤ acc.length + xs.length := by
      intro L xs
      induction xs with
      | nil => intro acc; exact Nat.le_refl _
      | cons x xs ih =>
        intro acc
        have h1 := ih (Ink.putDot L acc x)
        have h2 : (Ink.putDot L acc x).length ≤ acc.length + 1 := by
          unfold Ink.putDot
          repeat' split
          all_goals simp
        rw [List.foldl_cons, List.length_cons]
        omega
    have := go (Ink.linesI (plsI N ss)) (plsI N ss) []
    have e : (plsI N ss).length = ss.length := List.length_map ..
    rw [e] at this
    simpa using this
theorem tiny_12 {z : Num} (t : Tiny z) : z.d ∣ 12 := by
  have p := t.1.1.1
  have q := t.2.2.2.2.2
  have : z.d = 1 ∨ z.d = 2 ∨ z.d = 3 ∨ z.d = 4 := by omega
  rcases this with e | e | e | e <;> rw [e] <;> decide
theorem okI_tiny {ss : List Stk} (hl : ss.length ≤ 500) (h : ∀ s ∈ ss, okTn s) : okI 12 ss := ⟨by decide, Bt.mono (n := 4) (by show (12 : Int).natAbs < 2 ^ 4; decide) (by decide), hl, fun s hs => ⟨(h s hs).1.1, by have := (h s hs).1.2.1; omega, (h s hs).1.2.2.1⟩, fun s hs z hz => ⟨((h s hs).2 z hz).1.1, ((h s hs).2 z hz).1.2.mono (by decide), tiny_12 ((h s hs).2 z hz)⟩⟩
/-- at most three parts each -/
theorem parts_3 : ∀ {ss : List Stk}, (∀ s ∈ ss, okTn s) → (ss.flatMap segs).length ≤ 3 * ss.length
  | [], _ => Nat.le_refl _
  | s :: ss, h => by
    have ih := parts_3 fun t ht => h t (List.mem_cons_of_mem _ ht)
    have := (h s (List.mem_cons_self ..)).1.2.1
    rw [List.flatMap_cons, List.length_append, List.length_cons, segs_len]
    omega
end L3

/-! ## V12 -/
set_option Elab.async false
set_option linter.all false
set_option maxRecDepth 100000
set_option maxHeartbeats 1000000
/-! Codes. -/
namespace L3
open PySem NM L2
/-! ### digits -/
/-! ### sums -/
end L3

/-! ## V13 -/
set_option Elab.async false
set_option linter.all false
set_option maxRecDepth 100000
set_option maxHeartbeats 1000000
/-! Codes written and read. -/
namespace L3
open PySem NM L2
/-! ### the law's code -/
structure Acc (μ0 μ : MH) (p : Addr) (pre : List Int) : Prop where
  ext : Ext μ0 μ
  new : μ0 p = none
  at_ : μ p = some (.lst (intsD pre))
theorem Ext.fresh {μ μ1 : MH} {p : Addr} (h : Ext μ μ1) (hp : μ1 p = none) : μ p = none := by
  cases q : μ p with
  | none => rfl
  | some m => rw [h p m q] at hp; cases hp
theorem Acc.put {μ0 μ : MH} {p : Addr} {pre : List Int} (a : Acc μ0 μ p pre) (l : List Int) : Acc μ0 (updM μ p (.lst (intsD l))) p l := ⟨a.ext.upd a.new, a.new, updM_same⟩
theorem Acc.take {μ0 μ : MH} {p q : Addr} {pre : List Int} (a : Acc μ0 μ p pre) (hq : μ q = none) (l : List Int) : Acc μ0 (updM μ q (.lst (intsD l))) q l := ⟨a.ext.upd (a.ext.fresh hq), a.ext.fresh hq, updM_same⟩
end L3

/-! ## V14 -/
set_option Elab.async false
set_option linter.all false
set_option maxRecDepth 100000
set_option maxHeartbeats 1000000
/-! Codes read. -/
namespace L3
open PySem NM L2
theorem insD_at {μ : MH} {a C : Addr} {fs : List (Str × D)} (h : μ a = some (.ins C fs)) : insD μ (.ref a) = some (C, fs) := by
  unfold insD
  simp only [h]
end L3

/-! ## V15 -/
set_option Elab.async false
set_option linter.all false
set_option maxRecDepth 100000
set_option maxHeartbeats 1000000
/-! Codes read: whole. -/
namespace L3
open PySem NM L2
/-- the reader at x, the strokes at y, both new -/
structure Rd (Γ : CL) (μ0 μ : MH) (x y : Addr) (l : List Int) (k : Nat) (done : List Stk) : Prop where
  ext : Ext μ0 μ
  nx : μ0 x = none
  ny : μ0 y = none
  ne : x ≠ y
  rx : μ x = some (rdO Γ l k)
  ry : μ y = some (.lst (done.map strD))
theorem Rd.go {Γ : CL} {μ0 μ : MH} {x y : Addr} {l : List Int} {k : Nat} {done : List Stk} (r : Rd Γ μ0 μ x y l k done) (j : Nat) : Rd Γ μ0 (updM μ x (rdO Γ l j)) x y l j done :=
  ⟨r.ext.upd r.nx, r.nx, r.ny, r.ne, updM_same, by rw [updM_ne r.ne.symm]; exact r.ry⟩
theorem Rd.put {Γ : CL} {μ0 μ : MH} {x y : Addr} {l : List Int} {k : Nat} {done : List Stk} (r : Rd Γ μ0 μ x y l k done) (more : List Stk) : Rd Γ μ0 (updM μ y (.lst (more.map strD))) x y l k more :=
  ⟨r.ext.upd r.ny, r.nx, r.ny, r.ne, by rw [updM_ne r.ne]; exact r.rx, updM_same⟩
theorem Rd.ins {Γ : CL} {μ0 μ : MH} {x y : Addr} {l : List Int} {k : Nat} {done : List Stk} (r : Rd Γ μ0 μ x y l k done) : insD μ (.ref x) = some (Γ.Reader, rdFs l k) := insD_at r.rx
end L3

/-! ## V16 -/
set_option Elab.async false
set_option linter.all false
set_option maxRecDepth 100000
set_option maxHeartbeats 1000000
/-! Rules about drawings and codes for the laws. -/
namespace L3
open PySem NM L2
section
variable {Γ : CL} {μ : MH} {Q : D → MH → Prop} {as bs ss : List Stk}
end
/-! ### a code tells its drawing -/
end L3

/-! ## V54 -/
set_option Elab.async false
set_option linter.all false
set_option maxRecDepth 100000
set_option maxHeartbeats 1000000
/-! Inks told as strokes; drawings whose lines go in small directions. -/
namespace L3
open PySem NM L2
open Ink (Pl Sg Ky Q2 qP keyI)
/-- an ink as strokes -/
def toldS (I : Inkd) : List Stk := I.lines.map (fun l => [l.1, l.2]) ++ I.dots.map fun z => [z]
theorem told_len (I : Inkd) : (toldS I).length = I.lines.length + I.dots.length := by
  unfold toldS
  rw [List.length_append, List.length_map, List.length_map]
theorem told_mem {I : Inkd} {s : Stk} (h : s ∈ toldS I) : (∃ l ∈ I.lines, s = [l.1, l.2]) ∨ ∃ z ∈ I.dots, s = [z] := by
  rcases List.mem_append.mp h with h | h
  · obtain ⟨l, hl, rfl⟩ := List.mem_map.mp h
    exact .inl ⟨l, hl, rfl⟩
  · obtain ⟨z, hz, rfl⟩ := List.mem_map.mp h
    exact .inr ⟨z, hz, rfl⟩
theorem told_cov {C : Q2 → Prop} {I : Inkd} (h : IsInk C I) (p : Q2) : covS (toldS I) p ↔ C p := by
  rw [← h.cov p]
  constructor
  · rintro ⟨s, hs, q⟩
    rcases told_mem hs with ⟨l, hl, rfl⟩ | ⟨z, hz, rfl⟩
    · rcases q with ⟨z, e, _⟩ | ⟨y, hy, q⟩
      · cases e
      · have : y = (l.1, l.2) := by simpa [segs] using hy
        subst this
        have m : numL l ∈ I.lines.map numL := List.mem_map.mpr ⟨l, hl, rfl⟩
        have lt := h.nf.asc _ m
        refine .inr ⟨numL l, m, q.1, ?_⟩
        rcases q.2 with w | w
        · exact w
        · exfalso
          exact Ink.lt_irrefl (Ink.lt_le lt (Ink.le_trans w.1 w.2))
    · rcases q with ⟨w, e, rfl⟩ | ⟨y, hy, q⟩
      · cases e
        exact .inl (List.mem_map.mpr ⟨z, hz, rfl⟩)
      · cases hy
  · rintro (m | ⟨l, m, q⟩)
    · obtain ⟨z, hz, rfl⟩ := List.mem_map.mp m
      exact ⟨[z], List.mem_append_right _ (List.mem_map.mpr ⟨z, hz, rfl⟩), .inl ⟨z, rfl, rfl⟩⟩
    · obtain ⟨l, hl, rfl⟩ := List.mem_map.mp m
      exact ⟨[l.1, l.2], List.mem_append_left _ (List.mem_map.mpr ⟨l, hl, rfl⟩), .inr ⟨(l.1, l.2), by simp [segs], q.1, .inl q.2⟩⟩
/-- a told drawing: its dots are of p bits, its lines end in tiny spots -/
structure okTl (p : Nat) (ss : List Stk) : Prop where
  st : ∀ s ∈ ss, 1 ≤ s.length ∧ s.length ≤ 2 ∧ moves s
  can : ∀ s ∈ ss, ∀ z ∈ s, Can z ∧ Sz p z
  en : ∀ s ∈ ss, s.length = 2 → ∀ z ∈ s, Tiny z
/-- a tiny stroke, or one of a told drawing -/
def okMx (p : Nat) (s : Stk) : Prop := okTn s ∨ (1 ≤ s.length ∧ s.length ≤ 2 ∧ moves s ∧ (∀ z ∈ s, Can z ∧ Sz p z) ∧ (s.length = 2 → ∀ z ∈ s, Tiny z))
theorem Tiny.sz {z : Num} (t : Tiny z) : Sz 3 z := by
  have d0 := t.1.1.1
  obtain ⟨_, a, b, c, d, e⟩ := t
  unfold Sz Bt
  omega
theorem okTl.mx {p : Nat} {ss : List Stk} (h : okTl p ss) : ∀ s ∈ ss, okMx p s := fun s hs => .inr ⟨(h.st s hs).1, (h.st s hs).2.1, (h.st s hs).2.2, h.can s hs, h.en s hs⟩
theorem okMx.st {p : Nat} {s : Stk} (h : okMx p s) (p3 : 3 ≤ p) : 1 ≤ s.length ∧ s.length ≤ 4 ∧ moves s ∧ ∀ z ∈ s, Can z ∧ Sz p z := by
  rcases h with h | ⟨a, b, c, d, _⟩
  · exact ⟨h.1.1, h.1.2.1, h.1.2.2.1, fun z hz => ⟨(h.2 z hz).1.1, (h.2 z hz).sz.mono p3⟩⟩
  · exact ⟨a, by omega, c, d⟩
theorem one_sum : ∀ (ss : List Stk), ((ss.filter fun s => s.length == 1).map List.length).sum ≤ ss.length
  | [] => Nat.le_refl _
  | s :: ss => by
    have ih := one_sum ss
    by_cases h : (s.length == 1) = true
    · rw [List.filter_cons_of_pos (p := fun s : Stk => s.length == 1) h, List.map_cons, List.sum_cons, List.length_cons]
      have : s.length = 1 := by simpa using h
      omega
    · rw [List.filter_cons_of_neg (p := fun s : Stk => s.length == 1) h, List.length_cons]
      omega
theorem okI_mix {p : Nat} {ss : List Stk} (h : ∀ s ∈ ss, okMx p s) (p3 : 3 ≤ p) (hl : ss.length ≤ 24) (h0 : p * 24 ≤ 1400) : ∃ N, okI N ss ∧ Bt (4 + p * 24) N := by
  obtain ⟨p1, p2, p3', p4⟩ := prod_all (ss.filter fun s => s.length == 1) 12 4 (by decide) (by show (12 : Int).natAbs < 2 ^ 4; decide) p fun s hs z hz => by
    obtain ⟨m, _⟩ := List.mem_filter.mp hs
    have := ((h s m).st p3).2.2.2 z hz
    exact ⟨this.1, this.2.2.2⟩
  have sm := one_sum ss
  have mm : p * ((ss.filter fun s => s.length == 1).map List.length).sum ≤ p * 24 := Nat.mul_le_mul_left _ (by omega)
  generalize (ss.filter fun s => s.length == 1).foldl (fun a s => s.foldl (fun b z => b * z.d) a) 12 = N at *
  refine ⟨N, ⟨p1, p2.mono (by omega), by omega, fun s hs => ?_, fun s hs z hz => ?_⟩, p2.mono (by omega)⟩
  · obtain ⟨a, b, c, _⟩ := (h s hs).st p3
    exact ⟨a, by omega, c⟩
  · obtain ⟨_, _, _, d⟩ := (h s hs).st p3
    refine ⟨(d z hz).1, (d z hz).2.mono (by omega), ?_⟩
    rcases h s hs with k | ⟨a, b, c, _, e⟩
    · exact Int.dvd_trans (tiny_12 (k.2 z hz)) p3'
    · by_cases l2 : s.length = 2
      · exact Int.dvd_trans (tiny_12 (e l2 z hz)) p3'
      · exact p4 s (List.mem_filter.mpr ⟨hs, by rw [beq_iff_eq]; omega⟩) z hz
theorem okMx.dr {p : Nat} {ss : List Stk} (h : ∀ s ∈ ss, okMx p s) (p3 : 3 ≤ p) (hl : ss.length ≤ 12) : okDr p ss := ⟨hl, fun s hs => ⟨((h s hs).st p3).1, by have := ((h s hs).st p3).2.1; omega, ((h s hs).st p3).2.2.1, ((h s hs).st p3).2.2.2⟩⟩
theorem okMx.tn {p : Nat} {ss : List Stk} (h : ∀ s ∈ ss, okTn s) : ∀ s ∈ ss, okMx p s := fun s hs => .inl (h s hs)
end L3

/-! ## V55 -/
set_option Elab.async false
set_option linter.all false
set_option maxRecDepth 100000
set_option maxHeartbeats 1000000
/-! Rules for laws about what is covered. -/
namespace L3
open PySem NM L2
open Ink (Pl Sg Ky Q2 qP keyI)
theorem okq_ink {I : Inkd} (h1 : I.lines.length ≤ 10000) (h2 : I.dots.length ≤ 10000) : okq 4 (inkD I) = true := by
  show (decide (2 ≤ 1000000) && ((decide ((I.dots.map numD).length ≤ 1000000) && (I.dots.map numD).all (okq 2)) && ((decide ((I.lines.map pairD).length ≤ 1000000) && (I.lines.map pairD).all (okq 2)) && true))) = true
  have a1 : (I.dots.map numD).all (okq 2) = true := by
    rw [List.all_eq_true]
    intro d hd
    obtain ⟨z, _, rfl⟩ := List.mem_map.mp hd
    rfl
  have a2 : (I.lines.map pairD).all (okq 2) = true := by
    rw [List.all_eq_true]
    intro d hd
    obtain ⟨z, _, rfl⟩ := List.mem_map.mp hd
    rfl
  rw [a1, a2, List.length_map, List.length_map, decide_eq_true (show I.dots.length ≤ 1000000 by omega), decide_eq_true (show I.lines.length ≤ 1000000 by omega)]
  rfl
section
variable {Γ : CL} {μ : MH} {Q : D → MH → Prop} {as bs : List Stk} {N M : Int} {n m e c : Nat}
open Classical in
theorem lcov_i {z : Num} (k : okL3 as) (kz : okZ3 z) (q : Q (.bl (decide (covS as (numQ z)))) μ) : sp_law_covers Γ [strsD as, numD z] μ Q := ⟨as, z, rfl, k, kz, by
  have e : coversB as z = decide (covS as (numQ z)) := by
    rw [Bool.eq_iff_iff, decide_eq_true_iff]
    exact covers_iff (fun s hs => ⟨(k.2 s hs).1, fun w hw => ((k.2 s hs).2.2 w hw).1⟩) kz.1
  rw [e]
  exact q⟩
theorem okL3_tn (h : ∀ s ∈ as, okTn s) (hl : as.length ≤ 1000) : okL3 as := ⟨hl, fun s hs => ⟨(h s hs).1.1, by have := (h s hs).1.2.1; omega, fun z hz => ⟨((h s hs).2 z hz).1.1, ((h s hs).2 z hz).sz.mono (by decide)⟩⟩⟩
theorem okL3_tl {p : Nat} (h : okTl p as) (hl : as.length ≤ 1000) (hp : p ≤ 300) : okL3 as := ⟨hl, fun s hs => ⟨(h.st s hs).1, by have := (h.st s hs).2.1; omega, fun z hz => ⟨(h.can s hs z hz).1, (h.can s hs z hz).2.mono hp⟩⟩⟩
theorem draw_i (k : okDr big as) (q : Q (drawD Γ as) μ) : sp_law_drawing Γ [strsD as] μ Q := ⟨as, rfl, k, q⟩
theorem okDr_tn {ss : List Stk} (h : ∀ s ∈ ss, okTn s) (hl : ss.length ≤ 12) : okDr big ss := ⟨hl, fun s hs => ⟨(h s hs).1.1, by have := (h s hs).1.2.1; omega, (h s hs).1.2.2.1, fun z hz => ⟨((h s hs).2 z hz).1.1, ((h s hs).2 z hz).sz.mono (by decide)⟩⟩⟩
theorem okI_tl {p : Nat} {ss : List Stk} (h : okTl p ss) (p3 : 3 ≤ p) (pp : p ≤ 56) (hl : ss.length ≤ 24) : ∃ N, okI N ss := by
  obtain ⟨N, k, _⟩ := okI_mix h.mx p3 hl (by omega)
  exact ⟨N, k⟩
theorem strokesT_i {g : Addr} {n : Int} {xs : List D} (n0 : 0 ≤ n) (n1 : n ≤ 20) (hm : μ g = some (.lst xs)) (hx : RL xs) (h : ∀ (ss : List Stk) ys, (ss.length : Int) ≤ n → (∀ s ∈ ss, okTn s) → RL ys → Q (strsD ss) (updM μ g (.lst ys))) : sp_law_strokesT Γ [.ref g, .int n] μ Q := ⟨g, n, xs, rfl, n0, n1, hm, hx, h⟩
end
end L3

/-! ## V59 -/
set_option Elab.async false
set_option linter.all false
set_option maxRecDepth 100000
set_option maxHeartbeats 1000000
/-! What two random drawings share, told. -/
namespace L3
open PySem NM L2
open Ink (Q2 Pl Sg Ky)
/-- what is known of a told ink -/
structure Ti (C : Q2 → Prop) (I : Inkd) : Prop where
  is : IsInk C I
  tl : okTl 25 (toldS I)
  ll : I.lines.length ≤ 500 ∧ I.dots.length ≤ 500
theorem Ti.ok {C : Q2 → Prop} {I : Inkd} (t : Ti C I) (h : (toldS I).length ≤ 24) : ∃ N, okI N (toldS I) := okI_tl t.tl (by decide) (by decide) h
theorem Ti.dr {C : Q2 → Prop} {I : Inkd} (t : Ti C I) (h : (toldS I).length ≤ 12) : okDr big (toldS I) := ⟨h, fun s hs => ⟨(t.tl.st s hs).1, by have := (t.tl.st s hs).2.1; omega, (t.tl.st s hs).2.2, fun z hz => ⟨(t.tl.can s hs z hz).1, (t.tl.can s hs z hz).2.mono (by decide)⟩⟩⟩
theorem Ti.cov {C : Q2 → Prop} {I : Inkd} (t : Ti C I) (P : Q2) : covS (toldS I) P ↔ C P := told_cov t.is P
theorem Ti.okq {C : Q2 → Prop} {I : Inkd} (t : Ti C I) : okq 4 (inkD I) = true := okq_ink (by have := t.ll.1; omega) (by have := t.ll.2; omega)
theorem Ti.l3 {C : Q2 → Prop} {I : Inkd} (t : Ti C I) : okL3 (toldS I) := okL3_tl t.tl (by rw [told_len]; have := t.ll; omega) (by decide)
end L3
namespace L3
open PySem NM L2
open Ink (Q2 Pl Sg Ky)
end L3

/-! ## V61 -/
set_option Elab.async false
set_option linter.all false
set_option maxRecDepth 100000
set_option maxHeartbeats 1000000
/-! Pictures. -/
namespace L3
open PySem PySem.Spec PySem.Calls PyProof.Rows L2 NM
open Ink (Pl Sg Ky Q2 qP)
theorem join_len (a : Str) (ys : List Str) : (TL.tl (Txt.join a ys)).length ≤ (ys.map fun y => (TL.tl y).length).sum + ys.length * (TL.tl a).length := by
  rw [TL.join_eq, TL.tl_join]
  induction ys with
  | nil => exact Nat.zero_le _
  | cons y r ih =>
    cases r with
    | nil =>
      show (TL.tl y).length ≤ _
      simp
    | cons z r =>
      show (TL.tl y ++ (TL.tl a ++ TL.joinL (TL.tl a) ((z :: r).map TL.tl))).length ≤ _
      have e1 : ((y :: z :: r).map fun y => (TL.tl y).length).sum = (TL.tl y).length + ((z :: r).map fun y => (TL.tl y).length).sum := List.sum_cons
      have e2 : (y :: z :: r).length * (TL.tl a).length = (z :: r).length * (TL.tl a).length + (TL.tl a).length := by rw [List.length_cons, Nat.add_mul, Nat.one_mul]
      rw [List.length_append, List.length_append, e1, e2]
      generalize (TL.joinL (TL.tl a) ((z :: r).map TL.tl)).length = J at *
      omega
theorem tl_len (y : Str) : (TL.tl y).length = y.length := by
  show y.cps.toList.length = y.cps.size
  simp
theorem pix_len (ss : List Stk) (x y : Int) : (TL.tl (pixS ss x y)).length = 1 := by
  unfold pixS
  split <;> rfl
theorem side_len {n : Int} (h0 : 0 ≤ n) (h : n ≤ 20) : (sideL n).length ≤ 41 := by
  unfold sideL
  rw [intsL_len]
  omega
theorem row_len {ss : List Stk} {n y : Int} (h0 : 0 ≤ n) (h : n ≤ 20) : (rowS ss n y).length ≤ 100 := by
  rw [← tl_len]
  unfold rowS
  refine Nat.le_trans (join_len _ _) ?_
  rw [List.map_map, show ((fun y => (TL.tl y).length) ∘ fun x => pixS ss x y) = fun _ => 1 from by funext x; exact pix_len ss x y]
  have l := side_len h0 h
  have e : ((sideL n).map fun _ => 1).sum = (sideL n).length := by
    generalize sideL n = l
    induction l with
    | nil => rfl
    | cons a r ih => rw [List.map_cons, List.sum_cons, ih, List.length_cons]; omega
  rw [e, List.length_map]
  show (sideL n).length + (sideL n).length * 0 ≤ 100
  omega
theorem deq_pl (a b : Pl) : deq (plD a) (plD b) = decide (a = b) := by
  show deq (.tup [.int a.1, .int a.2]) (.tup [.int b.1, .int b.2]) = _
  rw [deq_tt, deq_tt, deq_t0, deq_int, deq_int, Bool.and_true, Bool.eq_iff_iff, decide_eq_true_iff, Bool.and_eq_true, beq_iff_eq, beq_iff_eq, Prod.ext_iff]
def hdP (s : List Pl) : Pl := s.headD (0, 0)
def dotsP (pl : List (List Pl)) : List Pl := (pl.filter fun s => s.length == 1).map hdP
theorem mem_dotsP {pl : List (List Pl)} {p : Pl} : p ∈ dotsP pl ↔ [p] ∈ pl := by
  unfold dotsP
  rw [List.mem_map]
  constructor
  · rintro ⟨s, hs, rfl⟩
    obtain ⟨h1, h2⟩ := List.mem_filter.mp hs
    have l : s.length = 1 := by simpa using h2
    cases s with
    | nil => simp at l
    | cons a r => cases r with
      | nil => exact h1
      | cons _ _ => simp at l
  · intro h
    exact ⟨[p], List.mem_filter.mpr ⟨h, by simp⟩, rfl⟩
open Classical in
theorem grid_cov {S : Int} {ss : List Stk} (kS : okS S ss) (x y : Int) : ((dotsP (plsI S ss)).any fun q => decide (q = (x * S, y * S))) = true ∨ Ink.lieI (x * S, y * S) (Ink.linesI (plsI S ss)) = true ↔ covS ss ((x : Rat), (y : Rat)) := by
  have n2 : (S : Rat) ≠ 0 := cast_ne (by have := kS.pos; omega)
  have eq : qP S (x * S, y * S) = ((x : Rat), (y : Rat)) := by
    unfold Ink.qP
    refine Prod.ext ?_ ?_
    · show ((x * S : Int) : Rat) / (S : Rat) = x
      rw [Rat.intCast_mul]
      grind
    · show ((y * S : Int) : Rat) / (S : Rat) = y
      rw [Rat.intCast_mul]
      grind
  rw [← kS.cov, cov_or kS.pos kS.ne, lie_flat kS.pos kS.ne, eq]
  constructor
  · rintro (h | h)
    · obtain ⟨q, hq, e⟩ := List.any_eq_true.mp h
      have e : q = (x * S, y * S) := by simpa using e
      subst e
      exact .inl ⟨_, mem_dotsP.mp hq, eq.symm⟩
    · exact .inr h
  · rintro (⟨p, hp, e⟩ | h)
    · refine .inl (List.any_eq_true.mpr ⟨p, mem_dotsP.mpr hp, ?_⟩)
      rw [decide_eq_true_iff]
      exact Ink.qP_inj kS.pos (by rw [← e, eq])
    · exact .inr h
theorem fn_bts (x : Int) (h1 : -20 ≤ x) (h2 : x ≤ 20) : Bt 5 x := by unfold Bt; omega
open Classical in
/-- one row after another -/
theorem pic_loop {Γ : CL} {E : Ed} {ss : List Stk} {S n : Int} {a p : Addr} {o : Obj} {s0 s1 s3 s6 : Option D} (kS : okS S ss) (bS : Bt 6000 S) (okL : okLn (Ink.linesI (plsI S ss))) (n0 : 0 ≤ n) (n20 : n ≤ 20) (ne : p ≠ a) :
    ∀ (ys : List Int) (acc : List Str) (μ : MH) (s9 s10 s11 s12 : Option D), (∀ y ∈ ys, -20 ≤ y ∧ y ≤ 20) → acc.length + ys.length ≤ 100 → μ a = some (.dct o (lnsD (Ink.linesI (plsI S ss)))) → μ p = some (.lst (acc.map D.str)) →
      (∀ μ' s9 s10 s11 s12, μ' a = some (.dct o (lnsD (Ink.linesI (plsI S ss)))) → μ' p = some (.lst ((acc ++ ys.map (rowS ss n)).map D.str)) → (∀ b, b ≠ p → μ' b = μ b) → E.nx [s0, s1, some (.int S), s3, some (.ref a), some (.lst ((dotsP (plsI S ss)).map plD)), s6, some (.ref p), some (.lst ((sideL n).map D.int)), s9, s10, s11, s12] μ') →
      forD (rGN 9) (rSeq (rAsg (rLc (rILst (rVar 8)) (rGN 11) rTrue (rOrV (rOp gIn (rTup (rCons (rOp gMul (rVar 11) (rVar 2)) (rCons (rOp gMul (rVar 9) (rVar 2)) rNil))) (rVar 5)) (rCl (sp_lies_on Γ) (rCons (rTup (rCons (rOp gMul (rVar 11) (rVar 2)) (rCons (rOp gMul (rVar 9) (rVar 2)) rNil))) (rCons (rVar 4) rNil)))) [11]) (rGN 10))
 (rDrop (rMut (rVar 7) (rCons (rJoin (rC (.str "")) (rLc (rILst (rVar 10)) (rGN 12) rTrue (rIfE (rB (rVar 12)) (rC (.str "#")) (rC (.str "."))) [12])) rNil) gAppend))) tru E (ys.map D.int) [s0, s1, some (.int S), s3, some (.ref a), some (.lst ((dotsP (plsI S ss)).map plD)), s6, some (.ref p), some (.lst ((sideL n).map D.int)), s9, s10, s11, s12] μ
  | [], acc, μ, s9, s10, s11, s12, _, _, ha, hp, h => ⟨trivial, h μ _ _ _ _ ha (by simpa using hp) fun _ _ => rfl⟩
  | y :: ys, acc, μ, s9, s10, s11, s12, hy, hl, ha, hp, h => by
    have y1 := hy y (List.mem_cons_self ..)
    rw [List.length_cons] at hl
    refine ⟨trivial, ?_⟩
    simp only [rGN, st]
    refine seq_g fun N hN => ?_
    simp only [rAsg, rLc, rILst, rVar, gt, rms, rm]
    have sl := side_len n0 n20
    refine ⟨by rw [List.length_map]; show _ ≤ 2 ^ 24; omega, ?_⟩
    refine lcD_gen (C := tru) trivial (sideL n) D.int (fun x : Int => .bl (decide (covS ss ((x : Rat), (y : Rat))))) (fun x hx Q w => ?_) ?_
    · have x1 : -20 ≤ x ∧ x ≤ 20 := by
        unfold sideL at hx
        have := intsL_mem.mp hx
        omega
      have bx := fn_bts x x1.1 x1.2
      have by_ := fn_bts y y1.1 y1.2
      have cx : CBig x S := ⟨bx.mono (by decide), bS.mono (by decide)⟩
      have cy : CBig y S := ⟨by_.mono (by decide), bS.mono (by decide)⟩
      simp only [rOrV, rOp, rTup, rCl, rCons, rNil, rVar, gt, st, gMul, gI]
      refine ⟨cx, cy, by show 2 ≤ 2 ^ 24; decide, ?_⟩
      have e1 : (((dotsP (plsI S ss)).map plD).any fun z => deq z (plD (x * S, y * S))) = (dotsP (plsI S ss)).any fun q => decide (q = (x * S, y * S)) := by
        rw [List.any_map]
        congr 1
        funext q
        exact deq_pl q _
      have pu : pureN 20 (.lst ((dotsP (plsI S ss)).map plD)) = true := by
        show ((dotsP (plsI S ss)).map plD).all (pureN 19) = true
        rw [List.all_eq_true]
        intro d hd
        obtain ⟨q, _, rfl⟩ := List.mem_map.mp hd
        rfl
      have gc := grid_cov kS x y
      refine ⟨rfl, pu, ?_⟩
      show if (((dotsP (plsI S ss)).map plD).any fun z => deq z (plD (x * S, y * S))) = true then _ else _
      rw [e1]
      by_cases hd : ((dotsP (plsI S ss)).any fun q => decide (q = (x * S, y * S))) = true
      · rw [if_pos hd]
        rw [decide_eq_true (gc.mp (.inl hd))] at w
        exact w
      · rw [if_neg hd]
        refine ⟨cx, cy, by show 2 ≤ 2 ^ 24; decide, ?_⟩
        refine ⟨(x * S, y * S), a, o, Ink.linesI (plsI S ss), rfl, ha, ⟨(bx.mul bS).mono (by decide), (by_.mul bS).mono (by decide)⟩, okL, ?_⟩
        have e2 : Ink.lieI (x * S, y * S) (Ink.linesI (plsI S ss)) = decide (covS ss ((x : Rat), (y : Rat))) := by
          rw [Bool.eq_iff_iff, decide_eq_true_iff, ← gc]
          exact ⟨.inr, fun q => q.elim (fun q => absurd q hd) _root_.id⟩
        rw [e2]
        exact w
    rw [List.nil_append]
    simp only [rGN, st]
    refine hN _ _ ?_
    clear hN N
    simp only [rDrop, rMut, rVar, gt, hp, rCons, rNil, rJoin, rC, rLc, rILst, rms, rm]
    refine ⟨by rw [List.length_map]; show _ ≤ 2 ^ 24; omega, ?_⟩
    rw [show ((sideL n).map fun x : Int => D.bl (decide (covS ss ((x : Rat), (y : Rat))))) = ((sideL n).map fun x : Int => decide (covS ss ((x : Rat), (y : Rat)))).map D.bl from by rw [List.map_map]; rfl]
    refine lcD_gen (C := tru) trivial ((sideL n).map fun x : Int => decide (covS ss ((x : Rat), (y : Rat)))) D.bl (fun b => .str (if b = true then "#" else ".")) (fun b hb Q w => ?_) ?_
    · simp only [rIfE, rB, rVar, rC, gt, st]
      cases b with
      | true => exact w
      | false => exact w
    have e3 : (((sideL n).map fun x : Int => decide (covS ss ((x : Rat), (y : Rat)))).map fun b => D.str (if b = true then "#" else ".")) = ((sideL n).map fun x => pixS ss x y).map D.str := by
      rw [List.map_map, List.map_map]
      refine List.map_congr_left fun x _ => ?_
      show D.str (if decide (covS ss ((x : Rat), (y : Rat))) = true then "#" else ".") = D.str (pixS ss x y)
      unfold pixS
      by_cases q : covS ss ((x : Rat), (y : Rat))
      · rw [if_pos q, if_pos (decide_eq_true q)]
      · rw [if_neg q, if_neg (by simpa using q)]
    rw [List.nil_append, e3]
    refine ⟨(sideL n).map fun x => pixS ss x y, rfl, ?_, ?_⟩
    · have : (((sideL n).map fun x => pixS ss x y).map fun y => y.length).sum ≤ (sideL n).length := by
        generalize sideL n = l
        induction l with
        | nil => exact Nat.le_refl _
        | cons x r ih =>
          have := pix_len ss x y
          rw [tl_len] at this
          rw [List.map_cons, List.map_cons, List.sum_cons, List.length_cons]
          omega
      show _ + _ * 0 ≤ _
      omega
    · simp only [hp, gAppend]
      refine ⟨by rw [List.length_map]; show _ < 2 ^ 24; omega, ?_⟩
      have em : acc.map D.str ++ [D.str (Txt.join "" ((sideL n).map fun x => pixS ss x y))] = (acc ++ [rowS ss n y]).map D.str := by
        rw [List.map_append]
        rfl
      rw [em]
      refine pic_loop kS bS okL n0 n20 ne ys (acc ++ [rowS ss n y]) _ _ _ _ _ (fun w hw => hy w (List.mem_cons_of_mem _ hw)) (by rw [List.length_append]; simp; omega) (by rw [updM_ne ne.symm]; exact ha) updM_same fun μ' s9 s10 s11 s12 h1 h2 h3 => ?_
      refine h μ' s9 s10 s11 s12 h1 (by rw [h2, List.append_assoc]; rfl) fun b hb => ?_
      rw [h3 b hb, updM_ne hb]
theorem vc_picture (Γ : CL) : ∀ ds μ R, sp_picture Γ ds μ R → rd_picture Γ (fin (wkR R)) (startD 13 ds) μ := by
  rintro ds μ R ⟨ss, N0, n, rfl, k, n0, n20, h⟩
  unfold rd_picture
  rw [show startD 13 [drawD Γ ss, .int n] = [some (drawD Γ ss), some (.int n), none, none, none, none, none, none, none, none, none, none, none] from rfl]
  refine seq_g fun N hN => ?_
  simp only [rIf, rNot, rB, rCl, rCons, rNil, rVar, rC, gt]
  refine ⟨.int n, 0, 20, rfl, rfl, ?_⟩
  have e0 : inIntD (.int n) 0 20 = true := by
    show (decide (0 ≤ n) && decide (n ≤ 20)) = true
    rw [decide_eq_true n0, decide_eq_true n20]
    rfl
  rw [e0]
  simp only [Bool.not_true, Bool.false_eq_true, if_false, rNext]
  refine hN _ _ ?_
  clear hN N
  refine seq_g fun N hN => ?_
  simp only [rAsg, rCl, rCons, rNil, rFld, rVar, gt, insD_draw, lk_strokes, true_and]
  refine ⟨ss, N0, .inl rfl, k, fun S bS _ kS => ?_⟩
  simp only [rGTup, rGCons, rGN, rGNil, st, List.length_cons, List.length_nil, true_and]
  refine hN _ _ ?_
  clear hN N
  have bpl : ∀ s ∈ ss, ∀ z ∈ s, BtP 7500 (plI S z) := fun s hs z hz => by
    obtain ⟨cz, sz, _⟩ := k.can s hs z hz
    obtain ⟨kk, hk⟩ := (kS.can s hs z hz).2
    have ek : S.fdiv z.d = kk := by rw [hk]; exact fdiv_mul' (ne_d cz)
    have bk : Bt 6000 (S.fdiv z.d) := by
      rw [ek]
      refine bS.le ?_
      rw [hk, Int.natAbs_mul]
      have := cz.1
      exact Nat.le_mul_of_pos_left _ (by omega)
    exact ⟨sz.1.mul bk, sz.2.1.mul bk⟩
  have pls : ∀ s ∈ plsI S ss, s.length ≤ 12 ∧ ∀ p ∈ s, BtP 7500 p := fun t ht => by
    obtain ⟨s, hs, rfl⟩ := List.mem_map.mp ht
    refine ⟨by rw [List.length_map]; exact (k.st s hs).2.1, fun p hp => ?_⟩
    obtain ⟨z, hz, rfl⟩ := List.mem_map.mp hp
    exact bpl s hs z hz
  have lpl : (plsI S ss).length ≤ 500 := by unfold plsI; rw [List.length_map]; exact k.le
  have ne1 : ∀ s ∈ plsI S ss, 1 ≤ s.length := fun t ht => by
    obtain ⟨s, hs, rfl⟩ := List.mem_map.mp ht
    rw [List.length_map]
    exact (k.st s hs).1
  have up : ∀ {p : Pl} {n : Nat}, BtP 7500 p → 7500 ≤ n → BtP n p := fun b l => ⟨b.1.mono l, b.2.mono l⟩
  have okL := lines_ok lpl (fun s m => ⟨(pls s m).1, fun p hp => up ((pls s m).2 p hp) (by decide)⟩) kS.ne
  refine seq_g fun N hN => ?_
  simp only [rAsg, rCl, rCons, rNil, rVar, gt]
  refine ⟨plsI S ss, rfl, lpl, pls, kS.ne, fun a o ha => ?_⟩
  simp only [rGN, st]
  refine hN _ _ ?_
  clear hN N
  refine seq_g fun N hN => ?_
  simp only [rAsg, rLc, rILst, rVar, gt, rms, rm]
  refine ⟨by rw [List.length_map]; show _ ≤ 2 ^ 24; omega, ?_⟩
  refine lc_fmC (C := tru) (b := fun s : List Pl => s.length == 1) (out := fun s => plD (hdP s)) trivial (plsI S ss) [] (fun s hs Q q => ?_) (fun s hs _ Q q => ?_) ?_
  · simp only [rB, rOp, rCl, rCons, rNil, rVar, rC, gt, st, gLen, res, plsD, seqD, List.length_map, gEq_i]
    have e : (((s.length : Nat) : Int) == 1) = (s.length == 1) := by
      rw [Bool.eq_iff_iff, beq_iff_eq, beq_iff_eq]
      omega
    rw [e]
    exact q
  · simp only [rOp, rVar, rC, gt, st]
    have l1 := ne1 s hs
    cases s with
    | nil => simp at l1
    | cons p r =>
      show gIx (.tup ((p :: r).map plD)) (.int 0) _ Q
      rw [gIx_t, List.map_cons, atI_0, List.getElem?_cons_zero]
      exact q
  rw [List.nil_append, show (((plsI S ss).filter fun s : List Pl => s.length == 1).map fun s => plD (hdP s)) = (dotsP (plsI S ss)).map plD from by unfold dotsP; rw [List.map_map]; rfl]
  simp only [rGN, st]
  refine hN _ _ ?_
  clear hN N
  refine seq_g fun N hN => ?_
  simp only [rPar, rCons, rLstM, rNil, rLRg2, rOp, rVar, rC, gt, gSub, gAdd, gI0]
  refine ⟨by show 0 ≤ 2 ^ 24; decide, fun p hp => ?_⟩
  have ne : p ≠ a := fun e => by rw [e, updM_same] at hp; cases hp
  rw [updM_ne ne] at hp
  refine ⟨by unfold RgOk; omega, ?_⟩
  rw [rangeD_intsL, show intsL (0 - n) (n + 1 - (0 - n)).toNat = sideL n from rfl]
  simp only [st]
  refine hN _ _ ?_
  clear hN N
  refine seq_g fun N hN => ?_
  simp only [rFor, rILst, rRevL, rVar, gt, res]
  rw [← List.map_reverse]
  have sl := side_len n0 n20
  refine pic_loop kS bS okL n0 n20 ne (sideL n).reverse [] _ _ _ _ _ (fun y hy => ?_) (by rw [List.length_reverse]; simp; omega) (by rw [updM_ne ne.symm, updM_same]) updM_same fun μ' s9 s10 s11 s12 m1 m2 m3 => ?_
  · have := List.mem_reverse.mp hy
    unfold sideL at this
    have := intsL_mem.mp this
    omega
  rw [List.nil_append] at m2
  refine hN _ _ ?_
  clear hN N
  simp only [rRet, rJoin, rC, rVar, gt, res, m2, seqD]
  refine ⟨(sideL n).reverse.map (rowS ss n), rfl, ?_, ?_⟩
  · have l1 : ((sideL n).reverse.map (rowS ss n)).length ≤ 41 := by rw [List.length_map, List.length_reverse]; exact sl
    have l2 : (((sideL n).reverse.map (rowS ss n)).map fun y => y.length).sum ≤ ((sideL n).reverse.map (rowS ss n)).length * 100 := sum_le (fun y : Str => y.length) 100 _ fun y hy => by
      obtain ⟨v, _, rfl⟩ := List.mem_map.mp hy
      exact row_len n0 n20
    show _ + _ * 1 ≤ _
    omega
  · refine ⟨μ, fun b m hb => ?_, h⟩
    have hbp : b ≠ p := fun e => by rw [e, hp] at hb; cases hb
    have hba : b ≠ a := fun e => by rw [e, ha] at hb; cases hb
    rw [m3 b hbp, updM_ne hbp, updM_ne hba]
    exact hb
end L3

/-! ## V41 -/
set_option Elab.async false
set_option linter.all false
set_option maxRecDepth 100000
set_option maxHeartbeats 1000000
/-! Copies seen from where another copy carries them. -/
namespace L3
open PySem NM L2
section
variable {u c a b : Cp}
/-- what is kept, here and there -/
inductive KK (u : Cp) : Kp → Kp → Prop
  | all : KK u .all .all
  | none : KK u .none .none
  | spot (z : Num) : KK u (.spot z) (.spot (u.at z))
  | line {a b e a' b' e' : Int} (h : ∀ z, Can z → a * z.x + b * z.y = e * z.d → a' * (u.at z).x + b' * (u.at z).y = e' * (u.at z).d) : KK u (.line a b e) (.line a' b' e')
end
/-! ### carriers there, carriers back -/
section
variable {u : Cp} {ps : List (Num × Num)}
theorem at_inj {u : Cp} {a b : Num} (hu : u.ok) (ha : Can a) (hb : Can b) (h : u.at a = u.at b) : a = b := by
  have := congrArg u.inv.at h
  rw [Cp.inv_at hu ha, Cp.inv_at hu hb] at this
  exact this
end
end L3

/-! ## V60 -/
set_option Elab.async false
set_option linter.all false
set_option maxRecDepth 100000
set_option maxHeartbeats 1000000
/-! Spots that stand in order; inks of random drawings. -/
namespace L3
open PySem NM L2
open Ink (Q2 Pl Sg Ky crs seg lt le)
/-- the ink of a random drawing -/
structure Kn (ss : List Stk) (I : Inkd) : Prop where
  ks : ∀ s ∈ ss, okTn s
  l6 : ss.length ≤ 6
  is : IsInk (covS ss) I
  td : ∀ z ∈ I.dots, Tiny z
  tl : ∀ l ∈ I.lines, Tiny l.1 ∧ Tiny l.2
  ll : I.lines.length ≤ 18 ∧ I.dots.length ≤ 6
theorem kn_of {ss : List Stk} (ks : ∀ s ∈ ss, okTn s) (l6 : ss.length ≤ 6) : okI 12 ss ∧ Kn ss (inkS ss) := by
  have o : okI 12 ss := okI_tiny (by omega) ks
  obtain ⟨i1, i2⟩ := ink_spots o
  have il := ink_len o
  have p3 := parts_3 ks
  refine ⟨o, ks, l6, o.is, fun z hz => ?_, fun l hl => ?_, by omega, by omega⟩
  · obtain ⟨s, hs, m⟩ := i1 z hz
    exact (ks s hs).2 z m
  · obtain ⟨⟨s, hs, m⟩, t, ht, m2⟩ := i2 l hl
    exact ⟨(ks s hs).2 _ m, (ks t ht).2 _ m2⟩
end L3

/-! ## V62 -/
set_option Elab.async false
set_option linter.all false
set_option maxRecDepth 100000
set_option maxHeartbeats 1000000
/-! Pictures of four times as great drawings; drawings of one spot. -/
namespace L3
open PySem PySem.Spec PySem.Calls PyProof.Rows L2 NM
open Ink (Pl Sg Ky Q2 qP)
theorem segs_mapN (f : Num → Num) : ∀ s : Stk, segs (s.map f) = (segs s).map fun y => (f y.1, f y.2)
  | [] => rfl
  | [_] => rfl
  | a :: b :: r => by
    show (f a, f b) :: segs ((b :: r).map f) = _
    rw [segs_mapN f (b :: r)]
    rfl
/-- four times as great -/
def c4 : Cp := ⟨⟨4, 0, 1⟩, zero, false⟩
theorem tl_row (ss : List Stk) (n y : Int) : TL.tl (rowS ss n y) = (sideL n).flatMap fun x => TL.tl (pixS ss x y) := by
  unfold rowS
  rw [TL.join_eq, TL.tl_join]
  have e : ∀ l : List (List Nat), TL.joinL [] l = l.flatMap fun x => x := by
    intro l
    induction l with
    | nil => rfl
    | cons a r ih =>
      cases r with
      | nil => simp [TL.joinL]
      | cons b r =>
        show a ++ ([] ++ TL.joinL [] (b :: r)) = _
        rw [ih]
        rfl
  show TL.joinL [] _ = _
  rw [e, List.map_map]
  generalize sideL n = l
  induction l with
  | nil => rfl
  | cons a r ih => rw [List.map_cons, List.flatMap_cons, List.flatMap_cons, ih]; rfl
open Classical in
noncomputable def pixC (ss : List Stk) (x y : Int) : Nat := if covS ss ((x : Rat), (y : Rat)) then 35 else 46
theorem tl_row2 (ss : List Stk) (n y : Int) : TL.tl (rowS ss n y) = (sideL n).map fun x => pixC ss x y := by
  rw [tl_row]
  have e : ∀ x, TL.tl (pixS ss x y) = [pixC ss x y] := fun x => by
    unfold pixS pixC
    split <;> rfl
  generalize sideL n = l
  induction l with
  | nil => rfl
  | cons a r ih => rw [List.flatMap_cons, ih, e, List.map_cons]; rfl
theorem split_rows (ss : List Stk) {n : Int} (h0 : 0 ≤ n) : Txt.split (Txt.join "\n" (rowsS ss n)) "\n" = rowsS ss n := by
  refine TL.split_join (s := 10) (S := []) rfl (by decide +kernel) (fun e => ?_) fun p hp => ?_
  · have l : (rowsS ss n).length = (sideL n).length := by unfold rowsS; rw [List.length_map, List.length_reverse]
    rw [e] at l
    unfold sideL at l
    rw [intsL_len] at l
    simp at l
    omega
  · unfold rowsS at hp
    obtain ⟨y, _, rfl⟩ := List.mem_map.mp hp
    rw [tl_row2]
    intro hm
    obtain ⟨x, _, e⟩ := List.mem_map.mp hm
    unfold pixC at e
    split at e <;> simp at e
theorem intsL_get : ∀ (n : Nat) (lo : Int) (i : Nat), i < n → (intsL lo n)[i]? = some (lo + (i : Int))
  | 0, _, _, h => absurd h (by omega)
  | n + 1, lo, 0, _ => by simp [intsL]
  | n + 1, lo, i + 1, h => by
    show (lo :: intsL (lo + 1) n)[i + 1]? = _
    rw [List.getElem?_cons_succ, intsL_get n (lo + 1) i (by omega)]
    congr 1
    omega
theorem side_get {n : Int} (h0 : 0 ≤ n) {i : Nat} (hi : (i : Int) < 2 * n + 1) : (sideL n)[i]? = some ((i : Int) - n) := by
  unfold sideL
  rw [intsL_get _ _ _ (by omega)]
  congr 1
  omega
theorem side_len2 {n : Int} (h0 : 0 ≤ n) : ((sideL n).length : Int) = 2 * n + 1 := by
  unfold sideL
  rw [intsL_len]
  omega
end L3

/-! ## V64 -/
set_option Elab.async false
set_option linter.all false
set_option maxRecDepth 100000
set_option maxHeartbeats 1000000
/-! Pictures that cannot be; pictures upside down; the empty picture. -/
namespace L3
open PySem PySem.Spec PySem.Calls PyProof.Rows L2 NM
open Ink (Pl Sg Ky Q2 qP)
theorem vcx_picture (Γ : CL) : ∀ ds μ R re, spx_picture Γ ds μ R re → rdx_picture Γ (finX R re) (startD 13 ds) μ := by
  rintro ds μ R re ⟨x, d, rfl, ok, bad, h⟩
  unfold rdx_picture
  rw [show startD 13 [x, d] = [some x, some d, none, none, none, none, none, none, none, none, none, none, none] from rfl]
  refine seq_g fun N hN => ?_
  simp only [rIf, rNot, rB, rCl, rCons, rVar, rC, rNil, gt]
  refine ⟨d, 0, 20, rfl, ok, ?_⟩
  rw [bad]
  simp only [Bool.not_false, if_true]
  exact h
end L3
namespace L3
open PySem PySem.Spec PySem.Calls PyProof.Rows L2 NM
open Ink (Pl Sg Ky Q2 qP)
/-! ### texts -/
theorem ok_tl {x : Str} (h : ∀ c ∈ TL.tl x, c < 0x110000) : PyData.strOk x = true := by
  show x.cps.all (· < 0x110000) = true
  rw [← Array.all_toList, List.all_eq_true]
  intro c hc
  exact decide_eq_true (h c hc)
theorem tl_join0 (ys : List Str) : TL.tl (Txt.join "" ys) = ys.flatMap TL.tl := by
  rw [TL.join_eq, TL.tl_join]
  have e : ∀ l : List (List Nat), TL.joinL [] l = l.flatMap fun x => x := by
    intro l
    induction l with
    | nil => rfl
    | cons a r ih =>
      cases r with
      | nil => simp [TL.joinL]
      | cons b r =>
        show a ++ ([] ++ TL.joinL [] (b :: r)) = _
        rw [ih]
        rfl
  show TL.joinL [] _ = _
  rw [e]
  induction ys with
  | nil => rfl
  | cons a r ih => rw [List.map_cons, List.flatMap_cons, List.flatMap_cons, ih]
theorem join_mem {a : Str} {c : Nat} : ∀ ys : List Str, c ∈ TL.tl (Txt.join a ys) → c ∈ TL.tl a ∨ ∃ y ∈ ys, c ∈ TL.tl y := by
  intro ys
  rw [TL.join_eq, TL.tl_join]
  induction ys with
  | nil => intro h; cases h
  | cons y r ih =>
    cases r with
    | nil => intro h; exact .inr ⟨y, List.mem_cons_self .., h⟩
    | cons b r =>
      intro h
      have h : c ∈ TL.tl y ++ (TL.tl a ++ TL.joinL (TL.tl a) ((b :: r).map TL.tl)) := h
      rcases List.mem_append.mp h with h | h
      · exact .inr ⟨y, List.mem_cons_self .., h⟩
      · rcases List.mem_append.mp h with h | h
        · exact .inl h
        · rcases ih h with h | ⟨w, hw, h⟩
          · exact .inl h
          · exact .inr ⟨w, List.mem_cons_of_mem _ hw, h⟩
theorem row_sign {ss : List Stk} {n y : Int} {c : Nat} (h : c ∈ TL.tl (rowS ss n y)) : c = 35 ∨ c = 46 := by
  rw [tl_row2] at h
  obtain ⟨x, _, rfl⟩ := List.mem_map.mp h
  unfold pixC
  split
  · exact .inl rfl
  · exact .inr rfl
theorem ok_row (ss : List Stk) (n y : Int) : PyData.strOk (rowS ss n y) = true := ok_tl fun c hc => by
  rcases row_sign hc with rfl | rfl <;> decide
theorem ok_rows (ss : List Stk) (n : Int) : PyData.strOk (Txt.join "\n" (rowsS ss n)) = true := ok_tl fun c hc => by
  rcases join_mem _ hc with h | ⟨y, hy, h⟩
  · have h : c ∈ [10] := h
    have : c = 10 := by simpa using h
    omega
  · unfold rowsS at hy
    obtain ⟨v, _, rfl⟩ := List.mem_map.mp hy
    rcases row_sign h with rfl | rfl <;> decide
theorem rows_sum (ss : List Stk) {n : Int} (h0 : 0 ≤ n) (h : n ≤ 20) : ((rowsS ss n).map (·.length)).sum + (rowsS ss n).length * ("\n" : Str).length ≤ 16777216 := by
  have l1 : (rowsS ss n).length ≤ 41 := by
    unfold rowsS
    rw [List.length_map, List.length_reverse]
    exact side_len h0 h
  have l2 : ((rowsS ss n).map (·.length)).sum ≤ (rowsS ss n).length * 100 := sum_le (fun y : Str => y.length) 100 _ fun y hy => by
    unfold rowsS at hy
    obtain ⟨v, _, rfl⟩ := List.mem_map.mp hy
    exact row_len h0 h
  have l3 : ("\n" : Str).length = 1 := rfl
  rw [l3]
  omega
theorem rows_len (ss : List Stk) {n : Int} (h0 : 0 ≤ n) (h : n ≤ 20) : (Txt.join "\n" (rowsS ss n)).length + 2 ≤ sizeLine := by
  have j1 := join_len "\n" (rowsS ss n)
  rw [tl_len] at j1
  have l1 : (rowsS ss n).length ≤ 41 := by
    unfold rowsS
    rw [List.length_map, List.length_reverse]
    exact side_len h0 h
  have l2 : ((rowsS ss n).map fun y => (TL.tl y).length).sum ≤ (rowsS ss n).length * 100 := sum_le (fun y : Str => (TL.tl y).length) 100 _ fun y hy => by
    unfold rowsS at hy
    obtain ⟨v, _, rfl⟩ := List.mem_map.mp hy
    rw [tl_len]
    exact row_len h0 h
  have l3 : (TL.tl "\n").length = 1 := rfl
  rw [l3] at j1
  show _ ≤ 2 ^ 24
  omega
/-! ### a row, sign by sign -/
noncomputable def rowP (ss : List Stk) (y : Int) (xs : List Int) : Str := Txt.join "" (xs.map fun x => pixS ss x y)
theorem rowP_more (ss : List Stk) (y : Int) (xs : List Int) (x : Int) : rowP ss y xs ++ pixS ss x y = rowP ss y (xs ++ [x]) := by
  apply TL.ext_tl
  unfold rowP
  rw [TL.tl_append, tl_join0, tl_join0, List.map_append, List.flatMap_append]
  simp
theorem rowP_len (ss : List Stk) (y : Int) (xs : List Int) : (rowP ss y xs).length = xs.length := by
  rw [← tl_len]
  unfold rowP
  rw [tl_join0]
  induction xs with
  | nil => rfl
  | cons x r ih => rw [List.map_cons, List.flatMap_cons, List.length_append, ih, pix_len, List.length_cons]; omega
theorem rowP_nil (ss : List Stk) (y : Int) : rowP ss y [] = "" := rfl
/-! ### from the top down -/
theorem down_side {n : Int} (h0 : 0 ≤ n) : downD n (n - (0 - n - 1)).toNat = (sideL n).reverse.map D.int := by
  refine List.ext_getElem? fun i => ?_
  have l := side_len2 h0
  rw [downD_get, List.getElem?_map]
  by_cases h : i < (n - (0 - n - 1)).toNat
  · rw [if_pos h, List.getElem?_reverse (by omega), side_get h0 (by omega)]
    show some (D.int _) = some (D.int _)
    congr 2
    omega
  · rw [if_neg h, List.getElem?_eq_none (by rw [List.length_reverse]; omega)]
    rfl
theorem side_neg {n : Int} (h0 : 0 ≤ n) : (sideL n).reverse.map (fun y => -y) = sideL n := by
  refine List.ext_getElem? fun i => ?_
  have l := side_len2 h0
  rw [List.getElem?_map]
  by_cases h : i < (sideL n).length
  · rw [List.getElem?_reverse h, side_get h0 (by omega), side_get h0 (by omega)]
    show some (-((((sideL n).length - 1 - i : Nat) : Int) - n)) = some ((i : Int) - n)
    congr 1
    omega
  · rw [List.getElem?_eq_none (by rw [List.length_reverse]; omega), List.getElem?_eq_none (by omega)]
    rfl
/-! ### upside down -/
theorem sg_conj0 {a b p : Q2} (h : Ink.sg a b p) : Ink.sg (a.1, -a.2) (b.1, -b.2) (p.1, -p.2) := by
  have key : ∀ a b : Q2, Ink.crs a b p = 0 → Ink.le a p → Ink.le p b → (Ink.le (a.1, -a.2) (p.1, -p.2) ∧ Ink.le (p.1, -p.2) (b.1, -b.2)) ∨ (Ink.le (b.1, -b.2) (p.1, -p.2) ∧ Ink.le (p.1, -p.2) (a.1, -a.2)) := by
    intro a b c h k
    unfold Ink.le Ink.crs at *
    simp only at *
    by_cases e : a.1 = b.1
    · right
      have e1 : a.1 = p.1 := by grind
      have e2 : p.1 = b.1 := by grind
      exact ⟨.inr ⟨e2.symm, by grind⟩, .inr ⟨e1.symm, by grind⟩⟩
    · left
      have ne : b.1 - a.1 ≠ 0 := by grind
      constructor
      · rcases h with h | ⟨h, h2⟩
        · exact .inl h
        · have : (p.2 - a.2) * (b.1 - a.1) = 0 := by rw [← h] at c; grind
          have : p.2 - a.2 = 0 := (Rat.mul_eq_zero.mp this).resolve_right ne
          exact .inr ⟨h, by grind⟩
      · rcases k with k | ⟨k, k2⟩
        · exact .inl k
        · have : (b.2 - p.2) * (b.1 - a.1) = 0 := by rw [k] at c; grind
          have : b.2 - p.2 = 0 := (Rat.mul_eq_zero.mp this).resolve_right ne
          exact .inr ⟨k, by grind⟩
  obtain ⟨c, h⟩ := h
  refine ⟨?_, ?_⟩
  · unfold Ink.crs at *
    simp only at *
    grind
  · rcases h with ⟨h, k⟩ | ⟨h, k⟩
    · exact key a b c h k
    · have c2 : Ink.crs b a p = 0 := by
        unfold Ink.crs at *
        grind
      exact (key b a c2 h k).symm
theorem sg_conj {a b p : Q2} : Ink.sg (a.1, -a.2) (b.1, -b.2) (p.1, -p.2) ↔ Ink.sg a b p := by
  constructor
  · intro h
    have := sg_conj0 h
    simp only [Rat.neg_neg] at this
    exact this
  · exact sg_conj0
def cfl : Cp := ⟨⟨1, 0, 1⟩, zero, true⟩
theorem cfl_ok : cfl.ok := ⟨by unfold Can; decide +kernel, by unfold NZ; decide +kernel, can_zero⟩
theorem cfl_sz : cfl.sz 3 := ⟨⟨by unfold Bt; decide +kernel, by unfold Bt; decide +kernel, by unfold Bt; decide +kernel⟩, ⟨by unfold Bt; decide +kernel, by unfold Bt; decide +kernel, by unfold Bt; decide +kernel⟩⟩
theorem cfl_at {z : Num} (h : Can z) : numQ (cfl.at z) = ((numQ z).1, -(numQ z).2) := by
  have t1 : re cfl.t = 1 := by decide +kernel
  have t2 : im cfl.t = 0 := by decide +kernel
  have s1 : re cfl.s = 0 := by decide +kernel
  have s2 : im cfl.s = 0 := by decide +kernel
  have g : sg cfl.m = -1 := rfl
  refine Prod.ext ?_ ?_
  · show re (cfl.at z) = re z
    rw [re_at cfl_ok h, t1, t2, s1, g]
    grind
  · show im (cfl.at z) = -im z
    rw [im_at cfl_ok h, t1, t2, s2, g]
    grind
theorem cov_fl {ss : List Stk} (k : ∀ s ∈ ss, ∀ z ∈ s, Can z) (P : Q2) : covS (movedBy cfl ss) (P.1, -P.2) ↔ covS ss P := by
  constructor
  · rintro ⟨t, ht, q⟩
    obtain ⟨s, hs, rfl⟩ := List.mem_map.mp ht
    refine ⟨s, hs, ?_⟩
    rcases q with ⟨w, e, h⟩ | ⟨y, hy, h⟩
    · cases s with
      | nil => cases e
      | cons z r =>
        cases r with
        | nil =>
          rw [List.map_cons, List.map_nil] at e
          injection e with e1 _
          refine .inl ⟨z, rfl, ?_⟩
          rw [← e1, cfl_at (k _ hs z (List.mem_cons_self ..))] at h
          have h1 := congrArg Prod.fst h
          have h2 := congrArg Prod.snd h
          simp only at h1 h2
          exact Prod.ext (by grind) (by grind)
        | cons _ _ => simp at e
    · rw [segs_mapN] at hy
      obtain ⟨x, hx, rfl⟩ := List.mem_map.mp hy
      obtain ⟨m1, m2⟩ := segs_mem2 hx
      refine .inr ⟨x, hx, ?_⟩
      rw [cfl_at (k s hs _ m1), cfl_at (k s hs _ m2)] at h
      exact sg_conj.mp h
  · rintro ⟨s, hs, q⟩
    refine ⟨s.map cfl.at, List.mem_map.mpr ⟨s, hs, rfl⟩, ?_⟩
    rcases q with ⟨z, rfl, rfl⟩ | ⟨y, hy, h⟩
    · exact .inl ⟨cfl.at z, rfl, (cfl_at (k _ hs z (List.mem_cons_self ..))).symm⟩
    · obtain ⟨m1, m2⟩ := segs_mem2 hy
      refine .inr ⟨(cfl.at y.1, cfl.at y.2), by rw [segs_mapN]; exact List.mem_map.mpr ⟨y, hy, rfl⟩, ?_⟩
      rw [cfl_at (k s hs _ m1), cfl_at (k s hs _ m2)]
      exact sg_conj.mpr h
theorem row_fl {ss : List Stk} (k : ∀ s ∈ ss, ∀ z ∈ s, Can z) (n y : Int) : rowS (movedBy cfl ss) n y = rowS ss n (-y) := by
  have e : ∀ x, pixS (movedBy cfl ss) x y = pixS ss x (-y) := fun x => by
    have := cov_fl k (((x : Int) : Rat), ((-y : Int) : Rat))
    have e : -((-y : Int) : Rat) = (y : Rat) := by rw [Rat.intCast_neg, Rat.neg_neg]
    simp only [e] at this
    unfold pixS
    by_cases q : covS ss ((x : Rat), ((-y : Int) : Rat))
    · rw [if_pos q, if_pos (this.mpr q)]
    · rw [if_neg q, if_neg (fun w => q (this.mp w))]
  unfold rowS
  rw [show (fun x => pixS (movedBy cfl ss) x y) = fun x => pixS ss x (-y) from funext e]
theorem rows_fl {ss : List Stk} (k : ∀ s ∈ ss, ∀ z ∈ s, Can z) {n : Int} (h0 : 0 ≤ n) : rowsS (movedBy cfl ss) n = (rowsS ss n).reverse := by
  unfold rowsS
  rw [← List.map_reverse, List.reverse_reverse, show rowS (movedBy cfl ss) n = fun y => rowS ss n (-y) from funext fun y => row_fl k n y]
  conv => rhs; rw [← side_neg h0]
  rw [List.map_map]
  rfl
/-! ### nothing drawn -/
theorem row_none (y : Int) : rowS [] 20 y = repS "." 41 := by
  apply TL.ext_tl
  rw [tl_row2]
  have e : ∀ x, pixC [] x y = 46 := fun x => by
    unfold pixC
    rw [if_neg]
    rintro ⟨s, hs, _⟩
    cases hs
  rw [show (fun x => pixC [] x y) = fun _ => 46 from funext e]
  decide +kernel
theorem rows_none : rowsS [] 20 = List.replicate 41 (repS "." 41) := by
  unfold rowsS
  rw [show rowS [] 20 = fun _ => repS "." 41 from funext row_none]
  generalize repS "." 41 = r
  rfl
end L3

/-! ## V_k34 -/
set_option Elab.async false
set_option linter.all false
set_option maxRecDepth 100000
set_option maxHeartbeats 1000000
namespace L3.K34
open PySem PySem.Spec PySem.Calls PyProof.Rows L2 NM
open Ink (Q2 Pl Sg Ky)
theorem deq_size : deq (.tup [.str "size", .int 0]) (.tup [.str "size", .int 0]) = true := by decide +kernel
theorem pure_size : pureN 20 (.tup [.str "size", .int 0]) = true := by decide +kernel
theorem spot_ok {x y : Int} (hx : -20 ≤ x ∧ x ≤ 20) (hy : -20 ≤ y ∧ y ≤ 20) : okZ3 ⟨x, y, 1⟩ := by
  exact ⟨can_i1 x y, (show Bt 5 x by unfold Bt; omega).mono (by decide), (show Bt 5 y by unfold Bt; omega).mono (by decide), (show Bt 5 1 by unfold Bt; decide).mono (by decide)⟩
theorem spot_q (x y : Int) : numQ ⟨x, y, 1⟩ = ((x : Rat), (y : Rat)) := by
  refine Prod.ext ?_ ?_
  · show (x : Rat) / ((1 : Int) : Rat) = x
    rw [show ((1 : Int) : Rat) = 1 from rfl]
    grind
  · show (y : Rat) / ((1 : Int) : Rat) = y
    rw [show ((1 : Int) : Rat) = 1 from rfl]
    grind
section
variable {Γ : CL} {ss : List Stk} {I : Inkd} {μ : MH} {R : D → MH → Prop} {E : Ed} {g p : Addr} {xs : List D} {l : Int} {s0 s1 s2 s3 s4 s5 s6 s7 s8 s9 s10 s11 : Option D}
theorem t1 (ht : μ Γ.tab = some (.tab lamQ)) (hg : g ≠ Γ.tab) (hm : μ g = some (.lst xs)) (hx : RL xs) (hR : ∀ μ', R (.bl true) μ') :
    rd_law_t1 Γ (fin R) [s0, some (.ref g), s2, s3, some (drawD Γ ss), s5, s6, s7, s8, s9, s10, s11] μ := by
  unfold rd_law_t1
  refine seq_g fun N hN => ?_
  simp only [rAsg, rOp, rLst, rCons, rCl, rVar, rC, rNil, gt, gSub, gI0]
  refine ⟨by show 5 ≤ 2 ^ 24; decide, ?_⟩
  refine ⟨g, 5, xs, rfl, by decide, by decide, hm, hx, fun r ys r0 r1 hy => ?_⟩
  have key : ∀ d : D, okD d = true → inIntD d 0 20 = false → rGN 11 d [s0, some (.ref g), s2, s3, some (drawD Γ ss), s5, s6, s7, s8, s9, s10, s11] (updM μ g (.lst ys)) N := by
    intro d ok bad
    simp only [rGN, st]
    refine hN _ _ ?_
    simp only [rRet, rOp, rErrOf, rClX, rCons, rVar, rC, rNil, gt, rTup]
    refine ⟨by rw [updM_ne hg.symm]; exact ht, drawD Γ ss, d, rfl, ok, bad, ?_⟩
    refine ⟨.tup [.str "size", .int 0], ⟨9, by simp [errL], [], rfl, rfl, rfl, rfl⟩, ?_⟩
    refine ⟨by show 2 ≤ 2 ^ 24; decide, ?_⟩
    rw [gEq_t]
    refine ⟨pure_size, pure_size, ?_⟩
    rw [deq_size]
    exact hR _
  have : r = 0 ∨ r = 1 ∨ r = 2 ∨ r = 3 ∨ r = 4 := by omega
  rcases this with rfl | rfl | rfl | rfl | rfl
  · exact key (.int (0 - 1)) rfl rfl
  · exact key (.int 21) rfl rfl
  · exact key .non rfl rfl
  · exact key (.bl true) rfl rfl
  · exact key (.str "3") rfl rfl
theorem ne_str {a b : Str} {Q : D → MH → Prop} (e : a = b) (h : PyData.strOk a = true) (q : Q (.bl false) μ) : gNe (.str a) (.str b) μ Q := by
  subst e
  refine ⟨h, h, ?_⟩
  have e : deq (res μ (.str a)) (res μ (.str a)) = true := by
    show deq (.str a) (.str a) = true
    rw [deq_str]
    exact beq_self_eq_true _
  rw [e]
  exact q
theorem deq_lsts : ∀ ys : List Str, deq (.lst (ys.map D.str)) (.lst (ys.map D.str)) = true
  | [] => deq_l0
  | y :: ys => by
    rw [List.map_cons, deq_ll, deq_str, deq_lsts ys, beq_self_eq_true]
    rfl
theorem ne_strs {a b : List Str} {Q : D → MH → Prop} (e : a = b) (h : ∀ x ∈ a, PyData.strOk x = true) (q : Q (.bl false) μ) : gNe (.lst (a.map D.str)) (.lst (b.map D.str)) μ Q := by
  subst e
  have pp : pureN 20 (.lst (a.map D.str)) = true := by
    show (a.map D.str).all (pureN 19) = true
    rw [List.all_eq_true]
    intro d hd
    obtain ⟨x, hx, rfl⟩ := List.mem_map.mp hd
    exact h x hx
  refine ⟨pp, pp, ?_⟩
  have e : deq (res μ (.lst (a.map D.str))) (res μ (.lst (a.map D.str))) = true := deq_lsts a
  rw [e]
  exact q
theorem t2 (ht : μ Γ.tab = some (.tab lamQ)) (hg : g ≠ Γ.tab) (hm : μ g = some (.lst xs)) (hx : RL xs) (hR : ∀ μ', R (.bl true) μ') :
    rd_law_t2 Γ (fin R) [s0, some (.ref g), s2, s3, some (drawD Γ ss), s5, s6, s7, s8, s9, some (.str (Txt.join "\n" (rowsS [] 20))), s11] μ := by
  unfold rd_law_t2
  refine seq_g fun N hN => ?_
  simp only [rIf, rB, rOp, rVar, rJoin, rC, rLst, rCons, rNil, gMulS, gt]
  refine ⟨by decide, by decide, by decide, by decide, by decide +kernel, ?_⟩
  refine ⟨by show 1 ≤ 2 ^ 24; decide, ?_⟩
  refine ⟨by decide, by decide, by show 1 * 41 ≤ 2 ^ 24; decide, ?_⟩
  refine ⟨rowsS [] 20, ?_, rows_sum [] (by decide) (by decide), ?_⟩
  · rw [rows_none]
    show some (repD [D.str (repS "." 41)] 41) = _
    generalize repS "." 41 = r
    rfl
  refine ne_str rfl (ok_rows [] 20) ?_
  simp only [Bool.false_eq_true, if_false, rNext]
  exact hN _ _ (t1 ht hg hm hx hR)
theorem okI_none : okI 1 [] := ⟨by decide, by unfold Bt; decide +kernel, by decide, (fun s hs => nomatch hs), (fun s hs => nomatch hs)⟩
theorem t3 (ht : μ Γ.tab = some (.tab lamQ)) (hg : g ≠ Γ.tab) (hm : μ g = some (.lst xs)) (hx : RL xs) (hR : ∀ μ', R (.bl true) μ') :
    rd_law_t3 Γ (fin R) [s0, some (.ref g), s2, s3, some (drawD Γ ss), s5, s6, s7, s8, s9, s10, s11] μ := by
  unfold rd_law_t3
  refine seq_g fun N hN => ?_
  simp only [rAsg, rCl, rCons, rNil, rC]
  refine make_draw (ss := []) ⟨by simp, by simp⟩ ?_
  refine ⟨[], 1, 20, rfl, okI_none, by decide, by decide, ?_⟩
  simp only [rGN, st]
  exact hN _ _ (t2 ht hg hm hx hR)
theorem t4 (k : Kn ss I) (l0 : 0 ≤ l) (l4 : l ≤ 4) (hp : μ p = some (.lst ((rowsS ss l).map D.str))) (ht : μ Γ.tab = some (.tab lamQ)) (hg : g ≠ Γ.tab) (hm : μ g = some (.lst xs)) (hx : RL xs) (hR : ∀ μ', R (.bl true) μ') :
    rd_law_t4 Γ (fin R) [s0, some (.ref g), s2, s3, some (drawD Γ ss), some (.ref p), s6, s7, s8, some (.str (Txt.join "\n" (rowsS (movedBy cfl ss) l))), s10, s11] μ := by
  unfold rd_law_t4
  refine seq_g fun N hN => ?_
  simp only [rIf, rB, rOp, rVar, rSplit, rRevL, rC, gt]
  refine ⟨rfl, rows_len _ l0 (by omega), ?_⟩
  simp only [res, hp]
  rw [split_rows _ l0, ← List.map_reverse, ← rows_fl (fun s hs z hz => ((k.ks s hs).2 z hz).1.1) l0]
  refine ne_strs rfl (fun x hx => ?_) ?_
  · unfold rowsS at hx
    obtain ⟨v, _, rfl⟩ := List.mem_map.mp hx
    exact ok_row _ _ _
  simp only [Bool.false_eq_true, if_false, rNext]
  exact hN _ _ (t3 ht hg hm hx hR)
theorem dr3 (k : Kn ss I) (l5 : ss.length ≤ 5) : okDr 3 ss := ⟨by omega, fun s hs => ⟨(k.ks s hs).1.1, by have := (k.ks s hs).1.2.1; omega, (k.ks s hs).1.2.2.1, fun z hz => ⟨((k.ks s hs).2 z hz).1.1, ((k.ks s hs).2 z hz).sz⟩⟩⟩
theorem fl_ok (k : Kn ss I) (l5 : ss.length ≤ 5) : okI (prodD (movedBy cfl ss)) (movedBy cfl ss) := by
  have kk := (dr3 k l5).at cfl_ok cfl_sz
  have l : (movedBy cfl ss).length ≤ 5 := by
    show (ss.map _).length ≤ 5
    rw [List.length_map]
    exact l5
  refine okI_prod (n := 3 + 3 + 1 + 3 + 1) (c := 48) kk.st ?_ (by decide) (by decide) (by omega)
  have := sum_le (fun s : Stk => s.length) 4 (movedBy cfl ss) fun s hs => by
    obtain ⟨t, ht, rfl⟩ := List.mem_map.mp hs
    have := (k.ks t ht).1.2.1
    show (t.map _).length ≤ 4
    rw [List.length_map]
    omega
  exact Nat.le_trans this (by omega)
theorem t5 (k : Kn ss I) (l5 : ss.length ≤ 5) (l0 : 0 ≤ l) (l4 : l ≤ 4) (hp : μ p = some (.lst ((rowsS ss l).map D.str))) (ht : μ Γ.tab = some (.tab lamQ)) (hg : g ≠ Γ.tab) (hm : μ g = some (.lst xs)) (hx : RL xs) (hR : ∀ μ', R (.bl true) μ') :
    rd_law_t5 Γ (fin R) [s0, some (.ref g), s2, some (.int l), some (drawD Γ ss), some (.ref p), s6, s7, s8, s9, s10, s11] μ := by
  unfold rd_law_t5
  refine seq_g fun N hN => ?_
  simp only [rAsg, rCl, rCons, rNil, rMeth, rMakeK, rTup, rVar, rC, gt, insD_draw, lk_copied, true_and]
  refine ⟨by show 3 ≤ 2 ^ 24; decide, by show 3 ≤ 2 ^ 24; decide, rfl, rfl, ?_⟩
  refine make_copy (t := ⟨1, 0, 1⟩) (s := zero) (m := true) cfl_ok.1 cfl_ok.2.1 can_zero (cfl_sz.1.mono (by decide)) (cfl_sz.2.mono (by decide)) ?_
  refine copied_i (c := cfl) cfl_ok ⟨cfl_sz.1.mono (by decide), cfl_sz.2.mono (by decide)⟩ ⟨(dr3 k l5).le, fun s hs => ((dr3 k l5).st s hs).mono (by decide)⟩ ?_
  refine ⟨movedBy cfl ss, _, l, rfl, fl_ok k l5, l0, by omega, ?_⟩
  simp only [rGN, st]
  exact hN _ _ (t4 k l0 l4 hp ht hg hm hx hR)
theorem t6 (o : okI 12 ss) (k : Kn ss I) (l5 : ss.length ≤ 5) (l0 : 0 ≤ l) (l4 : l ≤ 4) (hp : μ p = some (.lst ((rowsS ss l).map D.str))) (ht : μ Γ.tab = some (.tab lamQ)) (hg : g ≠ Γ.tab) (hm : μ g = some (.lst xs)) (hx : RL xs) (hR : ∀ μ', R (.bl true) μ') :
    rd_law_t6 Γ (fin R) [s0, some (.ref g), s2, some (.int l), some (drawD Γ ss), some (.ref p), s6, s7, s8, s9, s10, s11] μ := by
  unfold rd_law_t6
  refine seq_g fun N hN => ?_
  simp only [rIf, rNot, rB, rCl, rCons, rNil, rJoin, rC, rVar, gt]
  refine ⟨ss, 12, l, rfl, o, l0, by omega, ?_⟩
  refine ⟨rowsS ss l, by simp only [res, hp, seqD], rows_sum ss l0 (by omega), ?_⟩
  refine equal_i rfl (ok_rows ss l) ?_
  simp only [Bool.not_true, Bool.false_eq_true, if_false, rNext]
  exact hN _ _ (t5 k l5 l0 l4 hp ht hg hm hx hR)
/-! ### the rows -/
open Classical in
theorem f1 (k : Kn ss I) (l0 : 0 ≤ l) (l4 : l ≤ 4) {x y : Int} {pre : List Int} (hx : -4 ≤ x ∧ x ≤ 4) (hy : -4 ≤ y ∧ y ≤ 4) (hl : pre.length ≤ 100)
    (h : E.nx [s0, s1, some (strsD ss), s3, s4, s5, some (.int y), some (.str (rowP ss y (pre ++ [x]))), some (.int x), s9, s10, s11] μ) :
    rd_law_f1 Γ E [s0, s1, some (strsD ss), s3, s4, s5, some (.int y), some (.str (rowP ss y pre)), some (.int x), s9, s10, s11] μ := by
  unfold rd_law_f1
  simp only [rAsg, rOp, rVar, rC, rCl, rCons, rNil, rTup, gt]
  refine ⟨by show 3 ≤ 2 ^ 24; decide, ?_⟩
  show sp_law_covers Γ [strsD ss, numD ⟨x, y, 1⟩] μ _
  refine lcov_i (okL3_tn k.ks (by have := k.l6; omega)) (spot_ok (by omega) (by omega)) ?_
  rw [spot_q]
  have e : ∃ c, atI (".#" : Str).cps.toList (if decide (covS ss ((x : Rat), (y : Rat))) = true then 1 else 0) = some c ∧ (⟨#[c]⟩ : Str) = pixS ss x y := by
    unfold pixS
    by_cases q : covS ss ((x : Rat), (y : Rat))
    · rw [decide_eq_true q, if_pos q]
      exact ⟨35, by decide +kernel, rfl⟩
    · rw [decide_eq_false q, if_neg q]
      exact ⟨46, by decide +kernel, rfl⟩
  obtain ⟨c, e1, e2⟩ := e
  refine ⟨by show 2 ≤ 2 ^ 24; decide, c, e1, ?_⟩
  rw [e2]
  refine ⟨?_, ?_⟩
  · rw [rowP_len, ← tl_len, pix_len]
    show _ ≤ 2 ^ 24
    omega
  rw [rowP_more]
  simp only [rGN, st]
  exact h
theorem f1_loop (k : Kn ss I) (l0 : 0 ≤ l) (l4 : l ≤ 4) {y : Int} (hy : -4 ≤ y ∧ y ≤ 4) : ∀ (xs pre : List Int) (s8 : Option D), (∀ x ∈ xs, -4 ≤ x ∧ x ≤ 4) → pre.length + xs.length ≤ 100 →
    (∀ s8, E.nx [s0, s1, some (strsD ss), s3, s4, s5, some (.int y), some (.str (rowP ss y (pre ++ xs))), s8, s9, s10, s11] μ) →
    forD (rGN 8) (rd_law_f1 Γ) tru E (xs.map D.int) [s0, s1, some (strsD ss), s3, s4, s5, some (.int y), some (.str (rowP ss y pre)), s8, s9, s10, s11] μ
  | [], pre, s8, _, _, h => ⟨trivial, by have := h s8; rw [List.append_nil] at this; exact this⟩
  | x :: xs, pre, s8, hx, hl, h => by
    refine ⟨trivial, ?_⟩
    simp only [rGN, st]
    rw [List.length_cons] at hl
    refine f1 k l0 l4 (hx x (List.mem_cons_self ..)) hy (by omega) ?_
    refine f1_loop k l0 l4 hy xs (pre ++ [x]) _ (fun w hw => hx w (List.mem_cons_of_mem _ hw)) (by rw [List.length_append]; simp; omega) ?_
    rw [List.append_assoc]
    exact h
theorem f2_loop (k : Kn ss I) (l0 : 0 ≤ l) (l4 : l ≤ 4) : ∀ (ys pre : List Int) (μ : MH) (s6 s7 s8 : Option D), (∀ y ∈ ys, -4 ≤ y ∧ y ≤ 4) → pre.length + ys.length ≤ 100 → μ p = some (.lst ((pre.map (rowS ss l)).map D.str)) →
    (∀ s6 s7 s8, E.nx [s0, s1, some (strsD ss), some (.int l), s4, some (.ref p), s6, s7, s8, s9, s10, s11] (updM μ p (.lst (((pre ++ ys).map (rowS ss l)).map D.str)))) →
    forD (rGN 6) (rd_law_f2 Γ) tru E (ys.map D.int) [s0, s1, some (strsD ss), some (.int l), s4, some (.ref p), s6, s7, s8, s9, s10, s11] μ
  | [], pre, μ, s6, s7, s8, _, _, hp, h => ⟨trivial, by
    have := h s6 s7 s8
    rw [List.append_nil, updM_idL hp] at this
    exact this⟩
  | y :: ys, pre, μ, s6, s7, s8, hy, hl, hp, h => by
    refine ⟨trivial, ?_⟩
    simp only [rGN, st]
    rw [List.length_cons] at hl
    unfold rd_law_f2
    refine seq_g fun N hN => ?_
    simp only [rAsg, rC, rGN, st]
    refine hN _ _ ?_
    clear hN N
    refine seq_g fun N hN => ?_
    simp only [rFor, rIRng2, rCons, rOp, rC, rVar, rNil, gt, gSub, gAdd, gI0]
    refine ⟨by unfold inR; omega, by unfold inR; omega, ?_⟩
    rw [rangeD_intsL]
    have sl := side_len2 l0
    rw [← rowP_nil ss y]
    refine f1_loop k l0 l4 (hy y (List.mem_cons_self ..)) (sideL l) [] _ (fun x hx => ?_) (by show 0 + _ ≤ 100; omega) fun s8 => hN _ _ ?_
    · rw [side_mem l0] at hx
      omega
    clear hN N
    simp only [rDrop, rMut, rVar, rCons, rNil, gt, gAppend, hp]
    refine ⟨by rw [List.length_map, List.length_map]; show _ < 2 ^ 24; omega, ?_⟩
    have e : (pre.map (rowS ss l)).map D.str ++ [D.str (rowP ss y ([] ++ sideL l))] = ((pre ++ [y]).map (rowS ss l)).map D.str := by
      rw [List.map_append, List.map_append]
      rfl
    rw [e]
    refine f2_loop k l0 l4 ys (pre ++ [y]) _ _ _ _ (fun w hw => hy w (List.mem_cons_of_mem _ hw)) (by rw [List.length_append]; simp; omega) updM_same fun s6 s7 s8 => ?_
    rw [updM_updM, List.append_assoc]
    exact h _ _ _
theorem t7 (o : okI 12 ss) (k : Kn ss I) (l5 : ss.length ≤ 5) (l0 : 0 ≤ l) (l4 : l ≤ 4) (hp : μ p = some (.lst [])) (pt : p ≠ Γ.tab) (pg : p ≠ g) (ht : μ Γ.tab = some (.tab lamQ)) (hg : g ≠ Γ.tab) (hm : μ g = some (.lst xs)) (hx : RL xs) (hR : ∀ μ', R (.bl true) μ') :
    rd_law_t7 Γ (fin R) [s0, some (.ref g), some (strsD ss), some (.int l), some (drawD Γ ss), some (.ref p), s6, s7, s8, s9, s10, s11] μ := by
  unfold rd_law_t7
  refine seq_g fun N hN => ?_
  simp only [rFor, rIRng3, rCons, rOp, rC, rVar, rNil, gt, gSub, gI0]
  refine ⟨by decide, by unfold inR; omega, by unfold inR; omega, ?_⟩
  rw [down_side l0]
  have sl := side_len2 l0
  refine f2_loop k l0 l4 (sideL l).reverse [] _ _ _ _ (fun y hy => ?_) (by rw [List.length_reverse]; show 0 + _ ≤ 100; omega) hp fun s6 s7 s8 => hN _ _ ?_
  · rw [List.mem_reverse, side_mem l0] at hy
    omega
  · exact t6 o k l5 l0 l4 updM_same (by rw [updM_ne pt.symm]; exact ht) hg (by rw [updM_ne pg.symm]; exact hm) hx hR
end
theorem vc_law (Γ : CL) : ∀ ds μ R, lawT Γ.tab lamQ ds μ R → rd_law Γ (fin R) (startD 12 ds) μ := by
  rintro ds μ R ⟨ns, rfl, hn, ht, hR⟩
  unfold rd_law
  rw [show startD 12 [.scr (ns.map D.int)] = [some (.scr (ns.map D.int)), none, none, none, none, none, none, none, none, none, none, none] from rfl]
  refine seq_g fun N hN => ?_
  simp only [rAsg, rCl, rCons, rVar, rC, gt, rNil]
  refine ⟨ns, 34, rfl, by decide, by decide, hn, fun g xs hg hx => ?_⟩
  have gt' : g ≠ Γ.tab := fun e => by rw [e, ht] at hg; cases hg
  simp only [rGN, st]
  refine hN _ _ ?_
  clear hN N
  unfold rd_law_t9
  refine seq_g fun N hN => ?_
  simp only [rPar, rCl, rCons, rVar, rC, gt, rNil]
  refine strokesT_i (by decide) (by decide) updM_same hx fun ss ys l5 ks hy => ?_
  rw [updM_updM]
  refine ⟨g, 5, ys, rfl, by decide, by decide, updM_same, hy, fun l zs l0 l1 hz => ?_⟩
  rw [updM_updM]
  simp only [st]
  refine hN _ _ ?_
  clear hN N
  obtain ⟨o, k⟩ := kn_of ks (by omega)
  unfold rd_law_t8
  refine seq_g fun N hN => ?_
  simp only [rAsg, rTup, rCl, rCons, rVar, rLstM, gt, rNil]
  refine draw_i (okDr_tn ks (by omega)) ?_
  refine ⟨by show 0 ≤ 2 ^ 24; decide, fun p hp => ?_⟩
  refine ⟨by show 2 ≤ 2 ^ 24; decide, rfl, ?_⟩
  simp only [rGCons, rGNil, rGN, st, true_and]
  refine hN _ _ ?_
  have pt : p ≠ Γ.tab := fun e => by rw [e, updM_ne gt'.symm, ht] at hp; cases hp
  have pg : p ≠ g := fun e => by rw [e, updM_same] at hp; cases hp
  exact t7 o k (by omega) (by omega) (by omega) updM_same pt pg (by rw [updM_ne pt.symm, updM_ne gt'.symm]; exact ht) gt' (by rw [updM_ne pg.symm]; exact updM_same) hz hR
end L3.K34

/-! ## A_k34 -/
set_option Elab.async false
set_option linter.all false
set_option maxRecDepth 100000
set_option maxHeartbeats 0
namespace L3.K34
open PySem PySem.Spec PyProof.Rows L2 NM
def Γ0 (K : PySem.W.Frag) : CL := ⟨He.ga K "Copy", He.ga K "Drawing", He.ga K "Arm", He.ga K "Chain", He.ga K "Reader", lawP K, fun s => He.ga K s⟩
section
variable {P : Program} {w : World} {K : PySem.W.Frag} {mg : Str → Option Value} {base : Heap}
theorem ln_law_random (Γ : CL) : ∀ ds μ R, sp_law_random Γ ds μ R → ds.length = 2 := by
  intro ds μ R h
  first | (unfold sp_law_random at h; split at h <;> first | rfl | exact h.elim) | (obtain ⟨rfl, _⟩ := h <;> rfl) | (obtain ⟨_, rfl, _⟩ := h <;> rfl) | (obtain ⟨_, _, rfl, _⟩ := h <;> rfl) | (obtain ⟨_, _, _, rfl, _⟩ := h <;> rfl) | (obtain ⟨_, _, _, _, rfl, _⟩ := h <;> rfl) | (obtain ⟨_, _, _, _, _, rfl, _⟩ := h <;> rfl) | (obtain ⟨_, _, _, _, _, _, rfl, _⟩ := h <;> rfl) | (obtain ⟨_, _, _, _, _, _, _, rfl, _⟩ := h <;> rfl) | (obtain ⟨_, _, _, _, _, _, _, _, rfl, _⟩ := h <;> rfl) | (obtain ⟨rfl | rfl, _⟩ := h <;> rfl) | (obtain ⟨_, rfl | rfl, _⟩ := h <;> rfl) | (obtain ⟨_, _, rfl | rfl, _⟩ := h <;> rfl) | (obtain ⟨_, _, _, rfl | rfl, _⟩ := h <;> rfl) | (obtain ⟨_, ⟨_, rfl, _⟩ | ⟨_, rfl, _⟩⟩ := h <;> rfl)
theorem ok_law_random {fd : FuncData} (T : Fc K mg (Γ0 K)) (F : FunD K "_law_random" "_law_random" (defArgs (top 55)) (defBody (top 55)) (defScope (top 55)) [] [] (He.ga K "_law_random") fd)  : FnOk P w K mg base CX0 1 (He.ga K "_law_random") fd ["_law_script", "_law_salt"] (spD K (sp_law_random (Γ0 K))) :=
  fnD F sc_law_random (ln_law_random (Γ0 K)) (fun cdv A outer s0 H E hr => dv_law_random (Γ0 K) T  cdv A outer s0 H E hr) (vc_law_random (Γ0 K))
theorem ln_law_below (Γ : CL) : ∀ ds μ R, sp_law_below Γ ds μ R → ds.length = 2 := by
  intro ds μ R h
  first | (unfold sp_law_below at h; split at h <;> first | rfl | exact h.elim) | (obtain ⟨rfl, _⟩ := h <;> rfl) | (obtain ⟨_, rfl, _⟩ := h <;> rfl) | (obtain ⟨_, _, rfl, _⟩ := h <;> rfl) | (obtain ⟨_, _, _, rfl, _⟩ := h <;> rfl) | (obtain ⟨_, _, _, _, rfl, _⟩ := h <;> rfl) | (obtain ⟨_, _, _, _, _, rfl, _⟩ := h <;> rfl) | (obtain ⟨_, _, _, _, _, _, rfl, _⟩ := h <;> rfl) | (obtain ⟨_, _, _, _, _, _, _, rfl, _⟩ := h <;> rfl) | (obtain ⟨_, _, _, _, _, _, _, _, rfl, _⟩ := h <;> rfl) | (obtain ⟨rfl | rfl, _⟩ := h <;> rfl) | (obtain ⟨_, rfl | rfl, _⟩ := h <;> rfl) | (obtain ⟨_, _, rfl | rfl, _⟩ := h <;> rfl) | (obtain ⟨_, _, _, rfl | rfl, _⟩ := h <;> rfl) | (obtain ⟨_, ⟨_, rfl, _⟩ | ⟨_, rfl, _⟩⟩ := h <;> rfl)
theorem ok_law_below {fd : FuncData} (T : Fc K mg (Γ0 K)) (F : FunD K "_law_below" "_law_below" (defArgs (top 56)) (defBody (top 56)) (defScope (top 56)) [] [] (He.ga K "_law_below") fd)  : FnOk P w K mg base CX0 1 (He.ga K "_law_below") fd ["_law_d", "_law_limit"] (spD K (sp_law_below (Γ0 K))) :=
  fnD F sc_law_below (ln_law_below (Γ0 K)) (fun cdv A outer s0 H E hr => dv_law_below (Γ0 K) T  cdv A outer s0 H E hr) (vc_law_below (Γ0 K))
theorem ln_law_step (Γ : CL) : ∀ ds μ R, sp_law_step Γ ds μ R → ds.length = 2 := by
  intro ds μ R h
  first | (unfold sp_law_step at h; split at h <;> first | rfl | exact h.elim) | (obtain ⟨rfl, _⟩ := h <;> rfl) | (obtain ⟨_, rfl, _⟩ := h <;> rfl) | (obtain ⟨_, _, rfl, _⟩ := h <;> rfl) | (obtain ⟨_, _, _, rfl, _⟩ := h <;> rfl) | (obtain ⟨_, _, _, _, rfl, _⟩ := h <;> rfl) | (obtain ⟨_, _, _, _, _, rfl, _⟩ := h <;> rfl) | (obtain ⟨_, _, _, _, _, _, rfl, _⟩ := h <;> rfl) | (obtain ⟨_, _, _, _, _, _, _, rfl, _⟩ := h <;> rfl) | (obtain ⟨_, _, _, _, _, _, _, _, rfl, _⟩ := h <;> rfl) | (obtain ⟨rfl | rfl, _⟩ := h <;> rfl) | (obtain ⟨_, rfl | rfl, _⟩ := h <;> rfl) | (obtain ⟨_, _, rfl | rfl, _⟩ := h <;> rfl) | (obtain ⟨_, _, _, rfl | rfl, _⟩ := h <;> rfl) | (obtain ⟨_, ⟨_, rfl, _⟩ | ⟨_, rfl, _⟩⟩ := h <;> rfl)
theorem ok_law_step {fd : FuncData} (T : Fc K mg (Γ0 K)) (F : FunD K "_law_step" "_law_step" (defArgs (top 57)) (defBody (top 57)) (defScope (top 57)) [] [] (He.ga K "_law_step") fd) (G_law_below : FnG P w K mg base 1 "_law_below" (sp_law_below (Γ0 K))) : FnOk P w K mg base CX0 2 (He.ga K "_law_step") fd ["_law_d", "_law_size_now"] (spD K (sp_law_step (Γ0 K))) :=
  fnD F sc_law_step (ln_law_step (Γ0 K)) (fun cdv A outer s0 H E hr => dv_law_step (Γ0 K) T G_law_below cdv A outer s0 H E hr) (vc_law_step (Γ0 K))
theorem ln_law_common (Γ : CL) : ∀ ds μ R, sp_law_common Γ ds μ R → ds.length = 2 := by
  intro ds μ R h
  first | (unfold sp_law_common sp_common_divisor at h; split at h <;> first | rfl | exact h.elim) | (replace h : sp_common_divisor Γ ds μ R := h; obtain ⟨_, _, rfl, _⟩ := h; rfl) | (obtain ⟨rfl, _⟩ := h <;> rfl) | (obtain ⟨_, rfl, _⟩ := h <;> rfl) | (obtain ⟨_, _, rfl, _⟩ := h <;> rfl) | (obtain ⟨_, _, _, rfl, _⟩ := h <;> rfl) | (obtain ⟨_, _, _, _, rfl, _⟩ := h <;> rfl) | (obtain ⟨_, _, _, _, _, rfl, _⟩ := h <;> rfl) | (obtain ⟨_, _, _, _, _, _, rfl, _⟩ := h <;> rfl) | (obtain ⟨_, _, _, _, _, _, _, rfl, _⟩ := h <;> rfl) | (obtain ⟨_, _, _, _, _, _, _, _, rfl, _⟩ := h <;> rfl) | (obtain ⟨rfl | rfl, _⟩ := h <;> rfl) | (obtain ⟨_, rfl | rfl, _⟩ := h <;> rfl) | (obtain ⟨_, _, rfl | rfl, _⟩ := h <;> rfl) | (obtain ⟨_, _, _, rfl | rfl, _⟩ := h <;> rfl) | (obtain ⟨_, ⟨_, rfl, _⟩ | ⟨_, rfl, _⟩⟩ := h <;> rfl)
theorem ok_law_common {fd : FuncData} (T : Fc K mg (Γ0 K)) (F : FunD K "_law_common" "_law_common" (defArgs (top 58)) (defBody (top 58)) (defScope (top 58)) [] [] (He.ga K "_law_common") fd)  : FnOk P w K mg base CX0 1 (He.ga K "_law_common") fd ["_law_one", "_law_other"] (spD K (sp_law_common (Γ0 K))) :=
  fnD F sc_law_common (ln_law_common (Γ0 K)) (fun cdv A outer s0 H E hr => dv_law_common (Γ0 K) T  cdv A outer s0 H E hr) (vc_law_common (Γ0 K))
theorem ln_law_lowest (Γ : CL) : ∀ ds μ R, sp_law_lowest Γ ds μ R → ds.length = 3 := by
  intro ds μ R h
  first | (unfold sp_law_lowest sp_lowest at h; split at h <;> first | rfl | exact h.elim) | (replace h : sp_lowest Γ ds μ R := h; obtain ⟨_, _, rfl, _⟩ := h; rfl) | (obtain ⟨rfl, _⟩ := h <;> rfl) | (obtain ⟨_, rfl, _⟩ := h <;> rfl) | (obtain ⟨_, _, rfl, _⟩ := h <;> rfl) | (obtain ⟨_, _, _, rfl, _⟩ := h <;> rfl) | (obtain ⟨_, _, _, _, rfl, _⟩ := h <;> rfl) | (obtain ⟨_, _, _, _, _, rfl, _⟩ := h <;> rfl) | (obtain ⟨_, _, _, _, _, _, rfl, _⟩ := h <;> rfl) | (obtain ⟨_, _, _, _, _, _, _, rfl, _⟩ := h <;> rfl) | (obtain ⟨_, _, _, _, _, _, _, _, rfl, _⟩ := h <;> rfl) | (obtain ⟨rfl | rfl, _⟩ := h <;> rfl) | (obtain ⟨_, rfl | rfl, _⟩ := h <;> rfl) | (obtain ⟨_, _, rfl | rfl, _⟩ := h <;> rfl) | (obtain ⟨_, _, _, rfl | rfl, _⟩ := h <;> rfl) | (obtain ⟨_, ⟨_, rfl, _⟩ | ⟨_, rfl, _⟩⟩ := h <;> rfl)
theorem ok_law_lowest {fd : FuncData} (T : Fc K mg (Γ0 K)) (F : FunD K "_law_lowest" "_law_lowest" (defArgs (top 59)) (defBody (top 59)) (defScope (top 59)) [] [] (He.ga K "_law_lowest") fd) (G_law_common : FnG P w K mg base 1 "_law_common" (sp_law_common (Γ0 K))) : FnOk P w K mg base CX0 2 (He.ga K "_law_lowest") fd ["_law_x", "_law_y", "_law_q"] (spD K (sp_law_lowest (Γ0 K))) :=
  fnD F sc_law_lowest (ln_law_lowest (Γ0 K)) (fun cdv A outer s0 H E hr => dv_law_lowest (Γ0 K) T G_law_common cdv A outer s0 H E hr) (vc_law_lowest (Γ0 K))
theorem ln_law_spotT (Γ : CL) : ∀ ds μ R, sp_law_spotT Γ ds μ R → ds.length = 1 := by
  intro ds μ R h
  first | (unfold sp_law_spotT at h; split at h <;> first | rfl | exact h.elim) | (obtain ⟨rfl, _⟩ := h <;> rfl) | (obtain ⟨_, rfl, _⟩ := h <;> rfl) | (obtain ⟨_, _, rfl, _⟩ := h <;> rfl) | (obtain ⟨_, _, _, rfl, _⟩ := h <;> rfl) | (obtain ⟨_, _, _, _, rfl, _⟩ := h <;> rfl) | (obtain ⟨_, _, _, _, _, rfl, _⟩ := h <;> rfl) | (obtain ⟨_, _, _, _, _, _, rfl, _⟩ := h <;> rfl) | (obtain ⟨_, _, _, _, _, _, _, rfl, _⟩ := h <;> rfl) | (obtain ⟨_, _, _, _, _, _, _, _, rfl, _⟩ := h <;> rfl) | (obtain ⟨rfl | rfl, _⟩ := h <;> rfl) | (obtain ⟨_, rfl | rfl, _⟩ := h <;> rfl) | (obtain ⟨_, _, rfl | rfl, _⟩ := h <;> rfl) | (obtain ⟨_, _, _, rfl | rfl, _⟩ := h <;> rfl) | (obtain ⟨_, ⟨_, rfl, _⟩ | ⟨_, rfl, _⟩⟩ := h <;> rfl)
theorem ok_law_spotT {fd : FuncData} (T : Fc K mg (Γ0 K)) (F : FunD K "_law_spot" "_law_spot" (defArgs (top 60)) (defBody (top 60)) (defScope (top 60)) [] [] (He.ga K "_law_spot") fd) (G_law_below : FnG P w K mg base 1 "_law_below" (sp_law_below (Γ0 K))) (G_law_lowest : FnG P w K mg base 2 "_law_lowest" (sp_law_lowest (Γ0 K))) : FnOk P w K mg base CX0 3 (He.ga K "_law_spot") fd ["_law_d"] (spD K (sp_law_spotT (Γ0 K))) :=
  fnD F sc_law_spotT (ln_law_spotT (Γ0 K)) (fun cdv A outer s0 H E hr => dv_law_spotT (Γ0 K) T G_law_below G_law_lowest cdv A outer s0 H E hr) (vc_law_spotT (Γ0 K))
theorem ln_law_strokeT (Γ : CL) : ∀ ds μ R, sp_law_strokeT Γ ds μ R → ds.length = 2 := by
  intro ds μ R h
  first | (unfold sp_law_strokeT at h; split at h <;> first | rfl | exact h.elim) | (obtain ⟨rfl, _⟩ := h <;> rfl) | (obtain ⟨_, rfl, _⟩ := h <;> rfl) | (obtain ⟨_, _, rfl, _⟩ := h <;> rfl) | (obtain ⟨_, _, _, rfl, _⟩ := h <;> rfl) | (obtain ⟨_, _, _, _, rfl, _⟩ := h <;> rfl) | (obtain ⟨_, _, _, _, _, rfl, _⟩ := h <;> rfl) | (obtain ⟨_, _, _, _, _, _, rfl, _⟩ := h <;> rfl) | (obtain ⟨_, _, _, _, _, _, _, rfl, _⟩ := h <;> rfl) | (obtain ⟨_, _, _, _, _, _, _, _, rfl, _⟩ := h <;> rfl) | (obtain ⟨rfl | rfl, _⟩ := h <;> rfl) | (obtain ⟨_, rfl | rfl, _⟩ := h <;> rfl) | (obtain ⟨_, _, rfl | rfl, _⟩ := h <;> rfl) | (obtain ⟨_, _, _, rfl | rfl, _⟩ := h <;> rfl) | (obtain ⟨_, ⟨_, rfl, _⟩ | ⟨_, rfl, _⟩⟩ := h <;> rfl)
theorem ok_law_strokeT {fd : FuncData} (T : Fc K mg (Γ0 K)) (F : FunD K "_law_stroke" "_law_stroke" (defArgs (top 61)) (defBody (top 61)) (defScope (top 61)) [] [] (He.ga K "_law_stroke") fd) (G_law_step : FnG P w K mg base 2 "_law_step" (sp_law_step (Γ0 K))) (G_law_below : FnG P w K mg base 1 "_law_below" (sp_law_below (Γ0 K))) (G_law_spotT : FnG P w K mg base 3 "_law_spot" (sp_law_spotT (Γ0 K))) : FnOk P w K mg base CX0 4 (He.ga K "_law_stroke") fd ["_law_d", "_law_most"] (spD K (sp_law_strokeT (Γ0 K))) :=
  fnD F sc_law_strokeT (ln_law_strokeT (Γ0 K)) (fun cdv A outer s0 H E hr => dv_law_strokeT (Γ0 K) T G_law_step G_law_below G_law_spotT cdv A outer s0 H E hr) (vc_law_strokeT (Γ0 K))
theorem ln_law_strokesT (Γ : CL) : ∀ ds μ R, sp_law_strokesT Γ ds μ R → ds.length = 2 := by
  intro ds μ R h
  first | (unfold sp_law_strokesT at h; split at h <;> first | rfl | exact h.elim) | (obtain ⟨rfl, _⟩ := h <;> rfl) | (obtain ⟨_, rfl, _⟩ := h <;> rfl) | (obtain ⟨_, _, rfl, _⟩ := h <;> rfl) | (obtain ⟨_, _, _, rfl, _⟩ := h <;> rfl) | (obtain ⟨_, _, _, _, rfl, _⟩ := h <;> rfl) | (obtain ⟨_, _, _, _, _, rfl, _⟩ := h <;> rfl) | (obtain ⟨_, _, _, _, _, _, rfl, _⟩ := h <;> rfl) | (obtain ⟨_, _, _, _, _, _, _, rfl, _⟩ := h <;> rfl) | (obtain ⟨_, _, _, _, _, _, _, _, rfl, _⟩ := h <;> rfl) | (obtain ⟨rfl | rfl, _⟩ := h <;> rfl) | (obtain ⟨_, rfl | rfl, _⟩ := h <;> rfl) | (obtain ⟨_, _, rfl | rfl, _⟩ := h <;> rfl) | (obtain ⟨_, _, _, rfl | rfl, _⟩ := h <;> rfl) | (obtain ⟨_, ⟨_, rfl, _⟩ | ⟨_, rfl, _⟩⟩ := h <;> rfl)
theorem ok_law_strokesT {fd : FuncData} (T : Fc K mg (Γ0 K)) (F : FunD K "_law_strokes" "_law_strokes" (defArgs (top 62)) (defBody (top 62)) (defScope (top 62)) [] [] (He.ga K "_law_strokes") fd) (G_law_below : FnG P w K mg base 1 "_law_below" (sp_law_below (Γ0 K))) (G_law_strokeT : FnG P w K mg base 4 "_law_stroke" (sp_law_strokeT (Γ0 K))) : FnOk P w K mg base CX0 5 (He.ga K "_law_strokes") fd ["_law_d", "_law_most"] (spD K (sp_law_strokesT (Γ0 K))) :=
  fnD F sc_law_strokesT (ln_law_strokesT (Γ0 K)) (fun cdv A outer s0 H E hr => dv_law_strokesT (Γ0 K) T G_law_below G_law_strokeT cdv A outer s0 H E hr) (vc_law_strokesT (Γ0 K))
theorem ln_is_int (Γ : CL) : ∀ ds μ R, sp_is_int Γ ds μ R → ds.length = 1 := by
  intro ds μ R h
  first | (unfold sp_is_int at h; split at h <;> first | rfl | exact h.elim) | (obtain ⟨rfl, _⟩ := h <;> rfl) | (obtain ⟨_, rfl, _⟩ := h <;> rfl) | (obtain ⟨_, _, rfl, _⟩ := h <;> rfl) | (obtain ⟨_, _, _, rfl, _⟩ := h <;> rfl) | (obtain ⟨_, _, _, _, rfl, _⟩ := h <;> rfl) | (obtain ⟨_, _, _, _, _, rfl, _⟩ := h <;> rfl) | (obtain ⟨_, _, _, _, _, _, rfl, _⟩ := h <;> rfl) | (obtain ⟨_, _, _, _, _, _, _, rfl, _⟩ := h <;> rfl) | (obtain ⟨_, _, _, _, _, _, _, _, rfl, _⟩ := h <;> rfl) | (obtain ⟨rfl | rfl, _⟩ := h <;> rfl) | (obtain ⟨_, rfl | rfl, _⟩ := h <;> rfl) | (obtain ⟨_, _, rfl | rfl, _⟩ := h <;> rfl) | (obtain ⟨_, _, _, rfl | rfl, _⟩ := h <;> rfl) | (obtain ⟨_, ⟨_, rfl, _⟩ | ⟨_, rfl, _⟩⟩ := h <;> rfl)
theorem ok_is_int {fd : FuncData} (T : Fc K mg (Γ0 K)) (F : FunD K "is_int" "is_int" (defArgs (top 25)) (defBody (top 25)) (defScope (top 25)) [] [] (He.ga K "is_int") fd)  : FnOk P w K mg base CX0 1 (He.ga K "is_int") fd ["value"] (spD K (sp_is_int (Γ0 K))) :=
  fnD F sc_is_int (ln_is_int (Γ0 K)) (fun cdv A outer s0 H E hr => dv_is_int (Γ0 K) T  cdv A outer s0 H E hr) (vc_is_int (Γ0 K))
theorem ln_common_divisor (Γ : CL) : ∀ ds μ R, sp_common_divisor Γ ds μ R → ds.length = 2 := by
  intro ds μ R h
  first | (unfold sp_common_divisor at h; split at h <;> first | rfl | exact h.elim) | (obtain ⟨rfl, _⟩ := h <;> rfl) | (obtain ⟨_, rfl, _⟩ := h <;> rfl) | (obtain ⟨_, _, rfl, _⟩ := h <;> rfl) | (obtain ⟨_, _, _, rfl, _⟩ := h <;> rfl) | (obtain ⟨_, _, _, _, rfl, _⟩ := h <;> rfl) | (obtain ⟨_, _, _, _, _, rfl, _⟩ := h <;> rfl) | (obtain ⟨_, _, _, _, _, _, rfl, _⟩ := h <;> rfl) | (obtain ⟨_, _, _, _, _, _, _, rfl, _⟩ := h <;> rfl) | (obtain ⟨_, _, _, _, _, _, _, _, rfl, _⟩ := h <;> rfl) | (obtain ⟨rfl | rfl, _⟩ := h <;> rfl) | (obtain ⟨_, rfl | rfl, _⟩ := h <;> rfl) | (obtain ⟨_, _, rfl | rfl, _⟩ := h <;> rfl) | (obtain ⟨_, _, _, rfl | rfl, _⟩ := h <;> rfl) | (obtain ⟨_, ⟨_, rfl, _⟩ | ⟨_, rfl, _⟩⟩ := h <;> rfl)
theorem ok_common_divisor {fd : FuncData} (T : Fc K mg (Γ0 K)) (F : FunD K "common_divisor" "common_divisor" (defArgs (top 26)) (defBody (top 26)) (defScope (top 26)) [] [] (He.ga K "common_divisor") fd)  : FnOk P w K mg base CX0 1 (He.ga K "common_divisor") fd ["one", "other"] (spD K (sp_common_divisor (Γ0 K))) :=
  fnD F sc_common_divisor (ln_common_divisor (Γ0 K)) (fun cdv A outer s0 H E hr => dv_common_divisor (Γ0 K) T  cdv A outer s0 H E hr) (vc_common_divisor (Γ0 K))
theorem ln_lowest (Γ : CL) : ∀ ds μ R, sp_lowest Γ ds μ R → ds.length = 3 := by
  intro ds μ R h
  first | (unfold sp_lowest at h; split at h <;> first | rfl | exact h.elim) | (obtain ⟨rfl, _⟩ := h <;> rfl) | (obtain ⟨_, rfl, _⟩ := h <;> rfl) | (obtain ⟨_, _, rfl, _⟩ := h <;> rfl) | (obtain ⟨_, _, _, rfl, _⟩ := h <;> rfl) | (obtain ⟨_, _, _, _, rfl, _⟩ := h <;> rfl) | (obtain ⟨_, _, _, _, _, rfl, _⟩ := h <;> rfl) | (obtain ⟨_, _, _, _, _, _, rfl, _⟩ := h <;> rfl) | (obtain ⟨_, _, _, _, _, _, _, rfl, _⟩ := h <;> rfl) | (obtain ⟨_, _, _, _, _, _, _, _, rfl, _⟩ := h <;> rfl) | (obtain ⟨rfl | rfl, _⟩ := h <;> rfl) | (obtain ⟨_, rfl | rfl, _⟩ := h <;> rfl) | (obtain ⟨_, _, rfl | rfl, _⟩ := h <;> rfl) | (obtain ⟨_, _, _, rfl | rfl, _⟩ := h <;> rfl) | (obtain ⟨_, ⟨_, rfl, _⟩ | ⟨_, rfl, _⟩⟩ := h <;> rfl)
theorem ok_lowest {fd : FuncData} (T : Fc K mg (Γ0 K)) (F : FunD K "lowest" "lowest" (defArgs (top 28)) (defBody (top 28)) (defScope (top 28)) [] [] (He.ga K "lowest") fd) (G_common_divisor : FnG P w K mg base 1 "common_divisor" (sp_common_divisor (Γ0 K))) : FnOk P w K mg base CX0 2 (He.ga K "lowest") fd ["x", "y", "d"] (spD K (sp_lowest (Γ0 K))) :=
  fnD F sc_lowest (ln_lowest (Γ0 K)) (fun cdv A outer s0 H E hr => dv_lowest (Γ0 K) T G_common_divisor cdv A outer s0 H E hr) (vc_lowest (Γ0 K))
theorem ln_is_number (Γ : CL) : ∀ ds μ R, sp_is_number Γ ds μ R → ds.length = 1 := by
  intro ds μ R h
  first | (unfold sp_is_number at h; split at h <;> first | rfl | exact h.elim) | (obtain ⟨rfl, _⟩ := h <;> rfl) | (obtain ⟨_, rfl, _⟩ := h <;> rfl) | (obtain ⟨_, _, rfl, _⟩ := h <;> rfl) | (obtain ⟨_, _, _, rfl, _⟩ := h <;> rfl) | (obtain ⟨_, _, _, _, rfl, _⟩ := h <;> rfl) | (obtain ⟨_, _, _, _, _, rfl, _⟩ := h <;> rfl) | (obtain ⟨_, _, _, _, _, _, rfl, _⟩ := h <;> rfl) | (obtain ⟨_, _, _, _, _, _, _, rfl, _⟩ := h <;> rfl) | (obtain ⟨_, _, _, _, _, _, _, _, rfl, _⟩ := h <;> rfl) | (obtain ⟨rfl | rfl, _⟩ := h <;> rfl) | (obtain ⟨_, rfl | rfl, _⟩ := h <;> rfl) | (obtain ⟨_, _, rfl | rfl, _⟩ := h <;> rfl) | (obtain ⟨_, _, _, rfl | rfl, _⟩ := h <;> rfl) | (obtain ⟨_, ⟨_, rfl, _⟩ | ⟨_, rfl, _⟩⟩ := h <;> rfl)
theorem ok_is_number {fd : FuncData} (T : Fc K mg (Γ0 K)) (F : FunD K "is_number" "is_number" (defArgs (top 30)) (defBody (top 30)) (defScope (top 30)) [] [] (He.ga K "is_number") fd) (G_is_int : FnG P w K mg base 1 "is_int" (sp_is_int (Γ0 K))) (G_lowest : FnG P w K mg base 2 "lowest" (sp_lowest (Γ0 K))) : FnOk P w K mg base CX0 3 (He.ga K "is_number") fd ["value"] (spD K (sp_is_number (Γ0 K))) :=
  fnD F sc_is_number (ln_is_number (Γ0 K)) (fun cdv A outer s0 H E hr => dv_is_number (Γ0 K) T G_is_int G_lowest cdv A outer s0 H E hr) (vc_is_number (Γ0 K))
theorem ln_check_spot (Γ : CL) : ∀ ds μ R, sp_check_spot Γ ds μ R → ds.length = 1 := by
  intro ds μ R h
  first | (unfold sp_check_spot at h; split at h <;> first | rfl | exact h.elim) | (obtain ⟨rfl, _⟩ := h <;> rfl) | (obtain ⟨_, rfl, _⟩ := h <;> rfl) | (obtain ⟨_, _, rfl, _⟩ := h <;> rfl) | (obtain ⟨_, _, _, rfl, _⟩ := h <;> rfl) | (obtain ⟨_, _, _, _, rfl, _⟩ := h <;> rfl) | (obtain ⟨_, _, _, _, _, rfl, _⟩ := h <;> rfl) | (obtain ⟨_, _, _, _, _, _, rfl, _⟩ := h <;> rfl) | (obtain ⟨_, _, _, _, _, _, _, rfl, _⟩ := h <;> rfl) | (obtain ⟨_, _, _, _, _, _, _, _, rfl, _⟩ := h <;> rfl) | (obtain ⟨rfl | rfl, _⟩ := h <;> rfl) | (obtain ⟨_, rfl | rfl, _⟩ := h <;> rfl) | (obtain ⟨_, _, rfl | rfl, _⟩ := h <;> rfl) | (obtain ⟨_, _, _, rfl | rfl, _⟩ := h <;> rfl) | (obtain ⟨_, ⟨_, rfl, _⟩ | ⟨_, rfl, _⟩⟩ := h <;> rfl)
theorem ok_check_spot {fd : FuncData} (T : Fc K mg (Γ0 K)) (F : FunD K "check_spot" "check_spot" (defArgs (top 37)) (defBody (top 37)) (defScope (top 37)) [] [] (He.ga K "check_spot") fd) (G_is_number : FnG P w K mg base 3 "is_number" (sp_is_number (Γ0 K))) : FnOk P w K mg base CX0 4 (He.ga K "check_spot") fd ["value"] (spD K (sp_check_spot (Γ0 K))) :=
  fnD F sc_check_spot (ln_check_spot (Γ0 K)) (fun cdv A outer s0 H E hr => dv_check_spot (Γ0 K) T G_is_number cdv A outer s0 H E hr) (vc_check_spot (Γ0 K))
theorem ln_check_stroke (Γ : CL) : ∀ ds μ R, sp_check_stroke Γ ds μ R → ds.length = 2 := by
  intro ds μ R h
  first | (unfold sp_check_stroke at h; split at h <;> first | rfl | exact h.elim) | (obtain ⟨rfl, _⟩ := h <;> rfl) | (obtain ⟨_, rfl, _⟩ := h <;> rfl) | (obtain ⟨_, _, rfl, _⟩ := h <;> rfl) | (obtain ⟨_, _, _, rfl, _⟩ := h <;> rfl) | (obtain ⟨_, _, _, _, rfl, _⟩ := h <;> rfl) | (obtain ⟨_, _, _, _, _, rfl, _⟩ := h <;> rfl) | (obtain ⟨_, _, _, _, _, _, rfl, _⟩ := h <;> rfl) | (obtain ⟨_, _, _, _, _, _, _, rfl, _⟩ := h <;> rfl) | (obtain ⟨_, _, _, _, _, _, _, _, rfl, _⟩ := h <;> rfl) | (obtain ⟨rfl | rfl, _⟩ := h <;> rfl) | (obtain ⟨_, rfl | rfl, _⟩ := h <;> rfl) | (obtain ⟨_, _, rfl | rfl, _⟩ := h <;> rfl) | (obtain ⟨_, _, _, rfl | rfl, _⟩ := h <;> rfl) | (obtain ⟨_, ⟨_, rfl, _⟩ | ⟨_, rfl, _⟩⟩ := h <;> rfl)
theorem ok_check_stroke {fd : FuncData} (T : Fc K mg (Γ0 K)) (F : FunD K "check_stroke" "check_stroke" (defArgs (top 44)) (defBody (top 44)) (defScope (top 44)) [] [] (He.ga K "check_stroke") fd) (G_check_spot : FnG P w K mg base 4 "check_spot" (sp_check_spot (Γ0 K))) : FnOk P w K mg base CX0 5 (He.ga K "check_stroke") fd ["stroke", "index"] (spD K (sp_check_stroke (Γ0 K))) :=
  fnD F sc_check_stroke (ln_check_stroke (Γ0 K)) (fun cdv A outer s0 H E hr => dv_check_stroke (Γ0 K) T G_check_spot cdv A outer s0 H E hr) (vc_check_stroke (Γ0 K))
theorem ok_Drawing___init {fd : FuncData} (T : Fc K mg (Γ0 K)) (F : FunD K "__init__" "Drawing.__init__" (defArgs (inClass (top 45) 0)) (defBody (inClass (top 45) 0)) (defScope (inClass (top 45) 0)) [] [] (He.ma K (He.ga K "Drawing") "__init__") fd) (G_check_stroke : FnG P w K mg base 5 "check_stroke" (sp_check_stroke (Γ0 K))) : FnR P w K mg base CX0 6 (He.ma K (He.ga K "Drawing") "__init__") (starSp (spD K (sp_Drawing___init (Γ0 K)))) :=
  fnS F sc_Drawing___init (fun _ _ _ _ _ _ => ⟨fun _ => rfl, fun _ _ _ => rfl⟩) (fun cdv A outer s0 H E hr => dv_Drawing___init (Γ0 K) T G_check_stroke cdv A outer s0 H E hr) (vc_Drawing___init (Γ0 K))
theorem ln_Drawing___add (Γ : CL) : ∀ ds μ R, sp_Drawing___add Γ ds μ R → ds.length = 2 := by
  intro ds μ R h
  first | (unfold sp_Drawing___add at h; split at h <;> first | rfl | exact h.elim) | (obtain ⟨rfl, _⟩ := h <;> rfl) | (obtain ⟨_, rfl, _⟩ := h <;> rfl) | (obtain ⟨_, _, rfl, _⟩ := h <;> rfl) | (obtain ⟨_, _, _, rfl, _⟩ := h <;> rfl) | (obtain ⟨_, _, _, _, rfl, _⟩ := h <;> rfl) | (obtain ⟨_, _, _, _, _, rfl, _⟩ := h <;> rfl) | (obtain ⟨_, _, _, _, _, _, rfl, _⟩ := h <;> rfl) | (obtain ⟨_, _, _, _, _, _, _, rfl, _⟩ := h <;> rfl) | (obtain ⟨_, _, _, _, _, _, _, _, rfl, _⟩ := h <;> rfl) | (obtain ⟨rfl | rfl, _⟩ := h <;> rfl) | (obtain ⟨_, rfl | rfl, _⟩ := h <;> rfl) | (obtain ⟨_, _, rfl | rfl, _⟩ := h <;> rfl) | (obtain ⟨_, _, _, rfl | rfl, _⟩ := h <;> rfl) | (obtain ⟨_, ⟨_, rfl, _⟩ | ⟨_, rfl, _⟩⟩ := h <;> rfl)
theorem ok_Drawing___add {fd : FuncData} (T : Fc K mg (Γ0 K)) (F : FunD K "__add__" "Drawing.__add__" (defArgs (inClass (top 45) 5)) (defBody (inClass (top 45) 5)) (defScope (inClass (top 45) 5)) [] [] (He.ma K (He.ga K "Drawing") "__add__") fd) (G_Drawing___init : MkS P w K mg base 6 "Drawing" (Γ0 K).Drawing (sp_Drawing___init (Γ0 K))) : FnOk P w K mg base CX0 8 (He.ma K (He.ga K "Drawing") "__add__") fd ["self", "other"] (spD K (sp_Drawing___add (Γ0 K))) :=
  fnD F sc_Drawing___add (ln_Drawing___add (Γ0 K)) (fun cdv A outer s0 H E hr => dv_Drawing___add (Γ0 K) T G_Drawing___init cdv A outer s0 H E hr) (vc_Drawing___add (Γ0 K))
theorem ln_law_drawing (Γ : CL) : ∀ ds μ R, sp_law_drawing Γ ds μ R → ds.length = 1 := by
  intro ds μ R h
  first | (unfold sp_law_drawing at h; split at h <;> first | rfl | exact h.elim) | (obtain ⟨rfl, _⟩ := h <;> rfl) | (obtain ⟨_, rfl, _⟩ := h <;> rfl) | (obtain ⟨_, _, rfl, _⟩ := h <;> rfl) | (obtain ⟨_, _, _, rfl, _⟩ := h <;> rfl) | (obtain ⟨_, _, _, _, rfl, _⟩ := h <;> rfl) | (obtain ⟨_, _, _, _, _, rfl, _⟩ := h <;> rfl) | (obtain ⟨_, _, _, _, _, _, rfl, _⟩ := h <;> rfl) | (obtain ⟨_, _, _, _, _, _, _, rfl, _⟩ := h <;> rfl) | (obtain ⟨_, _, _, _, _, _, _, _, rfl, _⟩ := h <;> rfl) | (obtain ⟨rfl | rfl, _⟩ := h <;> rfl) | (obtain ⟨_, rfl | rfl, _⟩ := h <;> rfl) | (obtain ⟨_, _, rfl | rfl, _⟩ := h <;> rfl) | (obtain ⟨_, _, _, rfl | rfl, _⟩ := h <;> rfl) | (obtain ⟨_, ⟨_, rfl, _⟩ | ⟨_, rfl, _⟩⟩ := h <;> rfl)
theorem ok_law_drawing {fd : FuncData} (T : Fc K mg (Γ0 K)) (F : FunD K "_law_drawing" "_law_drawing" (defArgs (top 63)) (defBody (top 63)) (defScope (top 63)) [] [] (He.ga K "_law_drawing") fd) (G_Drawing___add : MtG P w K mg base 8 (Γ0 K).Drawing (He.ma K (Γ0 K).Drawing "__add__") (sp_Drawing___add (Γ0 K))) (G_Drawing___init : MkS P w K mg base 6 "Drawing" (Γ0 K).Drawing (sp_Drawing___init (Γ0 K))) : FnOk P w K mg base CX0 9 (He.ga K "_law_drawing") fd ["_law_strokes_here"] (spD K (sp_law_drawing (Γ0 K))) :=
  fnD F sc_law_drawing (ln_law_drawing (Γ0 K)) (fun cdv A outer s0 H E hr => dv_law_drawing (Γ0 K) T G_Drawing___add G_Drawing___init cdv A outer s0 H E hr) (vc_law_drawing (Γ0 K))
theorem ln_law_plus (Γ : CL) : ∀ ds μ R, sp_law_plus Γ ds μ R → ds.length = 2 := by
  intro ds μ R h
  first | (unfold sp_law_plus sp_added at h; split at h <;> first | rfl | exact h.elim) | (replace h : sp_added Γ ds μ R := h; obtain ⟨_, _, rfl, _⟩ := h; rfl) | (obtain ⟨rfl, _⟩ := h <;> rfl) | (obtain ⟨_, rfl, _⟩ := h <;> rfl) | (obtain ⟨_, _, rfl, _⟩ := h <;> rfl) | (obtain ⟨_, _, _, rfl, _⟩ := h <;> rfl) | (obtain ⟨_, _, _, _, rfl, _⟩ := h <;> rfl) | (obtain ⟨_, _, _, _, _, rfl, _⟩ := h <;> rfl) | (obtain ⟨_, _, _, _, _, _, rfl, _⟩ := h <;> rfl) | (obtain ⟨_, _, _, _, _, _, _, rfl, _⟩ := h <;> rfl) | (obtain ⟨_, _, _, _, _, _, _, _, rfl, _⟩ := h <;> rfl) | (obtain ⟨rfl | rfl, _⟩ := h <;> rfl) | (obtain ⟨_, rfl | rfl, _⟩ := h <;> rfl) | (obtain ⟨_, _, rfl | rfl, _⟩ := h <;> rfl) | (obtain ⟨_, _, _, rfl | rfl, _⟩ := h <;> rfl) | (obtain ⟨_, ⟨_, rfl, _⟩ | ⟨_, rfl, _⟩⟩ := h <;> rfl)
theorem ok_law_plus {fd : FuncData} (T : Fc K mg (Γ0 K)) (F : FunD K "_law_plus" "_law_plus" (defArgs (top 64)) (defBody (top 64)) (defScope (top 64)) [] [] (He.ga K "_law_plus") fd) (G_law_lowest : FnG P w K mg base 2 "_law_lowest" (sp_law_lowest (Γ0 K))) : FnOk P w K mg base CX0 3 (He.ga K "_law_plus") fd ["_law_one", "_law_other"] (spD K (sp_law_plus (Γ0 K))) :=
  fnD F sc_law_plus (ln_law_plus (Γ0 K)) (fun cdv A outer s0 H E hr => dv_law_plus (Γ0 K) T G_law_lowest cdv A outer s0 H E hr) (vc_law_plus (Γ0 K))
theorem ln_law_minus (Γ : CL) : ∀ ds μ R, sp_law_minus Γ ds μ R → ds.length = 2 := by
  intro ds μ R h
  first | (unfold sp_law_minus sp_less at h; split at h <;> first | rfl | exact h.elim) | (replace h : sp_less Γ ds μ R := h; obtain ⟨_, _, rfl, _⟩ := h; rfl) | (obtain ⟨rfl, _⟩ := h <;> rfl) | (obtain ⟨_, rfl, _⟩ := h <;> rfl) | (obtain ⟨_, _, rfl, _⟩ := h <;> rfl) | (obtain ⟨_, _, _, rfl, _⟩ := h <;> rfl) | (obtain ⟨_, _, _, _, rfl, _⟩ := h <;> rfl) | (obtain ⟨_, _, _, _, _, rfl, _⟩ := h <;> rfl) | (obtain ⟨_, _, _, _, _, _, rfl, _⟩ := h <;> rfl) | (obtain ⟨_, _, _, _, _, _, _, rfl, _⟩ := h <;> rfl) | (obtain ⟨_, _, _, _, _, _, _, _, rfl, _⟩ := h <;> rfl) | (obtain ⟨rfl | rfl, _⟩ := h <;> rfl) | (obtain ⟨_, rfl | rfl, _⟩ := h <;> rfl) | (obtain ⟨_, _, rfl | rfl, _⟩ := h <;> rfl) | (obtain ⟨_, _, _, rfl | rfl, _⟩ := h <;> rfl) | (obtain ⟨_, ⟨_, rfl, _⟩ | ⟨_, rfl, _⟩⟩ := h <;> rfl)
theorem ok_law_minus {fd : FuncData} (T : Fc K mg (Γ0 K)) (F : FunD K "_law_minus" "_law_minus" (defArgs (top 65)) (defBody (top 65)) (defScope (top 65)) [] [] (He.ga K "_law_minus") fd) (G_law_plus : FnG P w K mg base 3 "_law_plus" (sp_law_plus (Γ0 K))) : FnOk P w K mg base CX0 4 (He.ga K "_law_minus") fd ["_law_one", "_law_other"] (spD K (sp_law_minus (Γ0 K))) :=
  fnD F sc_law_minus (ln_law_minus (Γ0 K)) (fun cdv A outer s0 H E hr => dv_law_minus (Γ0 K) T G_law_plus cdv A outer s0 H E hr) (vc_law_minus (Γ0 K))
theorem ln_law_ahead (Γ : CL) : ∀ ds μ R, sp_law_ahead Γ ds μ R → ds.length = 2 := by
  intro ds μ R h
  first | (unfold sp_law_ahead at h; split at h <;> first | rfl | exact h.elim) | (obtain ⟨rfl, _⟩ := h <;> rfl) | (obtain ⟨_, rfl, _⟩ := h <;> rfl) | (obtain ⟨_, _, rfl, _⟩ := h <;> rfl) | (obtain ⟨_, _, _, rfl, _⟩ := h <;> rfl) | (obtain ⟨_, _, _, _, rfl, _⟩ := h <;> rfl) | (obtain ⟨_, _, _, _, _, rfl, _⟩ := h <;> rfl) | (obtain ⟨_, _, _, _, _, _, rfl, _⟩ := h <;> rfl) | (obtain ⟨_, _, _, _, _, _, _, rfl, _⟩ := h <;> rfl) | (obtain ⟨_, _, _, _, _, _, _, _, rfl, _⟩ := h <;> rfl) | (obtain ⟨rfl | rfl, _⟩ := h <;> rfl) | (obtain ⟨_, rfl | rfl, _⟩ := h <;> rfl) | (obtain ⟨_, _, rfl | rfl, _⟩ := h <;> rfl) | (obtain ⟨_, _, _, rfl | rfl, _⟩ := h <;> rfl) | (obtain ⟨_, ⟨_, rfl, _⟩ | ⟨_, rfl, _⟩⟩ := h <;> rfl)
theorem ok_law_ahead {fd : FuncData} (T : Fc K mg (Γ0 K)) (F : FunD K "_law_ahead" "_law_ahead" (defArgs (top 66)) (defBody (top 66)) (defScope (top 66)) [] [] (He.ga K "_law_ahead") fd)  : FnOk P w K mg base CX0 1 (He.ga K "_law_ahead") fd ["_law_one", "_law_other"] (spD K (sp_law_ahead (Γ0 K))) :=
  fnD F sc_law_ahead (ln_law_ahead (Γ0 K)) (fun cdv A outer s0 H E hr => dv_law_ahead (Γ0 K) T  cdv A outer s0 H E hr) (vc_law_ahead (Γ0 K))
theorem ln_law_lies (Γ : CL) : ∀ ds μ R, sp_law_lies Γ ds μ R → ds.length = 3 := by
  intro ds μ R h
  first | (unfold sp_law_lies at h; split at h <;> first | rfl | exact h.elim) | (obtain ⟨rfl, _⟩ := h <;> rfl) | (obtain ⟨_, rfl, _⟩ := h <;> rfl) | (obtain ⟨_, _, rfl, _⟩ := h <;> rfl) | (obtain ⟨_, _, _, rfl, _⟩ := h <;> rfl) | (obtain ⟨_, _, _, _, rfl, _⟩ := h <;> rfl) | (obtain ⟨_, _, _, _, _, rfl, _⟩ := h <;> rfl) | (obtain ⟨_, _, _, _, _, _, rfl, _⟩ := h <;> rfl) | (obtain ⟨_, _, _, _, _, _, _, rfl, _⟩ := h <;> rfl) | (obtain ⟨_, _, _, _, _, _, _, _, rfl, _⟩ := h <;> rfl) | (obtain ⟨rfl | rfl, _⟩ := h <;> rfl) | (obtain ⟨_, rfl | rfl, _⟩ := h <;> rfl) | (obtain ⟨_, _, rfl | rfl, _⟩ := h <;> rfl) | (obtain ⟨_, _, _, rfl | rfl, _⟩ := h <;> rfl) | (obtain ⟨_, ⟨_, rfl, _⟩ | ⟨_, rfl, _⟩⟩ := h <;> rfl)
theorem ok_law_lies {fd : FuncData} (T : Fc K mg (Γ0 K)) (F : FunD K "_law_lies" "_law_lies" (defArgs (top 67)) (defBody (top 67)) (defScope (top 67)) [] [] (He.ga K "_law_lies") fd) (G_law_minus : FnG P w K mg base 4 "_law_minus" (sp_law_minus (Γ0 K))) (G_law_ahead : FnG P w K mg base 1 "_law_ahead" (sp_law_ahead (Γ0 K))) : FnOk P w K mg base CX0 5 (He.ga K "_law_lies") fd ["_law_spot_here", "_law_one", "_law_other"] (spD K (sp_law_lies (Γ0 K))) :=
  fnD F sc_law_lies (ln_law_lies (Γ0 K)) (fun cdv A outer s0 H E hr => dv_law_lies (Γ0 K) T G_law_minus G_law_ahead cdv A outer s0 H E hr) (vc_law_lies (Γ0 K))
theorem ln_law_covers (Γ : CL) : ∀ ds μ R, sp_law_covers Γ ds μ R → ds.length = 2 := by
  intro ds μ R h
  first | (unfold sp_law_covers at h; split at h <;> first | rfl | exact h.elim) | (obtain ⟨rfl, _⟩ := h <;> rfl) | (obtain ⟨_, rfl, _⟩ := h <;> rfl) | (obtain ⟨_, _, rfl, _⟩ := h <;> rfl) | (obtain ⟨_, _, _, rfl, _⟩ := h <;> rfl) | (obtain ⟨_, _, _, _, rfl, _⟩ := h <;> rfl) | (obtain ⟨_, _, _, _, _, rfl, _⟩ := h <;> rfl) | (obtain ⟨_, _, _, _, _, _, rfl, _⟩ := h <;> rfl) | (obtain ⟨_, _, _, _, _, _, _, rfl, _⟩ := h <;> rfl) | (obtain ⟨_, _, _, _, _, _, _, _, rfl, _⟩ := h <;> rfl) | (obtain ⟨rfl | rfl, _⟩ := h <;> rfl) | (obtain ⟨_, rfl | rfl, _⟩ := h <;> rfl) | (obtain ⟨_, _, rfl | rfl, _⟩ := h <;> rfl) | (obtain ⟨_, _, _, rfl | rfl, _⟩ := h <;> rfl) | (obtain ⟨_, ⟨_, rfl, _⟩ | ⟨_, rfl, _⟩⟩ := h <;> rfl)
theorem ok_law_covers {fd : FuncData} (T : Fc K mg (Γ0 K)) (F : FunD K "_law_covers" "_law_covers" (defArgs (top 68)) (defBody (top 68)) (defScope (top 68)) [] [] (He.ga K "_law_covers") fd) (G_law_lies : FnG P w K mg base 5 "_law_lies" (sp_law_lies (Γ0 K))) : FnOk P w K mg base CX0 6 (He.ga K "_law_covers") fd ["_law_strokes_here", "_law_spot_here"] (spD K (sp_law_covers (Γ0 K))) :=
  fnD F sc_law_covers (ln_law_covers (Γ0 K)) (fun cdv A outer s0 H E hr => dv_law_covers (Γ0 K) T G_law_lies cdv A outer s0 H E hr) (vc_law_covers (Γ0 K))
theorem ln_law_equal (Γ : CL) (m : Nat) : ∀ ds μ R, sp_law_equal Γ (m + 1) ds μ R → ds.length = 2 := by
  intro ds μ R h
  replace h : eqSp m ds μ R := h
  unfold eqSp at h
  split at h <;> first | rfl | exact h.elim
theorem ok_law_equal {fd : FuncData} (T : Fc K mg (Γ0 K)) (F : FunD K "_law_equal" "_law_equal" (defArgs (top 69)) (defBody (top 69)) (defScope (top 69)) [] [] (He.ga K "_law_equal") fd) {k m : Nat} (G_law_equal : FnG P w K mg base k "_law_equal" (sp_law_equal (Γ0 K) m)) : FnOk P w K mg base CX0 (k + 1) (He.ga K "_law_equal") fd ["_law_actual", "_law_expected"] (spD K (sp_law_equal (Γ0 K) (m + 1))) :=
  fnD F sc_law_equal (ln_law_equal (Γ0 K) m) (fun cdv A outer s0 H E hr => dv_law_equal (Γ0 K) T G_law_equal cdv A outer s0 H E hr) (vc_law_equal (Γ0 K) m)
theorem ln_is_int_in (Γ : CL) : ∀ ds μ R, sp_is_int_in Γ ds μ R → ds.length = 3 := by
  intro ds μ R h
  first | (unfold sp_is_int_in at h; split at h <;> first | rfl | exact h.elim) | (obtain ⟨rfl, _⟩ := h <;> rfl) | (obtain ⟨_, rfl, _⟩ := h <;> rfl) | (obtain ⟨_, _, rfl, _⟩ := h <;> rfl) | (obtain ⟨_, _, _, rfl, _⟩ := h <;> rfl) | (obtain ⟨_, _, _, _, rfl, _⟩ := h <;> rfl) | (obtain ⟨_, _, _, _, _, rfl, _⟩ := h <;> rfl) | (obtain ⟨_, _, _, _, _, _, rfl, _⟩ := h <;> rfl) | (obtain ⟨_, _, _, _, _, _, _, rfl, _⟩ := h <;> rfl) | (obtain ⟨_, _, _, _, _, _, _, _, rfl, _⟩ := h <;> rfl) | (obtain ⟨rfl | rfl, _⟩ := h <;> rfl) | (obtain ⟨_, rfl | rfl, _⟩ := h <;> rfl) | (obtain ⟨_, _, rfl | rfl, _⟩ := h <;> rfl) | (obtain ⟨_, _, _, rfl | rfl, _⟩ := h <;> rfl) | (obtain ⟨_, ⟨_, rfl, _⟩ | ⟨_, rfl, _⟩⟩ := h <;> rfl)
theorem ok_is_int_in {fd : FuncData} (T : Fc K mg (Γ0 K)) (F : FunD K "is_int_in" "is_int_in" (defArgs (top 24)) (defBody (top 24)) (defScope (top 24)) [] [] (He.ga K "is_int_in") fd)  : FnOk P w K mg base CX0 1 (He.ga K "is_int_in") fd ["value", "low", "high"] (spD K (sp_is_int_in (Γ0 K))) :=
  fnD F sc_is_int_in (ln_is_int_in (Γ0 K)) (fun cdv A outer s0 H E hr => dv_is_int_in (Γ0 K) T  cdv A outer s0 H E hr) (vc_is_int_in (Γ0 K))
theorem ln_common_multiple (Γ : CL) : ∀ ds μ R, sp_common_multiple Γ ds μ R → ds.length = 1 := by
  intro ds μ R h
  first | (unfold sp_common_multiple at h; split at h <;> first | rfl | exact h.elim) | (obtain ⟨rfl, _⟩ := h <;> rfl) | (obtain ⟨_, rfl, _⟩ := h <;> rfl) | (obtain ⟨_, _, rfl, _⟩ := h <;> rfl) | (obtain ⟨_, _, _, rfl, _⟩ := h <;> rfl) | (obtain ⟨_, _, _, _, rfl, _⟩ := h <;> rfl) | (obtain ⟨_, _, _, _, _, rfl, _⟩ := h <;> rfl) | (obtain ⟨_, _, _, _, _, _, rfl, _⟩ := h <;> rfl) | (obtain ⟨_, _, _, _, _, _, _, rfl, _⟩ := h <;> rfl) | (obtain ⟨_, _, _, _, _, _, _, _, rfl, _⟩ := h <;> rfl) | (obtain ⟨rfl | rfl, _⟩ := h <;> rfl) | (obtain ⟨_, rfl | rfl, _⟩ := h <;> rfl) | (obtain ⟨_, _, rfl | rfl, _⟩ := h <;> rfl) | (obtain ⟨_, _, _, rfl | rfl, _⟩ := h <;> rfl) | (obtain ⟨_, ⟨_, rfl, _⟩ | ⟨_, rfl, _⟩⟩ := h <;> rfl)
theorem ok_common_multiple {fd : FuncData} (T : Fc K mg (Γ0 K)) (F : FunD K "common_multiple" "common_multiple" (defArgs (top 27)) (defBody (top 27)) (defScope (top 27)) [] [] (He.ga K "common_multiple") fd) (G_common_divisor : FnG P w K mg base 1 "common_divisor" (sp_common_divisor (Γ0 K))) : FnOk P w K mg base CX0 2 (He.ga K "common_multiple") fd ["values"] (spD K (sp_common_multiple (Γ0 K))) :=
  fnD F sc_common_multiple (ln_common_multiple (Γ0 K)) (fun cdv A outer s0 H E hr => dv_common_multiple (Γ0 K) T G_common_divisor cdv A outer s0 H E hr) (vc_common_multiple (Γ0 K))
theorem ln_scaled (Γ : CL) : ∀ ds μ R, sp_scaled Γ ds μ R → ds.length = 1 := by
  intro ds μ R h
  first | (unfold sp_scaled at h; split at h <;> first | rfl | exact h.elim) | (obtain ⟨rfl, _⟩ := h <;> rfl) | (obtain ⟨_, rfl, _⟩ := h <;> rfl) | (obtain ⟨_, _, rfl, _⟩ := h <;> rfl) | (obtain ⟨_, _, _, rfl, _⟩ := h <;> rfl) | (obtain ⟨_, _, _, _, rfl, _⟩ := h <;> rfl) | (obtain ⟨_, _, _, _, _, rfl, _⟩ := h <;> rfl) | (obtain ⟨_, _, _, _, _, _, rfl, _⟩ := h <;> rfl) | (obtain ⟨_, _, _, _, _, _, _, rfl, _⟩ := h <;> rfl) | (obtain ⟨_, _, _, _, _, _, _, _, rfl, _⟩ := h <;> rfl) | (obtain ⟨rfl | rfl, _⟩ := h <;> rfl) | (obtain ⟨_, rfl | rfl, _⟩ := h <;> rfl) | (obtain ⟨_, _, rfl | rfl, _⟩ := h <;> rfl) | (obtain ⟨_, _, _, rfl | rfl, _⟩ := h <;> rfl) | (obtain ⟨_, ⟨_, rfl, _⟩ | ⟨_, rfl, _⟩⟩ := h <;> rfl)
theorem ok_scaled {fd : FuncData} (T : Fc K mg (Γ0 K)) (F : FunD K "scaled" "scaled" (defArgs (top 46)) (defBody (top 46)) (defScope (top 46)) [] [] (He.ga K "scaled") fd) (G_common_multiple : FnG P w K mg base 2 "common_multiple" (sp_common_multiple (Γ0 K))) : FnOk P w K mg base CX0 3 (He.ga K "scaled") fd ["strokes"] (spD K (sp_scaled (Γ0 K))) :=
  fnD F sc_scaled (ln_scaled (Γ0 K)) (fun cdv A outer s0 H E hr => dv_scaled (Γ0 K) T G_common_multiple cdv A outer s0 H E hr) (vc_scaled (Γ0 K))
theorem ln_line_key (Γ : CL) : ∀ ds μ R, sp_line_key Γ ds μ R → ds.length = 2 := by
  intro ds μ R h
  first | (unfold sp_line_key at h; split at h <;> first | rfl | exact h.elim) | (obtain ⟨rfl, _⟩ := h <;> rfl) | (obtain ⟨_, rfl, _⟩ := h <;> rfl) | (obtain ⟨_, _, rfl, _⟩ := h <;> rfl) | (obtain ⟨_, _, _, rfl, _⟩ := h <;> rfl) | (obtain ⟨_, _, _, _, rfl, _⟩ := h <;> rfl) | (obtain ⟨_, _, _, _, _, rfl, _⟩ := h <;> rfl) | (obtain ⟨_, _, _, _, _, _, rfl, _⟩ := h <;> rfl) | (obtain ⟨_, _, _, _, _, _, _, rfl, _⟩ := h <;> rfl) | (obtain ⟨_, _, _, _, _, _, _, _, rfl, _⟩ := h <;> rfl) | (obtain ⟨rfl | rfl, _⟩ := h <;> rfl) | (obtain ⟨_, rfl | rfl, _⟩ := h <;> rfl) | (obtain ⟨_, _, rfl | rfl, _⟩ := h <;> rfl) | (obtain ⟨_, _, _, rfl | rfl, _⟩ := h <;> rfl) | (obtain ⟨_, ⟨_, rfl, _⟩ | ⟨_, rfl, _⟩⟩ := h <;> rfl)
theorem ok_line_key {fd : FuncData} (T : Fc K mg (Γ0 K)) (F : FunD K "line_key" "line_key" (defArgs (top 47)) (defBody (top 47)) (defScope (top 47)) [] [] (He.ga K "line_key") fd) (G_common_divisor : FnG P w K mg base 1 "common_divisor" (sp_common_divisor (Γ0 K))) : FnOk P w K mg base CX0 2 (He.ga K "line_key") fd ["one", "other"] (spD K (sp_line_key (Γ0 K))) :=
  fnD F sc_line_key (ln_line_key (Γ0 K)) (fun cdv A outer s0 H E hr => dv_line_key (Γ0 K) T G_common_divisor cdv A outer s0 H E hr) (vc_line_key (Γ0 K))
theorem ln_joined (Γ : CL) : ∀ ds μ R, sp_joined Γ ds μ R → ds.length = 1 := by
  intro ds μ R h
  first | (unfold sp_joined at h; split at h <;> first | rfl | exact h.elim) | (obtain ⟨rfl, _⟩ := h <;> rfl) | (obtain ⟨_, rfl, _⟩ := h <;> rfl) | (obtain ⟨_, _, rfl, _⟩ := h <;> rfl) | (obtain ⟨_, _, _, rfl, _⟩ := h <;> rfl) | (obtain ⟨_, _, _, _, rfl, _⟩ := h <;> rfl) | (obtain ⟨_, _, _, _, _, rfl, _⟩ := h <;> rfl) | (obtain ⟨_, _, _, _, _, _, rfl, _⟩ := h <;> rfl) | (obtain ⟨_, _, _, _, _, _, _, rfl, _⟩ := h <;> rfl) | (obtain ⟨_, _, _, _, _, _, _, _, rfl, _⟩ := h <;> rfl) | (obtain ⟨rfl | rfl, _⟩ := h <;> rfl) | (obtain ⟨_, rfl | rfl, _⟩ := h <;> rfl) | (obtain ⟨_, _, rfl | rfl, _⟩ := h <;> rfl) | (obtain ⟨_, _, _, rfl | rfl, _⟩ := h <;> rfl) | (obtain ⟨_, ⟨_, rfl, _⟩ | ⟨_, rfl, _⟩⟩ := h <;> rfl)
theorem ok_joined {fd : FuncData} (T : Fc K mg (Γ0 K)) (F : FunD K "joined" "joined" (defArgs (top 48)) (defBody (top 48)) (defScope (top 48)) [] [] (He.ga K "joined") fd)  : FnOk P w K mg base CX0 1 (He.ga K "joined") fd ["parts"] (spD K (sp_joined (Γ0 K))) :=
  fnD F sc_joined (ln_joined (Γ0 K)) (fun cdv A outer s0 H E hr => dv_joined (Γ0 K) T  cdv A outer s0 H E hr) (vc_joined (Γ0 K))
theorem ln_lines_of (Γ : CL) : ∀ ds μ R, sp_lines_of Γ ds μ R → ds.length = 1 := by
  intro ds μ R h
  first | (unfold sp_lines_of at h; split at h <;> first | rfl | exact h.elim) | (obtain ⟨rfl, _⟩ := h <;> rfl) | (obtain ⟨_, rfl, _⟩ := h <;> rfl) | (obtain ⟨_, _, rfl, _⟩ := h <;> rfl) | (obtain ⟨_, _, _, rfl, _⟩ := h <;> rfl) | (obtain ⟨_, _, _, _, rfl, _⟩ := h <;> rfl) | (obtain ⟨_, _, _, _, _, rfl, _⟩ := h <;> rfl) | (obtain ⟨_, _, _, _, _, _, rfl, _⟩ := h <;> rfl) | (obtain ⟨_, _, _, _, _, _, _, rfl, _⟩ := h <;> rfl) | (obtain ⟨_, _, _, _, _, _, _, _, rfl, _⟩ := h <;> rfl) | (obtain ⟨rfl | rfl, _⟩ := h <;> rfl) | (obtain ⟨_, rfl | rfl, _⟩ := h <;> rfl) | (obtain ⟨_, _, rfl | rfl, _⟩ := h <;> rfl) | (obtain ⟨_, _, _, rfl | rfl, _⟩ := h <;> rfl) | (obtain ⟨_, ⟨_, rfl, _⟩ | ⟨_, rfl, _⟩⟩ := h <;> rfl)
theorem ok_lines_of {fd : FuncData} (T : Fc K mg (Γ0 K)) (F : FunD K "lines_of" "lines_of" (defArgs (top 49)) (defBody (top 49)) (defScope (top 49)) [] [] (He.ga K "lines_of") fd) (G_line_key : FnG P w K mg base 2 "line_key" (sp_line_key (Γ0 K))) (G_joined : FnG P w K mg base 1 "joined" (sp_joined (Γ0 K))) : FnOk P w K mg base CX0 3 (He.ga K "lines_of") fd ["strokes"] (spD K (sp_lines_of (Γ0 K))) :=
  fnDW F sc_lines_of (ln_lines_of (Γ0 K)) (fun cdv A outer s0 H E hr => dv_lines_of (Γ0 K) T G_line_key G_joined cdv A outer s0 H E hr) (vc_lines_of (Γ0 K))
theorem ln_lies_on (Γ : CL) : ∀ ds μ R, sp_lies_on Γ ds μ R → ds.length = 2 := by
  intro ds μ R h
  first | (unfold sp_lies_on at h; split at h <;> first | rfl | exact h.elim) | (obtain ⟨rfl, _⟩ := h <;> rfl) | (obtain ⟨_, rfl, _⟩ := h <;> rfl) | (obtain ⟨_, _, rfl, _⟩ := h <;> rfl) | (obtain ⟨_, _, _, rfl, _⟩ := h <;> rfl) | (obtain ⟨_, _, _, _, rfl, _⟩ := h <;> rfl) | (obtain ⟨_, _, _, _, _, rfl, _⟩ := h <;> rfl) | (obtain ⟨_, _, _, _, _, _, rfl, _⟩ := h <;> rfl) | (obtain ⟨_, _, _, _, _, _, _, rfl, _⟩ := h <;> rfl) | (obtain ⟨_, _, _, _, _, _, _, _, rfl, _⟩ := h <;> rfl) | (obtain ⟨rfl | rfl, _⟩ := h <;> rfl) | (obtain ⟨_, rfl | rfl, _⟩ := h <;> rfl) | (obtain ⟨_, _, rfl | rfl, _⟩ := h <;> rfl) | (obtain ⟨_, _, _, rfl | rfl, _⟩ := h <;> rfl) | (obtain ⟨_, ⟨_, rfl, _⟩ | ⟨_, rfl, _⟩⟩ := h <;> rfl)
theorem ok_lies_on {fd : FuncData} (T : Fc K mg (Γ0 K)) (F : FunD K "lies_on" "lies_on" (defArgs (top 50)) (defBody (top 50)) (defScope (top 50)) [] [] (He.ga K "lies_on") fd)  : FnOk P w K mg base CX0 1 (He.ga K "lies_on") fd ["place", "lines"] (spD K (sp_lies_on (Γ0 K))) :=
  fnD F sc_lies_on (ln_lies_on (Γ0 K)) (fun cdv A outer s0 H E hr => dv_lies_on (Γ0 K) T  cdv A outer s0 H E hr) (vc_lies_on (Γ0 K))
theorem ln_picture (Γ : CL) : ∀ ds μ R, sp_picture Γ ds μ R → ds.length = 2 := by
  intro ds μ R h
  first | (unfold sp_picture at h; split at h <;> first | rfl | exact h.elim) | (obtain ⟨rfl, _⟩ := h <;> rfl) | (obtain ⟨_, rfl, _⟩ := h <;> rfl) | (obtain ⟨_, _, rfl, _⟩ := h <;> rfl) | (obtain ⟨_, _, _, rfl, _⟩ := h <;> rfl) | (obtain ⟨_, _, _, _, rfl, _⟩ := h <;> rfl) | (obtain ⟨_, _, _, _, _, rfl, _⟩ := h <;> rfl) | (obtain ⟨_, _, _, _, _, _, rfl, _⟩ := h <;> rfl) | (obtain ⟨_, _, _, _, _, _, _, rfl, _⟩ := h <;> rfl) | (obtain ⟨_, _, _, _, _, _, _, _, rfl, _⟩ := h <;> rfl) | (obtain ⟨rfl | rfl, _⟩ := h <;> rfl) | (obtain ⟨_, rfl | rfl, _⟩ := h <;> rfl) | (obtain ⟨_, _, rfl | rfl, _⟩ := h <;> rfl) | (obtain ⟨_, _, _, rfl | rfl, _⟩ := h <;> rfl) | (obtain ⟨_, ⟨_, rfl, _⟩ | ⟨_, rfl, _⟩⟩ := h <;> rfl)
theorem ok_picture {fd : FuncData} (T : Fc K mg (Γ0 K)) (F : FunD K "picture" "picture" (defArgs (top 53)) (defBody (top 53)) (defScope (top 53)) [] [] (He.ga K "picture") fd) (G_is_int_in : FnG P w K mg base 1 "is_int_in" (sp_is_int_in (Γ0 K))) (G_scaled : FnG P w K mg base 3 "scaled" (sp_scaled (Γ0 K))) (G_lines_of : FnG P w K mg base 3 "lines_of" (sp_lines_of (Γ0 K))) (G_lies_on : FnG P w K mg base 1 "lies_on" (sp_lies_on (Γ0 K))) : FnOk P w K mg base CX0 4 (He.ga K "picture") fd ["drawing", "limit"] (spD K (sp_picture (Γ0 K))) :=
  fnDW F sc_picture (ln_picture (Γ0 K)) (fun cdv A outer s0 H E hr => dv_picture (Γ0 K) T G_is_int_in G_scaled G_lines_of G_lies_on cdv A outer s0 H E hr) (vc_picture (Γ0 K))
theorem ln_check_turn (Γ : CL) : ∀ ds μ R, sp_check_turn Γ ds μ R → ds.length = 1 := by
  intro ds μ R h
  first | (unfold sp_check_turn at h; split at h <;> first | rfl | exact h.elim) | (obtain ⟨rfl, _⟩ := h <;> rfl) | (obtain ⟨_, rfl, _⟩ := h <;> rfl) | (obtain ⟨_, _, rfl, _⟩ := h <;> rfl) | (obtain ⟨_, _, _, rfl, _⟩ := h <;> rfl) | (obtain ⟨_, _, _, _, rfl, _⟩ := h <;> rfl) | (obtain ⟨_, _, _, _, _, rfl, _⟩ := h <;> rfl) | (obtain ⟨_, _, _, _, _, _, rfl, _⟩ := h <;> rfl) | (obtain ⟨_, _, _, _, _, _, _, rfl, _⟩ := h <;> rfl) | (obtain ⟨_, _, _, _, _, _, _, _, rfl, _⟩ := h <;> rfl) | (obtain ⟨rfl | rfl, _⟩ := h <;> rfl) | (obtain ⟨_, rfl | rfl, _⟩ := h <;> rfl) | (obtain ⟨_, _, rfl | rfl, _⟩ := h <;> rfl) | (obtain ⟨_, _, _, rfl | rfl, _⟩ := h <;> rfl) | (obtain ⟨_, ⟨_, rfl, _⟩ | ⟨_, rfl, _⟩⟩ := h <;> rfl)
theorem ok_check_turn {fd : FuncData} (T : Fc K mg (Γ0 K)) (F : FunD K "check_turn" "check_turn" (defArgs (top 38)) (defBody (top 38)) (defScope (top 38)) [] [] (He.ga K "check_turn") fd) (G_is_number : FnG P w K mg base 3 "is_number" (sp_is_number (Γ0 K))) : FnOk P w K mg base CX0 4 (He.ga K "check_turn") fd ["value"] (spD K (sp_check_turn (Γ0 K))) :=
  fnD F sc_check_turn (ln_check_turn (Γ0 K)) (fun cdv A outer s0 H E hr => dv_check_turn (Γ0 K) T G_is_number cdv A outer s0 H E hr) (vc_check_turn (Γ0 K))
theorem ln_Copy___init (Γ : CL) : ∀ ds μ R, sp_Copy___init Γ ds μ R → ds.length = 4 := by
  intro ds μ R h
  first | (unfold sp_Copy___init at h; split at h <;> first | rfl | exact h.elim) | (obtain ⟨rfl, _⟩ := h <;> rfl) | (obtain ⟨_, rfl, _⟩ := h <;> rfl) | (obtain ⟨_, _, rfl, _⟩ := h <;> rfl) | (obtain ⟨_, _, _, rfl, _⟩ := h <;> rfl) | (obtain ⟨_, _, _, _, rfl, _⟩ := h <;> rfl) | (obtain ⟨_, _, _, _, _, rfl, _⟩ := h <;> rfl) | (obtain ⟨_, _, _, _, _, _, rfl, _⟩ := h <;> rfl) | (obtain ⟨_, _, _, _, _, _, _, rfl, _⟩ := h <;> rfl) | (obtain ⟨_, _, _, _, _, _, _, _, rfl, _⟩ := h <;> rfl) | (obtain ⟨rfl | rfl, _⟩ := h <;> rfl) | (obtain ⟨_, rfl | rfl, _⟩ := h <;> rfl) | (obtain ⟨_, _, rfl | rfl, _⟩ := h <;> rfl) | (obtain ⟨_, _, _, rfl | rfl, _⟩ := h <;> rfl) | (obtain ⟨_, ⟨_, rfl, _⟩ | ⟨_, rfl, _⟩⟩ := h <;> rfl)
theorem ok_Copy___init {fd : FuncData} (T : Fc K mg (Γ0 K)) (F : FunD K "__init__" "Copy.__init__" (defArgs (inClass (top 40) 0)) (defBody (inClass (top 40) 0)) (defScope (inClass (top 40) 0)) [] [("mirrored", (.bl false))] (He.ma K (He.ga K "Copy") "__init__") fd) (G_check_turn : FnG P w K mg base 4 "check_turn" (sp_check_turn (Γ0 K))) (G_check_spot : FnG P w K mg base 4 "check_spot" (sp_check_spot (Γ0 K))) : FnOk P w K mg base CX0 5 (He.ma K (He.ga K "Copy") "__init__") fd ["self", "turn", "shift", "mirrored"] (spD K (sp_Copy___init (Γ0 K))) :=
  fnD F sc_Copy___init (ln_Copy___init (Γ0 K)) (fun cdv A outer s0 H E hr => dv_Copy___init (Γ0 K) T G_check_turn G_check_spot cdv A outer s0 H E hr) (vc_Copy___init (Γ0 K))
theorem ln_added (Γ : CL) : ∀ ds μ R, sp_added Γ ds μ R → ds.length = 2 := by
  intro ds μ R h
  first | (unfold sp_added at h; split at h <;> first | rfl | exact h.elim) | (obtain ⟨rfl, _⟩ := h <;> rfl) | (obtain ⟨_, rfl, _⟩ := h <;> rfl) | (obtain ⟨_, _, rfl, _⟩ := h <;> rfl) | (obtain ⟨_, _, _, rfl, _⟩ := h <;> rfl) | (obtain ⟨_, _, _, _, rfl, _⟩ := h <;> rfl) | (obtain ⟨_, _, _, _, _, rfl, _⟩ := h <;> rfl) | (obtain ⟨_, _, _, _, _, _, rfl, _⟩ := h <;> rfl) | (obtain ⟨_, _, _, _, _, _, _, rfl, _⟩ := h <;> rfl) | (obtain ⟨_, _, _, _, _, _, _, _, rfl, _⟩ := h <;> rfl) | (obtain ⟨rfl | rfl, _⟩ := h <;> rfl) | (obtain ⟨_, rfl | rfl, _⟩ := h <;> rfl) | (obtain ⟨_, _, rfl | rfl, _⟩ := h <;> rfl) | (obtain ⟨_, _, _, rfl | rfl, _⟩ := h <;> rfl) | (obtain ⟨_, ⟨_, rfl, _⟩ | ⟨_, rfl, _⟩⟩ := h <;> rfl)
theorem ok_added {fd : FuncData} (T : Fc K mg (Γ0 K)) (F : FunD K "added" "added" (defArgs (top 31)) (defBody (top 31)) (defScope (top 31)) [] [] (He.ga K "added") fd) (G_lowest : FnG P w K mg base 2 "lowest" (sp_lowest (Γ0 K))) : FnOk P w K mg base CX0 3 (He.ga K "added") fd ["one", "other"] (spD K (sp_added (Γ0 K))) :=
  fnD F sc_added (ln_added (Γ0 K)) (fun cdv A outer s0 H E hr => dv_added (Γ0 K) T G_lowest cdv A outer s0 H E hr) (vc_added (Γ0 K))
theorem ln_multiplied (Γ : CL) : ∀ ds μ R, sp_multiplied Γ ds μ R → ds.length = 2 := by
  intro ds μ R h
  first | (unfold sp_multiplied at h; split at h <;> first | rfl | exact h.elim) | (obtain ⟨rfl, _⟩ := h <;> rfl) | (obtain ⟨_, rfl, _⟩ := h <;> rfl) | (obtain ⟨_, _, rfl, _⟩ := h <;> rfl) | (obtain ⟨_, _, _, rfl, _⟩ := h <;> rfl) | (obtain ⟨_, _, _, _, rfl, _⟩ := h <;> rfl) | (obtain ⟨_, _, _, _, _, rfl, _⟩ := h <;> rfl) | (obtain ⟨_, _, _, _, _, _, rfl, _⟩ := h <;> rfl) | (obtain ⟨_, _, _, _, _, _, _, rfl, _⟩ := h <;> rfl) | (obtain ⟨_, _, _, _, _, _, _, _, rfl, _⟩ := h <;> rfl) | (obtain ⟨rfl | rfl, _⟩ := h <;> rfl) | (obtain ⟨_, rfl | rfl, _⟩ := h <;> rfl) | (obtain ⟨_, _, rfl | rfl, _⟩ := h <;> rfl) | (obtain ⟨_, _, _, rfl | rfl, _⟩ := h <;> rfl) | (obtain ⟨_, ⟨_, rfl, _⟩ | ⟨_, rfl, _⟩⟩ := h <;> rfl)
theorem ok_multiplied {fd : FuncData} (T : Fc K mg (Γ0 K)) (F : FunD K "multiplied" "multiplied" (defArgs (top 33)) (defBody (top 33)) (defScope (top 33)) [] [] (He.ga K "multiplied") fd) (G_lowest : FnG P w K mg base 2 "lowest" (sp_lowest (Γ0 K))) : FnOk P w K mg base CX0 3 (He.ga K "multiplied") fd ["one", "other"] (spD K (sp_multiplied (Γ0 K))) :=
  fnD F sc_multiplied (ln_multiplied (Γ0 K)) (fun cdv A outer s0 H E hr => dv_multiplied (Γ0 K) T G_lowest cdv A outer s0 H E hr) (vc_multiplied (Γ0 K))
theorem ln_turned_over (Γ : CL) : ∀ ds μ R, sp_turned_over Γ ds μ R → ds.length = 1 := by
  intro ds μ R h
  first | (unfold sp_turned_over at h; split at h <;> first | rfl | exact h.elim) | (obtain ⟨rfl, _⟩ := h <;> rfl) | (obtain ⟨_, rfl, _⟩ := h <;> rfl) | (obtain ⟨_, _, rfl, _⟩ := h <;> rfl) | (obtain ⟨_, _, _, rfl, _⟩ := h <;> rfl) | (obtain ⟨_, _, _, _, rfl, _⟩ := h <;> rfl) | (obtain ⟨_, _, _, _, _, rfl, _⟩ := h <;> rfl) | (obtain ⟨_, _, _, _, _, _, rfl, _⟩ := h <;> rfl) | (obtain ⟨_, _, _, _, _, _, _, rfl, _⟩ := h <;> rfl) | (obtain ⟨_, _, _, _, _, _, _, _, rfl, _⟩ := h <;> rfl) | (obtain ⟨rfl | rfl, _⟩ := h <;> rfl) | (obtain ⟨_, rfl | rfl, _⟩ := h <;> rfl) | (obtain ⟨_, _, rfl | rfl, _⟩ := h <;> rfl) | (obtain ⟨_, _, _, rfl | rfl, _⟩ := h <;> rfl) | (obtain ⟨_, ⟨_, rfl, _⟩ | ⟨_, rfl, _⟩⟩ := h <;> rfl)
theorem ok_turned_over {fd : FuncData} (T : Fc K mg (Γ0 K)) (F : FunD K "turned_over" "turned_over" (defArgs (top 34)) (defBody (top 34)) (defScope (top 34)) [] [] (He.ga K "turned_over") fd)  : FnOk P w K mg base CX0 1 (He.ga K "turned_over") fd ["one"] (spD K (sp_turned_over (Γ0 K))) :=
  fnD F sc_turned_over (ln_turned_over (Γ0 K)) (fun cdv A outer s0 H E hr => dv_turned_over (Γ0 K) T  cdv A outer s0 H E hr) (vc_turned_over (Γ0 K))
theorem ln_carried (Γ : CL) : ∀ ds μ R, sp_carried Γ ds μ R → ds.length = 2 := by
  intro ds μ R h
  first | (unfold sp_carried at h; split at h <;> first | rfl | exact h.elim) | (obtain ⟨rfl, _⟩ := h <;> rfl) | (obtain ⟨_, rfl, _⟩ := h <;> rfl) | (obtain ⟨_, _, rfl, _⟩ := h <;> rfl) | (obtain ⟨_, _, _, rfl, _⟩ := h <;> rfl) | (obtain ⟨_, _, _, _, rfl, _⟩ := h <;> rfl) | (obtain ⟨_, _, _, _, _, rfl, _⟩ := h <;> rfl) | (obtain ⟨_, _, _, _, _, _, rfl, _⟩ := h <;> rfl) | (obtain ⟨_, _, _, _, _, _, _, rfl, _⟩ := h <;> rfl) | (obtain ⟨_, _, _, _, _, _, _, _, rfl, _⟩ := h <;> rfl) | (obtain ⟨rfl | rfl, _⟩ := h <;> rfl) | (obtain ⟨_, rfl | rfl, _⟩ := h <;> rfl) | (obtain ⟨_, _, rfl | rfl, _⟩ := h <;> rfl) | (obtain ⟨_, _, _, rfl | rfl, _⟩ := h <;> rfl) | (obtain ⟨_, ⟨_, rfl, _⟩ | ⟨_, rfl, _⟩⟩ := h <;> rfl)
theorem ok_carried {fd : FuncData} (T : Fc K mg (Γ0 K)) (F : FunD K "carried" "carried" (defArgs (top 39)) (defBody (top 39)) (defScope (top 39)) [] [] (He.ga K "carried") fd) (G_added : FnG P w K mg base 3 "added" (sp_added (Γ0 K))) (G_multiplied : FnG P w K mg base 3 "multiplied" (sp_multiplied (Γ0 K))) (G_turned_over : FnG P w K mg base 1 "turned_over" (sp_turned_over (Γ0 K))) : FnOk P w K mg base CX0 4 (He.ga K "carried") fd ["copy", "spot"] (spD K (sp_carried (Γ0 K))) :=
  fnD F sc_carried (ln_carried (Γ0 K)) (fun cdv A outer s0 H E hr => dv_carried (Γ0 K) T G_added G_multiplied G_turned_over cdv A outer s0 H E hr) (vc_carried (Γ0 K))
theorem ln_Drawing_copied (Γ : CL) : ∀ ds μ R, sp_Drawing_copied Γ ds μ R → ds.length = 2 := by
  intro ds μ R h
  first | (unfold sp_Drawing_copied at h; split at h <;> first | rfl | exact h.elim) | (obtain ⟨rfl, _⟩ := h <;> rfl) | (obtain ⟨_, rfl, _⟩ := h <;> rfl) | (obtain ⟨_, _, rfl, _⟩ := h <;> rfl) | (obtain ⟨_, _, _, rfl, _⟩ := h <;> rfl) | (obtain ⟨_, _, _, _, rfl, _⟩ := h <;> rfl) | (obtain ⟨_, _, _, _, _, rfl, _⟩ := h <;> rfl) | (obtain ⟨_, _, _, _, _, _, rfl, _⟩ := h <;> rfl) | (obtain ⟨_, _, _, _, _, _, _, rfl, _⟩ := h <;> rfl) | (obtain ⟨_, _, _, _, _, _, _, _, rfl, _⟩ := h <;> rfl) | (obtain ⟨rfl | rfl, _⟩ := h <;> rfl) | (obtain ⟨_, rfl | rfl, _⟩ := h <;> rfl) | (obtain ⟨_, _, rfl | rfl, _⟩ := h <;> rfl) | (obtain ⟨_, _, _, rfl | rfl, _⟩ := h <;> rfl) | (obtain ⟨_, ⟨_, rfl, _⟩ | ⟨_, rfl, _⟩⟩ := h <;> rfl)
theorem ok_Drawing_copied {fd : FuncData} (T : Fc K mg (Γ0 K)) (F : FunD K "copied" "Drawing.copied" (defArgs (inClass (top 45) 8)) (defBody (inClass (top 45) 8)) (defScope (inClass (top 45) 8)) [] [] (He.ma K (He.ga K "Drawing") "copied") fd) (G_carried : FnG P w K mg base 4 "carried" (sp_carried (Γ0 K))) (G_Drawing___init : MkS P w K mg base 6 "Drawing" (Γ0 K).Drawing (sp_Drawing___init (Γ0 K))) : FnOk P w K mg base CX0 8 (He.ma K (He.ga K "Drawing") "copied") fd ["self", "copy"] (spD K (sp_Drawing_copied (Γ0 K))) :=
  fnD F sc_Drawing_copied (ln_Drawing_copied (Γ0 K)) (fun cdv A outer s0 H E hr => dv_Drawing_copied (Γ0 K) T G_carried G_Drawing___init cdv A outer s0 H E hr) (vc_Drawing_copied (Γ0 K))
theorem ok_law {fd : FuncData} (T : Fc K mg (Γ0 K)) (F : FunD K "law" "law" (defArgs (top 71)) (defBody (top 71)) (defScope (top 71)) [] [] (He.ga K "law") fd) (TB : LamX.TabB base mg (lawC K) (lawP K)) (G_law_random : FnG P w K mg base 1 "_law_random" (sp_law_random (Γ0 K))) (G_law_strokesT : FnG P w K mg base 5 "_law_strokes" (sp_law_strokesT (Γ0 K))) (G_law_below : FnG P w K mg base 1 "_law_below" (sp_law_below (Γ0 K))) (G_law_drawing : FnG P w K mg base 9 "_law_drawing" (sp_law_drawing (Γ0 K))) (G_law_covers : FnG P w K mg base 6 "_law_covers" (sp_law_covers (Γ0 K))) (G_law_equal : FnG P w K mg base 5 "_law_equal" (sp_law_equal (Γ0 K) 5)) (G_picture : FnG P w K mg base 4 "picture" (sp_picture (Γ0 K))) (G_Drawing_copied : MtG P w K mg base 8 (Γ0 K).Drawing (He.ma K (Γ0 K).Drawing "copied") (sp_Drawing_copied (Γ0 K))) (G_Copy___init_k_mirrored : MkK P w K mg base 5 "Copy" (Γ0 K).Copy (sp_Copy___init (Γ0 K)) 2 ["mirrored"] gD_Copy_mirrored) (G_Drawing___init : MkS P w K mg base 6 "Drawing" (Γ0 K).Drawing (sp_Drawing___init (Γ0 K))) (G_err : ErrD P w K mg base "_law_error_of" (resE (Γ0 K) errL)) (GX_picture : FnGX P w K mg base 4 "picture" (spx_picture (Γ0 K))) : FnOk P w K mg base CX0 10 (He.ga K "law") fd ["_law_script"] (spD K (lawT (lawP K) lamQ)) :=
  fnDL F rfl sc_law (fun ds μ R h => by obtain ⟨ns, rfl, _⟩ := h; rfl) (fun A outer s0 H E hr => dv_law (Γ0 K) T G_law_random G_law_strokesT G_law_below G_law_drawing G_law_covers G_law_equal G_picture G_Drawing_copied G_Copy___init_k_mirrored G_Drawing___init G_err GX_picture TB A outer s0 H E hr) (vc_law (Γ0 K))
theorem lnx_picture (Γ : CL) : ∀ ds μ R re, spx_picture Γ ds μ R re → ds.length = 2 := by
  intro ds μ R re h
  first | (unfold spx_picture at h; split at h <;> first | rfl | exact h.elim) | (obtain ⟨rfl, _⟩ := h <;> rfl) | (obtain ⟨_, rfl, _⟩ := h <;> rfl) | (obtain ⟨_, _, rfl, _⟩ := h <;> rfl) | (obtain ⟨_, _, _, rfl, _⟩ := h <;> rfl) | (obtain ⟨_, _, _, _, rfl, _⟩ := h <;> rfl) | (obtain ⟨_, _, _, _, _, rfl, _⟩ := h <;> rfl) | (obtain ⟨_, _, _, _, _, _, rfl, _⟩ := h <;> rfl) | (obtain ⟨_, _, _, _, _, _, _, rfl, _⟩ := h <;> rfl) | (obtain ⟨_, _, _, _, _, _, _, _, rfl, _⟩ := h <;> rfl)
theorem okx_picture {fd : FuncData} (T : Fc K mg (Γ0 K)) (F : FunD K "picture" "picture" (defArgs (top 53)) (defBody (top 53)) (defScope (top 53)) [] [] (He.ga K "picture") fd) (G_is_int_in : FnG P w K mg base 1 "is_int_in" (sp_is_int_in (Γ0 K))) (G_scaled : FnG P w K mg base 3 "scaled" (sp_scaled (Γ0 K))) (G_lines_of : FnG P w K mg base 3 "lines_of" (sp_lines_of (Γ0 K))) (G_lies_on : FnG P w K mg base 1 "lies_on" (sp_lies_on (Γ0 K))) : FnOk P w K mg base (L2.CX P w) 4 (He.ga K "picture") fd ["drawing", "limit"] (spX K (spx_picture (Γ0 K))) :=
  fnDX F sc_picture (lnx_picture (Γ0 K)) (fun cdv A outer s0 H E hr tk => dvx_picture (Γ0 K) T G_is_int_in G_scaled G_lines_of G_lies_on cdv A outer s0 H E hr tk) (vcx_picture (Γ0 K))
end
def d_law_random : He.DefD := ⟨("_law_random", none), "_law_random", "_law_random", defArgs (top 55), defBody (top 55), defScope (top 55), [], []⟩
def d_law_below : He.DefD := ⟨("_law_below", none), "_law_below", "_law_below", defArgs (top 56), defBody (top 56), defScope (top 56), [], []⟩
def d_law_step : He.DefD := ⟨("_law_step", none), "_law_step", "_law_step", defArgs (top 57), defBody (top 57), defScope (top 57), [], []⟩
def d_law_common : He.DefD := ⟨("_law_common", none), "_law_common", "_law_common", defArgs (top 58), defBody (top 58), defScope (top 58), [], []⟩
def d_law_lowest : He.DefD := ⟨("_law_lowest", none), "_law_lowest", "_law_lowest", defArgs (top 59), defBody (top 59), defScope (top 59), [], []⟩
def d_law_spotT : He.DefD := ⟨("_law_spot", none), "_law_spot", "_law_spot", defArgs (top 60), defBody (top 60), defScope (top 60), [], []⟩
def d_law_strokeT : He.DefD := ⟨("_law_stroke", none), "_law_stroke", "_law_stroke", defArgs (top 61), defBody (top 61), defScope (top 61), [], []⟩
def d_law_strokesT : He.DefD := ⟨("_law_strokes", none), "_law_strokes", "_law_strokes", defArgs (top 62), defBody (top 62), defScope (top 62), [], []⟩
def d_is_int : He.DefD := ⟨("is_int", none), "is_int", "is_int", defArgs (top 25), defBody (top 25), defScope (top 25), [], []⟩
def d_common_divisor : He.DefD := ⟨("common_divisor", none), "common_divisor", "common_divisor", defArgs (top 26), defBody (top 26), defScope (top 26), [], []⟩
def d_lowest : He.DefD := ⟨("lowest", none), "lowest", "lowest", defArgs (top 28), defBody (top 28), defScope (top 28), [], []⟩
def d_is_number : He.DefD := ⟨("is_number", none), "is_number", "is_number", defArgs (top 30), defBody (top 30), defScope (top 30), [], []⟩
def d_check_spot : He.DefD := ⟨("check_spot", none), "check_spot", "check_spot", defArgs (top 37), defBody (top 37), defScope (top 37), [], []⟩
def d_check_stroke : He.DefD := ⟨("check_stroke", none), "check_stroke", "check_stroke", defArgs (top 44), defBody (top 44), defScope (top 44), [], []⟩
def d_Drawing___init : He.DefD := ⟨("Drawing", some "__init__"), "__init__", "Drawing.__init__", defArgs (inClass (top 45) 0), defBody (inClass (top 45) 0), defScope (inClass (top 45) 0), [], []⟩
def d_Drawing___add : He.DefD := ⟨("Drawing", some "__add__"), "__add__", "Drawing.__add__", defArgs (inClass (top 45) 5), defBody (inClass (top 45) 5), defScope (inClass (top 45) 5), [], []⟩
def d_law_drawing : He.DefD := ⟨("_law_drawing", none), "_law_drawing", "_law_drawing", defArgs (top 63), defBody (top 63), defScope (top 63), [], []⟩
def d_law_plus : He.DefD := ⟨("_law_plus", none), "_law_plus", "_law_plus", defArgs (top 64), defBody (top 64), defScope (top 64), [], []⟩
def d_law_minus : He.DefD := ⟨("_law_minus", none), "_law_minus", "_law_minus", defArgs (top 65), defBody (top 65), defScope (top 65), [], []⟩
def d_law_ahead : He.DefD := ⟨("_law_ahead", none), "_law_ahead", "_law_ahead", defArgs (top 66), defBody (top 66), defScope (top 66), [], []⟩
def d_law_lies : He.DefD := ⟨("_law_lies", none), "_law_lies", "_law_lies", defArgs (top 67), defBody (top 67), defScope (top 67), [], []⟩
def d_law_covers : He.DefD := ⟨("_law_covers", none), "_law_covers", "_law_covers", defArgs (top 68), defBody (top 68), defScope (top 68), [], []⟩
def d_law_equal : He.DefD := ⟨("_law_equal", none), "_law_equal", "_law_equal", defArgs (top 69), defBody (top 69), defScope (top 69), [], []⟩
def d_is_int_in : He.DefD := ⟨("is_int_in", none), "is_int_in", "is_int_in", defArgs (top 24), defBody (top 24), defScope (top 24), [], []⟩
def d_common_multiple : He.DefD := ⟨("common_multiple", none), "common_multiple", "common_multiple", defArgs (top 27), defBody (top 27), defScope (top 27), [], []⟩
def d_scaled : He.DefD := ⟨("scaled", none), "scaled", "scaled", defArgs (top 46), defBody (top 46), defScope (top 46), [], []⟩
def d_line_key : He.DefD := ⟨("line_key", none), "line_key", "line_key", defArgs (top 47), defBody (top 47), defScope (top 47), [], []⟩
def d_joined : He.DefD := ⟨("joined", none), "joined", "joined", defArgs (top 48), defBody (top 48), defScope (top 48), [], []⟩
def d_lines_of : He.DefD := ⟨("lines_of", none), "lines_of", "lines_of", defArgs (top 49), defBody (top 49), defScope (top 49), [], []⟩
def d_lies_on : He.DefD := ⟨("lies_on", none), "lies_on", "lies_on", defArgs (top 50), defBody (top 50), defScope (top 50), [], []⟩
def d_picture : He.DefD := ⟨("picture", none), "picture", "picture", defArgs (top 53), defBody (top 53), defScope (top 53), [], []⟩
def d_check_turn : He.DefD := ⟨("check_turn", none), "check_turn", "check_turn", defArgs (top 38), defBody (top 38), defScope (top 38), [], []⟩
def d_Copy___init : He.DefD := ⟨("Copy", some "__init__"), "__init__", "Copy.__init__", defArgs (inClass (top 40) 0), defBody (inClass (top 40) 0), defScope (inClass (top 40) 0), [], [("mirrored", (.bl false))]⟩
def d_added : He.DefD := ⟨("added", none), "added", "added", defArgs (top 31), defBody (top 31), defScope (top 31), [], []⟩
def d_multiplied : He.DefD := ⟨("multiplied", none), "multiplied", "multiplied", defArgs (top 33), defBody (top 33), defScope (top 33), [], []⟩
def d_turned_over : He.DefD := ⟨("turned_over", none), "turned_over", "turned_over", defArgs (top 34), defBody (top 34), defScope (top 34), [], []⟩
def d_carried : He.DefD := ⟨("carried", none), "carried", "carried", defArgs (top 39), defBody (top 39), defScope (top 39), [], []⟩
def d_Drawing_copied : He.DefD := ⟨("Drawing", some "copied"), "copied", "Drawing.copied", defArgs (inClass (top 45) 8), defBody (inClass (top 45) 8), defScope (inClass (top 45) 8), [], []⟩
def d_law : He.DefD := ⟨("law", none), "law", "law", defArgs (top 71), defBody (top 71), defScope (top 71), [], []⟩
def d_law_error_of : He.DefD := ⟨("_law_error_of", none), "_law_error_of", "_law_error_of", defArgs (top 70), defBody (top 70), defScope (top 70), [], []⟩
def fn : List He.DefD := [d_law_random, d_law_below, d_law_step, d_law_common, d_law_lowest, d_law_spotT, d_law_strokeT, d_law_strokesT, d_is_int, d_common_divisor, d_lowest, d_is_number, d_check_spot, d_check_stroke, d_Drawing___init, d_Drawing___add, d_law_drawing, d_law_plus, d_law_minus, d_law_ahead, d_law_lies, d_law_covers, d_law_equal, d_is_int_in, d_common_multiple, d_scaled, d_line_key, d_joined, d_lines_of, d_lies_on, d_picture, d_check_turn, d_Copy___init, d_added, d_multiplied, d_turned_over, d_carried, d_Drawing_copied, d_law, d_law_error_of]
def fx : List FnX := []
def fy : List FnY := []
def fa : List (He.Fa) := ([.free "abs", .free "len", .free "range", .free "tuple", .free "bool", .free "int", .free "isinstance", .free "all", .int "MAX_SPOTS" 12, .free "any", .free "zip", .int "MAX_STROKES" 12, .cls "Drawing", .noat "Drawing" "strokes", .free "enumerate", .meth "Drawing" "__add__", .free "list", .free "str", .free "max", .free "sorted", .free "min", .int "MAX_SIZE" 20, .glo "ZERO", .cls "Copy", .noat "Copy" "key", .noat "Copy" "mirrored", .noat "Copy" "shift", .noat "Copy" "turn", .meth "Drawing" "copied", .glo "InvalidSize"] : List (He.Fa)) ++ ([.exc "InvalidSize", .free "ValueError", .glo "BadRow", .glo "BadText", .glo "Contradiction", .glo "CopyError", .glo "InvalidBox", .glo "InvalidCode", .glo "InvalidName", .glo "InvalidOperation", .glo "InvalidReach", .glo "InvalidSpot", .glo "InvalidStroke", .glo "InvalidTimes", .glo "InvalidTurn", .glo "NotFree", .glo "OpenStroke", .glo "OutOfReach", .glo "TooFew", .glo "TooMany", .glo "UnknownArm", .glo "UnknownName", .glo "Copy", .mkr "Copy", .glo "Drawing", .mkr "Drawing", .glo "_law_random", .glo "_law_below", .glo "_law_step", .glo "_law_common"] : List (He.Fa)) ++ ([.glo "_law_lowest", .glo "_law_spot", .glo "_law_stroke", .glo "_law_strokes", .glo "is_int", .glo "common_divisor", .glo "lowest", .glo "is_number", .glo "check_spot", .glo "check_stroke", .glo "_law_drawing", .glo "_law_plus", .glo "_law_minus", .glo "_law_ahead", .glo "_law_lies", .glo "_law_covers", .glo "_law_equal", .glo "is_int_in", .glo "common_multiple", .glo "scaled", .glo "line_key", .glo "joined", .glo "lines_of", .glo "lies_on", .glo "picture", .glo "check_turn", .glo "added", .glo "multiplied", .glo "turned_over", .glo "carried"] : List (He.Fa)) ++ ([.glo "law", .glo "_law_error_of"] : List (He.Fa))
def xb : List (PySem.W.Frag → Bool) := ([(fun K => PySem.W.selfFirst K (He.ga K "Drawing")), (fun K => He.tupB K "ZERO" [(.int 0), (.int 0), (.int 1)]), (fun K => errAB K (He.ga K "InvalidSize") (He.ga K "CopyError") (fun s => He.ga K s) 9)] : List (PySem.W.Frag → Bool))
theorem fc {K : PySem.W.Frag} {h : Heap} {mg : Str → Option Value} (X : K.In h) (G : h.Ns mainGlobals mg) (c : obsX xb fa fn fx K = valX fn fx) : Fc K mg (Γ0 K) :=
  let d := says_d c
  { f_abs := He.free_ok X G (d.fact 0 (f := .free "abs") rfl),
    f_len := He.free_ok X G (d.fact 1 (f := .free "len") rfl),
    f_range := He.free_ok X G (d.fact 2 (f := .free "range") rfl),
    f_tuple := He.free_ok X G (d.fact 3 (f := .free "tuple") rfl),
    f_bool := He.free_ok X G (d.fact 4 (f := .free "bool") rfl),
    f_int := He.free_ok X G (d.fact 5 (f := .free "int") rfl),
    f_isinstance := He.free_ok X G (d.fact 6 (f := .free "isinstance") rfl),
    f_all := He.free_ok X G (d.fact 7 (f := .free "all") rfl),
    c_MAX_SPOTS := (let ⟨t, e⟩ := He.int_ok X G (d.fact 8 (f := .int "MAX_SPOTS" 12) rfl); ⟨.int _ t, .int _, e, ⟨t, rfl⟩, fun S => .int _⟩),
    f_any := He.free_ok X G (d.fact 9 (f := .free "any") rfl),
    f_zip := He.free_ok X G (d.fact 10 (f := .free "zip") rfl),
    c_MAX_STROKES := (let ⟨t, e⟩ := He.int_ok X G (d.fact 11 (f := .int "MAX_STROKES" 12) rfl); ⟨.int _ t, .int _, e, ⟨t, rfl⟩, fun S => .int _⟩),
    cl_Drawing := He.cls_ok (d.fact 12 (f := .cls "Drawing") rfl),
    n_Drawing_strokes := He.noat_ok (d.fact 13 (f := .noat "Drawing" "strokes") rfl),
    f_enumerate := He.free_ok X G (d.fact 14 (f := .free "enumerate") rfl),
    sf_Drawing := says_b c 0 (b := fun K => PySem.W.selfFirst K (He.ga K "Drawing")) rfl,
    w_Drawing___add := (He.meth_ok (d.fact 15 (f := .meth "Drawing" "__add__") rfl)).at_,
    v_Drawing___add := (He.meth_ok (d.fact 15 (f := .meth "Drawing" "__add__") rfl)).fn,
    f_list := He.free_ok X G (d.fact 16 (f := .free "list") rfl),
    f_str := He.free_ok X G (d.fact 17 (f := .free "str") rfl),
    f_max := He.free_ok X G (d.fact 18 (f := .free "max") rfl),
    f_sorted := He.free_ok X G (d.fact 19 (f := .free "sorted") rfl),
    f_min := He.free_ok X G (d.fact 20 (f := .free "min") rfl),
    c_MAX_SIZE := (let ⟨t, e⟩ := He.int_ok X G (d.fact 21 (f := .int "MAX_SIZE" 20) rfl); ⟨.int _ t, .int _, e, ⟨t, rfl⟩, fun S => .int _⟩),
    c_ZERO := constTup (He.glo_ok X G (d.fact 22 (f := .glo "ZERO") rfl)) (says_b c 1 (b := fun K => He.tupB K "ZERO" [(.int 0), (.int 0), (.int 1)]) rfl) (fun S => (.cons (.int _) (.cons (.int _) (.cons (.int _) .nil)))),
    cl_Copy := He.cls_ok (d.fact 23 (f := .cls "Copy") rfl),
    n_Copy_key := He.noat_ok (d.fact 24 (f := .noat "Copy" "key") rfl),
    n_Copy_mirrored := He.noat_ok (d.fact 25 (f := .noat "Copy" "mirrored") rfl),
    n_Copy_shift := He.noat_ok (d.fact 26 (f := .noat "Copy" "shift") rfl),
    n_Copy_turn := He.noat_ok (d.fact 27 (f := .noat "Copy" "turn") rfl),
    ek_InvalidSize := errAB_ok (says_b c 2 (b := fun K => errAB K (He.ga K "InvalidSize") (He.ga K "CopyError") (fun s => He.ga K s) 9) rfl),
    m_Drawing_copied := (He.meth_ok (d.fact 28 (f := .meth "Drawing" "copied") rfl)),
    x_InvalidSize := ⟨⟨_, _, _, _, PySem.F.excBase_ValueError, (He.exc_ok (d.fact 30 (f := .exc "InvalidSize") rfl)).1⟩, He.glo_ok X G (d.fact 29 (f := .glo "InvalidSize") rfl), (He.exc_ok (d.fact 30 (f := .exc "InvalidSize") rfl)).2.1, (He.exc_ok (d.fact 30 (f := .exc "InvalidSize") rfl)).2.2.1, (He.exc_ok (d.fact 30 (f := .exc "InvalidSize") rfl)).2.2.2⟩,
    f_ValueError := He.free_ok X G (d.fact 31 (f := .free "ValueError") rfl),
    gx_BadRow := He.glo_ok X G (d.fact 32 (f := .glo "BadRow") rfl),
    gx_BadText := He.glo_ok X G (d.fact 33 (f := .glo "BadText") rfl),
    gx_Contradiction := He.glo_ok X G (d.fact 34 (f := .glo "Contradiction") rfl),
    gx_CopyError := He.glo_ok X G (d.fact 35 (f := .glo "CopyError") rfl),
    gx_InvalidBox := He.glo_ok X G (d.fact 36 (f := .glo "InvalidBox") rfl),
    gx_InvalidCode := He.glo_ok X G (d.fact 37 (f := .glo "InvalidCode") rfl),
    gx_InvalidName := He.glo_ok X G (d.fact 38 (f := .glo "InvalidName") rfl),
    gx_InvalidOperation := He.glo_ok X G (d.fact 39 (f := .glo "InvalidOperation") rfl),
    gx_InvalidReach := He.glo_ok X G (d.fact 40 (f := .glo "InvalidReach") rfl),
    gx_InvalidSize := He.glo_ok X G (d.fact 29 (f := .glo "InvalidSize") rfl),
    gx_InvalidSpot := He.glo_ok X G (d.fact 41 (f := .glo "InvalidSpot") rfl),
    gx_InvalidStroke := He.glo_ok X G (d.fact 42 (f := .glo "InvalidStroke") rfl),
    gx_InvalidTimes := He.glo_ok X G (d.fact 43 (f := .glo "InvalidTimes") rfl),
    gx_InvalidTurn := He.glo_ok X G (d.fact 44 (f := .glo "InvalidTurn") rfl),
    gx_NotFree := He.glo_ok X G (d.fact 45 (f := .glo "NotFree") rfl),
    gx_OpenStroke := He.glo_ok X G (d.fact 46 (f := .glo "OpenStroke") rfl),
    gx_OutOfReach := He.glo_ok X G (d.fact 47 (f := .glo "OutOfReach") rfl),
    gx_TooFew := He.glo_ok X G (d.fact 48 (f := .glo "TooFew") rfl),
    gx_TooMany := He.glo_ok X G (d.fact 49 (f := .glo "TooMany") rfl),
    gx_UnknownArm := He.glo_ok X G (d.fact 50 (f := .glo "UnknownArm") rfl),
    gx_UnknownName := He.glo_ok X G (d.fact 51 (f := .glo "UnknownName") rfl) }
theorem all {P : Program} {w : World} {K : PySem.W.Frag} {h : Heap} {mg : Str → Option Value} (X : K.In h) (G : h.Ns mainGlobals mg) (c0 : SaysU xb fa fn fx fy K) (hP : P.main.file = "/claim/cut.py") (hT : (P.main.scope.names.lookup ("super" : Str)).isSome = false) :
    ∃ fd : FuncData, mg "law" = some (.ref (He.ga K "law")) ∧ (∀ (s : Shared) (v : Value), BindsTo s fd ⟨[v], []⟩ [("_law_script", v)]) ∧ ∀ base : Heap, LamX.TabB base mg (lawC K) (lawP K) → FnOk P w K mg base CX0 10 (He.ga K "law") fd ["_law_script"] (spLawT K (lawP K)) := by
  have c := c0.1
  have T := fc X G c
  have d := says_d c
  obtain ⟨fd_law_random, F_law_random⟩ : ∃ fd, FunD K "_law_random" "_law_random" (defArgs (top 55)) (defBody (top 55)) (defScope (top 55)) [] [] (He.ga K "_law_random") fd := d.def_ 0 (d := d_law_random) rfl
  have g_law_random : mg "_law_random" = some (.ref (He.ga K "_law_random")) := He.glo_ok X G (d.fact 56 (f := .glo "_law_random") rfl)
  obtain ⟨fd_law_below, F_law_below⟩ : ∃ fd, FunD K "_law_below" "_law_below" (defArgs (top 56)) (defBody (top 56)) (defScope (top 56)) [] [] (He.ga K "_law_below") fd := d.def_ 1 (d := d_law_below) rfl
  have g_law_below : mg "_law_below" = some (.ref (He.ga K "_law_below")) := He.glo_ok X G (d.fact 57 (f := .glo "_law_below") rfl)
  obtain ⟨fd_law_step, F_law_step⟩ : ∃ fd, FunD K "_law_step" "_law_step" (defArgs (top 57)) (defBody (top 57)) (defScope (top 57)) [] [] (He.ga K "_law_step") fd := d.def_ 2 (d := d_law_step) rfl
  have g_law_step : mg "_law_step" = some (.ref (He.ga K "_law_step")) := He.glo_ok X G (d.fact 58 (f := .glo "_law_step") rfl)
  obtain ⟨fd_law_common, F_law_common⟩ : ∃ fd, FunD K "_law_common" "_law_common" (defArgs (top 58)) (defBody (top 58)) (defScope (top 58)) [] [] (He.ga K "_law_common") fd := d.def_ 3 (d := d_law_common) rfl
  have g_law_common : mg "_law_common" = some (.ref (He.ga K "_law_common")) := He.glo_ok X G (d.fact 59 (f := .glo "_law_common") rfl)
  obtain ⟨fd_law_lowest, F_law_lowest⟩ : ∃ fd, FunD K "_law_lowest" "_law_lowest" (defArgs (top 59)) (defBody (top 59)) (defScope (top 59)) [] [] (He.ga K "_law_lowest") fd := d.def_ 4 (d := d_law_lowest) rfl
  have g_law_lowest : mg "_law_lowest" = some (.ref (He.ga K "_law_lowest")) := He.glo_ok X G (d.fact 60 (f := .glo "_law_lowest") rfl)
  obtain ⟨fd_law_spotT, F_law_spotT⟩ : ∃ fd, FunD K "_law_spot" "_law_spot" (defArgs (top 60)) (defBody (top 60)) (defScope (top 60)) [] [] (He.ga K "_law_spot") fd := d.def_ 5 (d := d_law_spotT) rfl
  have g_law_spotT : mg "_law_spot" = some (.ref (He.ga K "_law_spot")) := He.glo_ok X G (d.fact 61 (f := .glo "_law_spot") rfl)
  obtain ⟨fd_law_strokeT, F_law_strokeT⟩ : ∃ fd, FunD K "_law_stroke" "_law_stroke" (defArgs (top 61)) (defBody (top 61)) (defScope (top 61)) [] [] (He.ga K "_law_stroke") fd := d.def_ 6 (d := d_law_strokeT) rfl
  have g_law_strokeT : mg "_law_stroke" = some (.ref (He.ga K "_law_stroke")) := He.glo_ok X G (d.fact 62 (f := .glo "_law_stroke") rfl)
  obtain ⟨fd_law_strokesT, F_law_strokesT⟩ : ∃ fd, FunD K "_law_strokes" "_law_strokes" (defArgs (top 62)) (defBody (top 62)) (defScope (top 62)) [] [] (He.ga K "_law_strokes") fd := d.def_ 7 (d := d_law_strokesT) rfl
  have g_law_strokesT : mg "_law_strokes" = some (.ref (He.ga K "_law_strokes")) := He.glo_ok X G (d.fact 63 (f := .glo "_law_strokes") rfl)
  obtain ⟨fd_is_int, F_is_int⟩ : ∃ fd, FunD K "is_int" "is_int" (defArgs (top 25)) (defBody (top 25)) (defScope (top 25)) [] [] (He.ga K "is_int") fd := d.def_ 8 (d := d_is_int) rfl
  have g_is_int : mg "is_int" = some (.ref (He.ga K "is_int")) := He.glo_ok X G (d.fact 64 (f := .glo "is_int") rfl)
  obtain ⟨fd_common_divisor, F_common_divisor⟩ : ∃ fd, FunD K "common_divisor" "common_divisor" (defArgs (top 26)) (defBody (top 26)) (defScope (top 26)) [] [] (He.ga K "common_divisor") fd := d.def_ 9 (d := d_common_divisor) rfl
  have g_common_divisor : mg "common_divisor" = some (.ref (He.ga K "common_divisor")) := He.glo_ok X G (d.fact 65 (f := .glo "common_divisor") rfl)
  obtain ⟨fd_lowest, F_lowest⟩ : ∃ fd, FunD K "lowest" "lowest" (defArgs (top 28)) (defBody (top 28)) (defScope (top 28)) [] [] (He.ga K "lowest") fd := d.def_ 10 (d := d_lowest) rfl
  have g_lowest : mg "lowest" = some (.ref (He.ga K "lowest")) := He.glo_ok X G (d.fact 66 (f := .glo "lowest") rfl)
  obtain ⟨fd_is_number, F_is_number⟩ : ∃ fd, FunD K "is_number" "is_number" (defArgs (top 30)) (defBody (top 30)) (defScope (top 30)) [] [] (He.ga K "is_number") fd := d.def_ 11 (d := d_is_number) rfl
  have g_is_number : mg "is_number" = some (.ref (He.ga K "is_number")) := He.glo_ok X G (d.fact 67 (f := .glo "is_number") rfl)
  obtain ⟨fd_check_spot, F_check_spot⟩ : ∃ fd, FunD K "check_spot" "check_spot" (defArgs (top 37)) (defBody (top 37)) (defScope (top 37)) [] [] (He.ga K "check_spot") fd := d.def_ 12 (d := d_check_spot) rfl
  have g_check_spot : mg "check_spot" = some (.ref (He.ga K "check_spot")) := He.glo_ok X G (d.fact 68 (f := .glo "check_spot") rfl)
  obtain ⟨fd_check_stroke, F_check_stroke⟩ : ∃ fd, FunD K "check_stroke" "check_stroke" (defArgs (top 44)) (defBody (top 44)) (defScope (top 44)) [] [] (He.ga K "check_stroke") fd := d.def_ 13 (d := d_check_stroke) rfl
  have g_check_stroke : mg "check_stroke" = some (.ref (He.ga K "check_stroke")) := He.glo_ok X G (d.fact 69 (f := .glo "check_stroke") rfl)
  obtain ⟨fd_Drawing___init, F_Drawing___init⟩ : ∃ fd, FunD K "__init__" "Drawing.__init__" (defArgs (inClass (top 45) 0)) (defBody (inClass (top 45) 0)) (defScope (inClass (top 45) 0)) [] [] (He.ma K (He.ga K "Drawing") "__init__") fd := d.def_ 14 (d := d_Drawing___init) rfl
  obtain ⟨fd_Drawing___add, F_Drawing___add⟩ : ∃ fd, FunD K "__add__" "Drawing.__add__" (defArgs (inClass (top 45) 5)) (defBody (inClass (top 45) 5)) (defScope (inClass (top 45) 5)) [] [] (He.ma K (He.ga K "Drawing") "__add__") fd := d.def_ 15 (d := d_Drawing___add) rfl
  obtain ⟨fd_law_drawing, F_law_drawing⟩ : ∃ fd, FunD K "_law_drawing" "_law_drawing" (defArgs (top 63)) (defBody (top 63)) (defScope (top 63)) [] [] (He.ga K "_law_drawing") fd := d.def_ 16 (d := d_law_drawing) rfl
  have g_law_drawing : mg "_law_drawing" = some (.ref (He.ga K "_law_drawing")) := He.glo_ok X G (d.fact 70 (f := .glo "_law_drawing") rfl)
  obtain ⟨fd_law_plus, F_law_plus⟩ : ∃ fd, FunD K "_law_plus" "_law_plus" (defArgs (top 64)) (defBody (top 64)) (defScope (top 64)) [] [] (He.ga K "_law_plus") fd := d.def_ 17 (d := d_law_plus) rfl
  have g_law_plus : mg "_law_plus" = some (.ref (He.ga K "_law_plus")) := He.glo_ok X G (d.fact 71 (f := .glo "_law_plus") rfl)
  obtain ⟨fd_law_minus, F_law_minus⟩ : ∃ fd, FunD K "_law_minus" "_law_minus" (defArgs (top 65)) (defBody (top 65)) (defScope (top 65)) [] [] (He.ga K "_law_minus") fd := d.def_ 18 (d := d_law_minus) rfl
  have g_law_minus : mg "_law_minus" = some (.ref (He.ga K "_law_minus")) := He.glo_ok X G (d.fact 72 (f := .glo "_law_minus") rfl)
  obtain ⟨fd_law_ahead, F_law_ahead⟩ : ∃ fd, FunD K "_law_ahead" "_law_ahead" (defArgs (top 66)) (defBody (top 66)) (defScope (top 66)) [] [] (He.ga K "_law_ahead") fd := d.def_ 19 (d := d_law_ahead) rfl
  have g_law_ahead : mg "_law_ahead" = some (.ref (He.ga K "_law_ahead")) := He.glo_ok X G (d.fact 73 (f := .glo "_law_ahead") rfl)
  obtain ⟨fd_law_lies, F_law_lies⟩ : ∃ fd, FunD K "_law_lies" "_law_lies" (defArgs (top 67)) (defBody (top 67)) (defScope (top 67)) [] [] (He.ga K "_law_lies") fd := d.def_ 20 (d := d_law_lies) rfl
  have g_law_lies : mg "_law_lies" = some (.ref (He.ga K "_law_lies")) := He.glo_ok X G (d.fact 74 (f := .glo "_law_lies") rfl)
  obtain ⟨fd_law_covers, F_law_covers⟩ : ∃ fd, FunD K "_law_covers" "_law_covers" (defArgs (top 68)) (defBody (top 68)) (defScope (top 68)) [] [] (He.ga K "_law_covers") fd := d.def_ 21 (d := d_law_covers) rfl
  have g_law_covers : mg "_law_covers" = some (.ref (He.ga K "_law_covers")) := He.glo_ok X G (d.fact 75 (f := .glo "_law_covers") rfl)
  obtain ⟨fd_law_equal, F_law_equal⟩ : ∃ fd, FunD K "_law_equal" "_law_equal" (defArgs (top 69)) (defBody (top 69)) (defScope (top 69)) [] [] (He.ga K "_law_equal") fd := d.def_ 22 (d := d_law_equal) rfl
  have g_law_equal : mg "_law_equal" = some (.ref (He.ga K "_law_equal")) := He.glo_ok X G (d.fact 76 (f := .glo "_law_equal") rfl)
  obtain ⟨fd_is_int_in, F_is_int_in⟩ : ∃ fd, FunD K "is_int_in" "is_int_in" (defArgs (top 24)) (defBody (top 24)) (defScope (top 24)) [] [] (He.ga K "is_int_in") fd := d.def_ 23 (d := d_is_int_in) rfl
  have g_is_int_in : mg "is_int_in" = some (.ref (He.ga K "is_int_in")) := He.glo_ok X G (d.fact 77 (f := .glo "is_int_in") rfl)
  obtain ⟨fd_common_multiple, F_common_multiple⟩ : ∃ fd, FunD K "common_multiple" "common_multiple" (defArgs (top 27)) (defBody (top 27)) (defScope (top 27)) [] [] (He.ga K "common_multiple") fd := d.def_ 24 (d := d_common_multiple) rfl
  have g_common_multiple : mg "common_multiple" = some (.ref (He.ga K "common_multiple")) := He.glo_ok X G (d.fact 78 (f := .glo "common_multiple") rfl)
  obtain ⟨fd_scaled, F_scaled⟩ : ∃ fd, FunD K "scaled" "scaled" (defArgs (top 46)) (defBody (top 46)) (defScope (top 46)) [] [] (He.ga K "scaled") fd := d.def_ 25 (d := d_scaled) rfl
  have g_scaled : mg "scaled" = some (.ref (He.ga K "scaled")) := He.glo_ok X G (d.fact 79 (f := .glo "scaled") rfl)
  obtain ⟨fd_line_key, F_line_key⟩ : ∃ fd, FunD K "line_key" "line_key" (defArgs (top 47)) (defBody (top 47)) (defScope (top 47)) [] [] (He.ga K "line_key") fd := d.def_ 26 (d := d_line_key) rfl
  have g_line_key : mg "line_key" = some (.ref (He.ga K "line_key")) := He.glo_ok X G (d.fact 80 (f := .glo "line_key") rfl)
  obtain ⟨fd_joined, F_joined⟩ : ∃ fd, FunD K "joined" "joined" (defArgs (top 48)) (defBody (top 48)) (defScope (top 48)) [] [] (He.ga K "joined") fd := d.def_ 27 (d := d_joined) rfl
  have g_joined : mg "joined" = some (.ref (He.ga K "joined")) := He.glo_ok X G (d.fact 81 (f := .glo "joined") rfl)
  obtain ⟨fd_lines_of, F_lines_of⟩ : ∃ fd, FunD K "lines_of" "lines_of" (defArgs (top 49)) (defBody (top 49)) (defScope (top 49)) [] [] (He.ga K "lines_of") fd := d.def_ 28 (d := d_lines_of) rfl
  have g_lines_of : mg "lines_of" = some (.ref (He.ga K "lines_of")) := He.glo_ok X G (d.fact 82 (f := .glo "lines_of") rfl)
  obtain ⟨fd_lies_on, F_lies_on⟩ : ∃ fd, FunD K "lies_on" "lies_on" (defArgs (top 50)) (defBody (top 50)) (defScope (top 50)) [] [] (He.ga K "lies_on") fd := d.def_ 29 (d := d_lies_on) rfl
  have g_lies_on : mg "lies_on" = some (.ref (He.ga K "lies_on")) := He.glo_ok X G (d.fact 83 (f := .glo "lies_on") rfl)
  obtain ⟨fd_picture, F_picture⟩ : ∃ fd, FunD K "picture" "picture" (defArgs (top 53)) (defBody (top 53)) (defScope (top 53)) [] [] (He.ga K "picture") fd := d.def_ 30 (d := d_picture) rfl
  have g_picture : mg "picture" = some (.ref (He.ga K "picture")) := He.glo_ok X G (d.fact 84 (f := .glo "picture") rfl)
  obtain ⟨fd_check_turn, F_check_turn⟩ : ∃ fd, FunD K "check_turn" "check_turn" (defArgs (top 38)) (defBody (top 38)) (defScope (top 38)) [] [] (He.ga K "check_turn") fd := d.def_ 31 (d := d_check_turn) rfl
  have g_check_turn : mg "check_turn" = some (.ref (He.ga K "check_turn")) := He.glo_ok X G (d.fact 85 (f := .glo "check_turn") rfl)
  obtain ⟨fd_Copy___init, F_Copy___init⟩ : ∃ fd, FunD K "__init__" "Copy.__init__" (defArgs (inClass (top 40) 0)) (defBody (inClass (top 40) 0)) (defScope (inClass (top 40) 0)) [] [("mirrored", (.bl false))] (He.ma K (He.ga K "Copy") "__init__") fd := d.def_ 32 (d := d_Copy___init) rfl
  obtain ⟨fd_added, F_added⟩ : ∃ fd, FunD K "added" "added" (defArgs (top 31)) (defBody (top 31)) (defScope (top 31)) [] [] (He.ga K "added") fd := d.def_ 33 (d := d_added) rfl
  have g_added : mg "added" = some (.ref (He.ga K "added")) := He.glo_ok X G (d.fact 86 (f := .glo "added") rfl)
  obtain ⟨fd_multiplied, F_multiplied⟩ : ∃ fd, FunD K "multiplied" "multiplied" (defArgs (top 33)) (defBody (top 33)) (defScope (top 33)) [] [] (He.ga K "multiplied") fd := d.def_ 34 (d := d_multiplied) rfl
  have g_multiplied : mg "multiplied" = some (.ref (He.ga K "multiplied")) := He.glo_ok X G (d.fact 87 (f := .glo "multiplied") rfl)
  obtain ⟨fd_turned_over, F_turned_over⟩ : ∃ fd, FunD K "turned_over" "turned_over" (defArgs (top 34)) (defBody (top 34)) (defScope (top 34)) [] [] (He.ga K "turned_over") fd := d.def_ 35 (d := d_turned_over) rfl
  have g_turned_over : mg "turned_over" = some (.ref (He.ga K "turned_over")) := He.glo_ok X G (d.fact 88 (f := .glo "turned_over") rfl)
  obtain ⟨fd_carried, F_carried⟩ : ∃ fd, FunD K "carried" "carried" (defArgs (top 39)) (defBody (top 39)) (defScope (top 39)) [] [] (He.ga K "carried") fd := d.def_ 36 (d := d_carried) rfl
  have g_carried : mg "carried" = some (.ref (He.ga K "carried")) := He.glo_ok X G (d.fact 89 (f := .glo "carried") rfl)
  obtain ⟨fd_Drawing_copied, F_Drawing_copied⟩ : ∃ fd, FunD K "copied" "Drawing.copied" (defArgs (inClass (top 45) 8)) (defBody (inClass (top 45) 8)) (defScope (inClass (top 45) 8)) [] [] (He.ma K (He.ga K "Drawing") "copied") fd := d.def_ 37 (d := d_Drawing_copied) rfl
  obtain ⟨fd_law, F_law⟩ : ∃ fd, FunD K "law" "law" (defArgs (top 71)) (defBody (top 71)) (defScope (top 71)) [] [] (He.ga K "law") fd := d.def_ 38 (d := d_law) rfl
  have g_law : mg "law" = some (.ref (He.ga K "law")) := He.glo_ok X G (d.fact 90 (f := .glo "law") rfl)
  obtain ⟨fd_law_error_of, F_law_error_of⟩ : ∃ fd, FunD K "_law_error_of" "_law_error_of" (defArgs (top 70)) (defBody (top 70)) (defScope (top 70)) [] [] (He.ga K "_law_error_of") fd := d.def_ 39 (d := d_law_error_of) rfl
  have g_law_error_of : mg "_law_error_of" = some (.ref (He.ga K "_law_error_of")) := He.glo_ok X G (d.fact 91 (f := .glo "_law_error_of") rfl)
  have b_law := FunD.bindsA (ps := ["_law_script"]) F_law fun _ _ _ _ _ _ us hl => match us, hl with | [_], _ => rfl
  refine ⟨fd_law, g_law, fun s v => b_law s [v] rfl, fun base TB => ?_⟩
  have mk_Copy := He.mkr_ok (d.fact 53 (f := .mkr "Copy") rfl)
  have gc_Copy : mg "Copy" = some (.ref (He.ga K "Copy")) := He.glo_ok X G (d.fact 52 (f := .glo "Copy") rfl)
  have mk_Drawing := He.mkr_ok (d.fact 55 (f := .mkr "Drawing") rfl)
  have gc_Drawing : mg "Drawing" = some (.ref (He.ga K "Drawing")) := He.glo_ok X G (d.fact 54 (f := .glo "Drawing") rfl)
  have G_law_random : FnG P w K mg base 1 "_law_random" (sp_law_random (Γ0 K)) := ⟨_, _, _, ok_law_random T F_law_random , g_law_random, F_law_random.kp, F_law_random.bindsN fun _ _ _ _ _ _ us hl => match us, hl with | [_, _], _ => rfl⟩
  have G_law_below : FnG P w K mg base 1 "_law_below" (sp_law_below (Γ0 K)) := ⟨_, _, _, ok_law_below T F_law_below , g_law_below, F_law_below.kp, F_law_below.bindsN fun _ _ _ _ _ _ us hl => match us, hl with | [_, _], _ => rfl⟩
  have G_law_step : FnG P w K mg base 2 "_law_step" (sp_law_step (Γ0 K)) := ⟨_, _, _, ok_law_step T F_law_step G_law_below, g_law_step, F_law_step.kp, F_law_step.bindsN fun _ _ _ _ _ _ us hl => match us, hl with | [_, _], _ => rfl⟩
  have G_law_common : FnG P w K mg base 1 "_law_common" (sp_law_common (Γ0 K)) := ⟨_, _, _, ok_law_common T F_law_common , g_law_common, F_law_common.kp, F_law_common.bindsN fun _ _ _ _ _ _ us hl => match us, hl with | [_, _], _ => rfl⟩
  have G_law_lowest : FnG P w K mg base 2 "_law_lowest" (sp_law_lowest (Γ0 K)) := ⟨_, _, _, ok_law_lowest T F_law_lowest G_law_common, g_law_lowest, F_law_lowest.kp, F_law_lowest.bindsN fun _ _ _ _ _ _ us hl => match us, hl with | [_, _, _], _ => rfl⟩
  have G_law_spotT : FnG P w K mg base 3 "_law_spot" (sp_law_spotT (Γ0 K)) := ⟨_, _, _, ok_law_spotT T F_law_spotT G_law_below G_law_lowest, g_law_spotT, F_law_spotT.kp, F_law_spotT.bindsN fun _ _ _ _ _ _ us hl => match us, hl with | [_], _ => rfl⟩
  have G_law_strokeT : FnG P w K mg base 4 "_law_stroke" (sp_law_strokeT (Γ0 K)) := ⟨_, _, _, ok_law_strokeT T F_law_strokeT G_law_step G_law_below G_law_spotT, g_law_strokeT, F_law_strokeT.kp, F_law_strokeT.bindsN fun _ _ _ _ _ _ us hl => match us, hl with | [_, _], _ => rfl⟩
  have G_law_strokesT : FnG P w K mg base 5 "_law_strokes" (sp_law_strokesT (Γ0 K)) := ⟨_, _, _, ok_law_strokesT T F_law_strokesT G_law_below G_law_strokeT, g_law_strokesT, F_law_strokesT.kp, F_law_strokesT.bindsN fun _ _ _ _ _ _ us hl => match us, hl with | [_, _], _ => rfl⟩
  have G_is_int : FnG P w K mg base 1 "is_int" (sp_is_int (Γ0 K)) := ⟨_, _, _, ok_is_int T F_is_int , g_is_int, F_is_int.kp, F_is_int.bindsN fun _ _ _ _ _ _ us hl => match us, hl with | [_], _ => rfl⟩
  have G_common_divisor : FnG P w K mg base 1 "common_divisor" (sp_common_divisor (Γ0 K)) := ⟨_, _, _, ok_common_divisor T F_common_divisor , g_common_divisor, F_common_divisor.kp, F_common_divisor.bindsN fun _ _ _ _ _ _ us hl => match us, hl with | [_, _], _ => rfl⟩
  have G_lowest : FnG P w K mg base 2 "lowest" (sp_lowest (Γ0 K)) := ⟨_, _, _, ok_lowest T F_lowest G_common_divisor, g_lowest, F_lowest.kp, F_lowest.bindsN fun _ _ _ _ _ _ us hl => match us, hl with | [_, _, _], _ => rfl⟩
  have G_is_number : FnG P w K mg base 3 "is_number" (sp_is_number (Γ0 K)) := ⟨_, _, _, ok_is_number T F_is_number G_is_int G_lowest, g_is_number, F_is_number.kp, F_is_number.bindsN fun _ _ _ _ _ _ us hl => match us, hl with | [_], _ => rfl⟩
  have G_check_spot : FnG P w K mg base 4 "check_spot" (sp_check_spot (Γ0 K)) := ⟨_, _, _, ok_check_spot T F_check_spot G_is_number, g_check_spot, F_check_spot.kp, F_check_spot.bindsN fun _ _ _ _ _ _ us hl => match us, hl with | [_], _ => rfl⟩
  have G_check_stroke : FnG P w K mg base 5 "check_stroke" (sp_check_stroke (Γ0 K)) := ⟨_, _, _, ok_check_stroke T F_check_stroke G_check_spot, g_check_stroke, F_check_stroke.kp, F_check_stroke.bindsN fun _ _ _ _ _ _ us hl => match us, hl with | [_, _], _ => rfl⟩
  have O_Drawing___init := ok_Drawing___init (P := P) (w := w) (base := base) T F_Drawing___init G_check_stroke
  have G_Drawing___init : MkS P w K mg base 6 "Drawing" (Γ0 K).Drawing (sp_Drawing___init (Γ0 K)) := ⟨_, O_Drawing___init, gc_Drawing, mk_Drawing⟩
  have G_Drawing___add : MtG P w K mg base 8 (Γ0 K).Drawing (He.ma K (Γ0 K).Drawing "__add__") (sp_Drawing___add (Γ0 K)) := ⟨_, _, ok_Drawing___add T F_Drawing___add G_Drawing___init, F_Drawing___add.bindsN fun _ _ _ _ _ _ us hl => match us, hl with | [_, _], _ => rfl⟩
  have G_law_drawing : FnG P w K mg base 9 "_law_drawing" (sp_law_drawing (Γ0 K)) := ⟨_, _, _, ok_law_drawing T F_law_drawing G_Drawing___add G_Drawing___init, g_law_drawing, F_law_drawing.kp, F_law_drawing.bindsN fun _ _ _ _ _ _ us hl => match us, hl with | [_], _ => rfl⟩
  have G_law_plus : FnG P w K mg base 3 "_law_plus" (sp_law_plus (Γ0 K)) := ⟨_, _, _, ok_law_plus T F_law_plus G_law_lowest, g_law_plus, F_law_plus.kp, F_law_plus.bindsN fun _ _ _ _ _ _ us hl => match us, hl with | [_, _], _ => rfl⟩
  have G_law_minus : FnG P w K mg base 4 "_law_minus" (sp_law_minus (Γ0 K)) := ⟨_, _, _, ok_law_minus T F_law_minus G_law_plus, g_law_minus, F_law_minus.kp, F_law_minus.bindsN fun _ _ _ _ _ _ us hl => match us, hl with | [_, _], _ => rfl⟩
  have G_law_ahead : FnG P w K mg base 1 "_law_ahead" (sp_law_ahead (Γ0 K)) := ⟨_, _, _, ok_law_ahead T F_law_ahead , g_law_ahead, F_law_ahead.kp, F_law_ahead.bindsN fun _ _ _ _ _ _ us hl => match us, hl with | [_, _], _ => rfl⟩
  have G_law_lies : FnG P w K mg base 5 "_law_lies" (sp_law_lies (Γ0 K)) := ⟨_, _, _, ok_law_lies T F_law_lies G_law_minus G_law_ahead, g_law_lies, F_law_lies.kp, F_law_lies.bindsN fun _ _ _ _ _ _ us hl => match us, hl with | [_, _, _], _ => rfl⟩
  have G_law_covers : FnG P w K mg base 6 "_law_covers" (sp_law_covers (Γ0 K)) := ⟨_, _, _, ok_law_covers T F_law_covers G_law_lies, g_law_covers, F_law_covers.kp, F_law_covers.bindsN fun _ _ _ _ _ _ us hl => match us, hl with | [_, _], _ => rfl⟩
  have H0_law_equal : FnG P w K mg base 0 "_law_equal" (sp_law_equal (Γ0 K) 0) := ⟨_, _, ["_law_actual", "_law_expected"], FnOk.none, g_law_equal, F_law_equal.kp, F_law_equal.bindsN fun _ _ _ _ _ _ us hl => match us, hl with | [_, _], _ => rfl⟩
  have H1_law_equal : FnG P w K mg base 1 "_law_equal" (sp_law_equal (Γ0 K) 1) := ⟨_, _, _, ok_law_equal T F_law_equal H0_law_equal, g_law_equal, F_law_equal.kp, F_law_equal.bindsN fun _ _ _ _ _ _ us hl => match us, hl with | [_, _], _ => rfl⟩
  have H2_law_equal : FnG P w K mg base 2 "_law_equal" (sp_law_equal (Γ0 K) 2) := ⟨_, _, _, ok_law_equal T F_law_equal H1_law_equal, g_law_equal, F_law_equal.kp, F_law_equal.bindsN fun _ _ _ _ _ _ us hl => match us, hl with | [_, _], _ => rfl⟩
  have H3_law_equal : FnG P w K mg base 3 "_law_equal" (sp_law_equal (Γ0 K) 3) := ⟨_, _, _, ok_law_equal T F_law_equal H2_law_equal, g_law_equal, F_law_equal.kp, F_law_equal.bindsN fun _ _ _ _ _ _ us hl => match us, hl with | [_, _], _ => rfl⟩
  have H4_law_equal : FnG P w K mg base 4 "_law_equal" (sp_law_equal (Γ0 K) 4) := ⟨_, _, _, ok_law_equal T F_law_equal H3_law_equal, g_law_equal, F_law_equal.kp, F_law_equal.bindsN fun _ _ _ _ _ _ us hl => match us, hl with | [_, _], _ => rfl⟩
  have H5_law_equal : FnG P w K mg base 5 "_law_equal" (sp_law_equal (Γ0 K) 5) := ⟨_, _, _, ok_law_equal T F_law_equal H4_law_equal, g_law_equal, F_law_equal.kp, F_law_equal.bindsN fun _ _ _ _ _ _ us hl => match us, hl with | [_, _], _ => rfl⟩
  have G_law_equal := H5_law_equal
  have G_is_int_in : FnG P w K mg base 1 "is_int_in" (sp_is_int_in (Γ0 K)) := ⟨_, _, _, ok_is_int_in T F_is_int_in , g_is_int_in, F_is_int_in.kp, F_is_int_in.bindsN fun _ _ _ _ _ _ us hl => match us, hl with | [_, _, _], _ => rfl⟩
  have G_common_multiple : FnG P w K mg base 2 "common_multiple" (sp_common_multiple (Γ0 K)) := ⟨_, _, _, ok_common_multiple T F_common_multiple G_common_divisor, g_common_multiple, F_common_multiple.kp, F_common_multiple.bindsN fun _ _ _ _ _ _ us hl => match us, hl with | [_], _ => rfl⟩
  have G_scaled : FnG P w K mg base 3 "scaled" (sp_scaled (Γ0 K)) := ⟨_, _, _, ok_scaled T F_scaled G_common_multiple, g_scaled, F_scaled.kp, F_scaled.bindsN fun _ _ _ _ _ _ us hl => match us, hl with | [_], _ => rfl⟩
  have G_line_key : FnG P w K mg base 2 "line_key" (sp_line_key (Γ0 K)) := ⟨_, _, _, ok_line_key T F_line_key G_common_divisor, g_line_key, F_line_key.kp, F_line_key.bindsN fun _ _ _ _ _ _ us hl => match us, hl with | [_, _], _ => rfl⟩
  have G_joined : FnG P w K mg base 1 "joined" (sp_joined (Γ0 K)) := ⟨_, _, _, ok_joined T F_joined , g_joined, F_joined.kp, F_joined.bindsN fun _ _ _ _ _ _ us hl => match us, hl with | [_], _ => rfl⟩
  have G_lines_of : FnG P w K mg base 3 "lines_of" (sp_lines_of (Γ0 K)) := ⟨_, _, _, ok_lines_of T F_lines_of G_line_key G_joined, g_lines_of, F_lines_of.kp, F_lines_of.bindsN fun _ _ _ _ _ _ us hl => match us, hl with | [_], _ => rfl⟩
  have G_lies_on : FnG P w K mg base 1 "lies_on" (sp_lies_on (Γ0 K)) := ⟨_, _, _, ok_lies_on T F_lies_on , g_lies_on, F_lies_on.kp, F_lies_on.bindsN fun _ _ _ _ _ _ us hl => match us, hl with | [_, _], _ => rfl⟩
  have G_picture : FnG P w K mg base 4 "picture" (sp_picture (Γ0 K)) := ⟨_, _, _, ok_picture T F_picture G_is_int_in G_scaled G_lines_of G_lies_on, g_picture, F_picture.kp, F_picture.bindsN fun _ _ _ _ _ _ us hl => match us, hl with | [_, _], _ => rfl⟩
  have G_check_turn : FnG P w K mg base 4 "check_turn" (sp_check_turn (Γ0 K)) := ⟨_, _, _, ok_check_turn T F_check_turn G_is_number, g_check_turn, F_check_turn.kp, F_check_turn.bindsN fun _ _ _ _ _ _ us hl => match us, hl with | [_], _ => rfl⟩
  have O_Copy___init := ok_Copy___init (P := P) (w := w) (base := base) T F_Copy___init G_check_turn G_check_spot
  have G_Copy___init_k_mirrored : MkK P w K mg base 5 "Copy" (Γ0 K).Copy (sp_Copy___init (Γ0 K)) 2 ["mirrored"] gD_Copy_mirrored := by
    obtain ⟨mv, q⟩ := F_Copy___init.kbinds0 (ps := ["self", "turn", "shift", "mirrored"]) 3 ["mirrored"] [] (fun us _ ws => us ++ ws) (by simp) (by simp) (fun a _ b => Vals.append a b) fun _ _ _ _ _ _ us mv ws l1 l2 l3 => match us, mv, ws, l1, l2, l3 with | [_, _, _], [], [_], _, _, _ => rfl
    exact ⟨_, _, _, _, _, O_Copy___init, gc_Copy, mk_Copy, q, fun y b vs zs ds es S r1 r2 r3 => .cons r1 (r2.append r3)⟩
  have G_added : FnG P w K mg base 3 "added" (sp_added (Γ0 K)) := ⟨_, _, _, ok_added T F_added G_lowest, g_added, F_added.kp, F_added.bindsN fun _ _ _ _ _ _ us hl => match us, hl with | [_, _], _ => rfl⟩
  have G_multiplied : FnG P w K mg base 3 "multiplied" (sp_multiplied (Γ0 K)) := ⟨_, _, _, ok_multiplied T F_multiplied G_lowest, g_multiplied, F_multiplied.kp, F_multiplied.bindsN fun _ _ _ _ _ _ us hl => match us, hl with | [_, _], _ => rfl⟩
  have G_turned_over : FnG P w K mg base 1 "turned_over" (sp_turned_over (Γ0 K)) := ⟨_, _, _, ok_turned_over T F_turned_over , g_turned_over, F_turned_over.kp, F_turned_over.bindsN fun _ _ _ _ _ _ us hl => match us, hl with | [_], _ => rfl⟩
  have G_carried : FnG P w K mg base 4 "carried" (sp_carried (Γ0 K)) := ⟨_, _, _, ok_carried T F_carried G_added G_multiplied G_turned_over, g_carried, F_carried.kp, F_carried.bindsN fun _ _ _ _ _ _ us hl => match us, hl with | [_, _], _ => rfl⟩
  have G_Drawing_copied : MtG P w K mg base 8 (Γ0 K).Drawing (He.ma K (Γ0 K).Drawing "copied") (sp_Drawing_copied (Γ0 K)) := ⟨_, _, ok_Drawing_copied T F_Drawing_copied G_carried G_Drawing___init, F_Drawing_copied.bindsN fun _ _ _ _ _ _ us hl => match us, hl with | [_, _], _ => rfl⟩
  have GX_picture : FnGX P w K mg base 4 "picture" (spx_picture (Γ0 K)) := ⟨_, _, _, okx_picture T F_picture G_is_int_in G_scaled G_lines_of G_lies_on, g_picture, F_picture.kp, F_picture.bindsN fun _ _ _ _ _ _ us hl => match us, hl with | [_, _], _ => rfl⟩
  have b_err : L2.Binds K fd_law_error_of ["_law_call"] [] := F_law_error_of.bindsN fun _ _ _ _ _ _ us hl => match us, hl with | [_], _ => rfl
  have G_err : ErrD P w K mg base "_law_error_of" (resE (Γ0 K) errL) := by
    obtain ⟨oc, od, dV, kV, doc, pm, an, cdv, ct, osl, e, lk, hcd, _, _⟩ := F_law_error_of.ex
    subst e
    exact ⟨_, _, _, _, dV, kV, doc, pm, cdv, ct, oc, an, od, osl, _, "_law_call", g_law_error_of, F_law_error_of.kp, lk, hcd, b_err, sc_law_error_of, rfl, .inl rfl, by decide, by decide, fun Z q e1 e2 e3 e4 e5 hu => by
      subst e1 e2 e3 e4 e5
      exact gv_err (Γ0 Z.K) T hu q⟩
  exact (ok_law (P := P) (w := w) (base := base) T F_law TB G_law_random G_law_strokesT G_law_below G_law_drawing G_law_covers G_law_equal G_picture G_Drawing_copied G_Copy___init_k_mirrored G_Drawing___init G_err GX_picture).imp law_impT
def names : List (PySem.Str) := (["_wall", "CopyError", "InvalidSpot", "InvalidTurn", "InvalidTimes", "TooFew", "InvalidStroke", "OpenStroke", "InvalidReach", "OutOfReach", "TooMany", "InvalidSize", "InvalidBox", "Contradiction", "BadText", "BadRow", "UnknownName", "InvalidName", "InvalidCode", "UnknownArm", "NotFree", "InvalidOperation", "is_int_in", "is_int", "common_divisor", "common_multiple", "lowest", "ZERO", "is_number", "added"] : List (PySem.Str)) ++ (["opposite", "multiplied", "turned_over", "inverse", "check_spot", "check_turn", "carried", "Copy", "MAX_SPOTS", "MAX_STROKES", "check_stroke", "Drawing", "scaled", "line_key", "joined", "lines_of", "lies_on", "MAX_SIZE", "picture", "_law_random", "_law_below", "_law_step", "_law_common", "_law_lowest", "_law_spot", "_law_stroke", "_law_strokes", "_law_drawing", "_law_plus", "_law_minus"] : List (PySem.Str)) ++ (["_law_ahead", "_law_lies", "_law_covers", "_law_equal", "_law_error_of"] : List (PySem.Str))
abbrev R : PySem.W.OpenRow := PySem.W.OpenLaw.row PySem.Challenge.rw_copyarms_k34_pictures
abbrev qv : Program := PySem.W.view R.prog [71]
abbrev hk : PySem.W.Hook := hookXU 6 xb fa fn fx fy
def ob (s : PySem.W.SharedT) : AlU := obsXU xb fa fn fx fy 6 (HandSHeadRun.getT s)
theorem ob_eq (s : PySem.W.SharedT) : ob s = hk.obs s.abs := obsXU_eq s
theorem run1 (w : World) : Look1 R 12000 w := by
  intro os
  kernel_rfl
theorem run2 (w : World) : Look2 R qv 12000 names w := by
  intro os
  kernel_rfl
theorem run3 (w : World) : Look3 R hk ob 12000 w := by
  intro os
  kernel_rfl
theorem run (w : World) : HandSHeadRun.RunEq R qv hk ob 12000 names w := runEq_of (run1 w) (run2 w) (run3 w)

end L3.K34
open PySem PySem.W PySem.Calls PyProof.Rows
theorem PySem.Challenge.cw_copyarms_k34_pictures_holds : PySem.Challenge.rw_copyarms_k34_pictures.Holds := by
  w_on; o_law
  refine HandSHeadRun.head_any (r := OpenLaw.row PySem.Challenge.rw_copyarms_k34_pictures) (q := L3.K34.qv) (H := L3.K34.hk) (ob := L3.K34.ob) (M := 12000) (loose := L3.K34.names) (d := HandSHeadRun.topDef (OpenLaw.row PySem.Challenge.rw_copyarms_k34_pictures).prog 71) (kwd := []) L3.K34.ob_eq
    (by kernel_rfl) (fun s => by kernel_rfl) L3.K34.run (by kernel_rfl) (by kernel_rfl) (by kernel_rfl) (by rfl) (by first | assumption | decide +kernel) (by decide +kernel) ⟨rfl, rfl, rfl, rfl, rfl, by decide +kernel⟩ ?hw ?hc
  case hw => w_witness2
  case hc =>
    refine L3.walk_ofTE (l := PySem.Challenge.rw_copyarms_k34_pictures) (n := 63) (k := 10) (x := "_law_script") (CX := L2.CX0) rfl (by decide) (by kernel_rfl) ⟨rfl, by decide, by decide⟩ ?F (fun _ _ _ _ z => z)
    intro w mg fa h Y G hmg0
    obtain ⟨K, KX, c, h1, h2, h3⟩ := Y
    obtain ⟨fd, hg, hb, hF⟩ := L3.K34.all (P := (PySem.Challenge.rw_copyarms_k34_pictures).prog) (w := w) KX G c (by kernel_rfl) (by kernel_rfl)
    have hmg : mg ("law" : PySem.Str) = some (.ref fa) := by
      have e : (HandSHeadRun.topDef (OpenLaw.row PySem.Challenge.rw_copyarms_k34_pictures).prog 71).name = ("law" : PySem.Str) := by kernel_rfl
      rw [← e]
      exact hmg0
    have e := hmg.symm.trans hg
    cases e
    exact ⟨K, fd, L3.lawC K, L3.lawP K, L3.spLawT K (L3.lawP K), KX, h3, h2, codeHd_of_K KX h1, hb, fun H a ns hl ht hS => ⟨a, ns, rfl, hS, hl, ht, fun _ => rfl⟩, fun base _ _ TB => hF base TB⟩
