import PyProof.Rows.All
import Wide.All
import OpenK.AllK
import Wide.FinOn
import HandS.ForMost
import HandS.Star
import HandS.Defaults
import HandS.MakeKwOnly
import HandS.Property
import HandS.IsInst
import HandS.Wide
import HandS.Zip
import HandS.OwnEq
import HandS.TupAny
import HandS.TryOnly
import HandS.Style
import HandS.Head0
import HandS.Head1
import HandS.Head2
import HandS.HeadEnd
import HandS.HeadHook1
import HandS.HeadHook2
import KE.GoesEnum
import PySem.Challenge.RW_copyarms_k19_zones_of_arms
/-! ## L3a -/
set_option Elab.async false
set_option linter.all false
set_option maxRecDepth 100000
set_option maxHeartbeats 4000000
/-! A layer of values over the layer of addresses: D, what a value holds; MH, the objects that may change; every reading is a function of these alone. -/
namespace L3
open PySem PySem.Spec PyProof.Rows L2

/-! ### data -/
inductive D where
  | non | bl (b : Bool) | int (i : Int) | str (x : Str)
  | tup (ds : List D) | lst (ds : List D) | scr (ds : List D)
  | ins (C : Addr) (fs : List (Str × D)) | ref (a : Addr) | ty (n : String)

/-- a changeable object: a list, an instance -/
inductive MO where
  | lst (ds : List D)
  | ins (C : Addr) (fs : List (Str × D))

abbrev MH := Addr → Option MO
def updM (μ : MH) (a : Addr) (m : MO) : MH := fun b => if b = a then some m else μ b
def delM (μ : MH) (a : Addr) : MH := fun b => if b = a then none else μ b
theorem updM_same {μ : MH} {a : Addr} {m : MO} : updM μ a m a = some m := by unfold updM; rw [if_pos rfl]
theorem updM_ne {μ : MH} {a b : Addr} {m : MO} (h : b ≠ a) : updM μ a m b = μ b := by unfold updM; rw [if_neg h]
theorem updM_updM {μ : MH} {a : Addr} {m n : MO} : updM (updM μ a m) a n = updM μ a n := by
  funext b; unfold updM; split <;> rfl
theorem delM_same {μ : MH} {a : Addr} : delM μ a a = none := by unfold delM; rw [if_pos rfl]
theorem delM_ne {μ : MH} {a b : Addr} (h : b ≠ a) : delM μ a b = μ b := by unfold delM; rw [if_neg h]
theorem delM_updM {μ : MH} {a : Addr} {m : MO} (h : μ a = none) : delM (updM μ a m) a = μ := by
  funext b; unfold delM updM
  by_cases e : b = a
  · rw [if_pos e, e, h]
  · rw [if_neg e, if_neg e]

mutual
/-- the value v holds the data d, by the objects of S that never change -/
inductive Rep (K : PySem.W.Frag) (S : Hp) : V → D → Prop
  | non : Rep K S .non .non
  | bl (b : Bool) : Rep K S (.bl b) (.bl b)
  | int (i : Int) : Rep K S (.int i) (.int i)
  | str (x : Str) : Rep K S (.str x) (.str x)
  | tup {a : Addr} {vs : List V} {ds : List D} : SqT K S a vs → Reps K S vs ds → Rep K S (.ref a) (.tup ds)
  | lst {a : Addr} {vs : List V} {ds : List D} : S a = some (.lst vs) → Reps K S vs ds → Rep K S (.ref a) (.lst ds)
  | scr {a : Addr} {vs : List V} {ds : List D} : SqL K S a vs → Reps K S vs ds → Rep K S (.ref a) (.scr ds)
  | ins {a C dx : Addr} {vfs : List (Str × V)} {fs : List (Str × D)} : S a = some (.ins C dx vfs) → RepF K S vfs fs → Rep K S (.ref a) (.ins C fs)
  | ref (a : Addr) : Rep K S (.ref a) (.ref a)
  | ty (n : String) : Rep K S (.ty n) (.ty n)
inductive Reps (K : PySem.W.Frag) (S : Hp) : List V → List D → Prop
  | nil : Reps K S [] []
  | cons {v : V} {vs : List V} {d : D} {ds : List D} : Rep K S v d → Reps K S vs ds → Reps K S (v :: vs) (d :: ds)
inductive RepF (K : PySem.W.Frag) (S : Hp) : List (Str × V) → List (Str × D) → Prop
  | nil : RepF K S [] []
  | cons {f : Str} {v : V} {vs : List (Str × V)} {d : D} {ds : List (Str × D)} : Rep K S v d → RepF K S vs ds → RepF K S ((f, v) :: vs) ((f, d) :: ds)
end

section
variable {K : PySem.W.Frag} {S S' H H' : Hp}
theorem sqT_same {a : Addr} {xs : List V} (e : Same S S') (h : SqT K S a xs) : SqT K S' a xs := by
  rcases h with (h | ⟨o, h⟩) | h
  · exact .inl (.inl (e _ _ h))
  · exact .inl (.inr ⟨o, e _ _ h⟩)
  · exact .inr h
theorem sqL_same {a : Addr} {xs : List V} (e : Same S S') (h : SqL K S a xs) : SqL K S' a xs := e.seq h
mutual
theorem Rep.mono (e : Same S S') : ∀ {v : V} {d : D}, Rep K S v d → Rep K S' v d
  | _, _, .non => .non
  | _, _, .bl b => .bl b
  | _, _, .int i => .int i
  | _, _, .str x => .str x
  | _, _, .tup h r => .tup (sqT_same e h) (Reps.mono e r)
  | _, _, .lst h r => .lst (e _ _ h) (Reps.mono e r)
  | _, _, .scr h r => .scr (sqL_same e h) (Reps.mono e r)
  | _, _, .ins h r => .ins (e _ _ h) (RepF.mono e r)
  | _, _, .ref a => .ref a
  | _, _, .ty n => .ty n
theorem Reps.mono (e : Same S S') : ∀ {vs : List V} {ds : List D}, Reps K S vs ds → Reps K S' vs ds
  | _, _, .nil => .nil
  | _, _, .cons h r => .cons (Rep.mono e h) (Reps.mono e r)
theorem RepF.mono (e : Same S S') : ∀ {vs : List (Str × V)} {ds : List (Str × D)}, RepF K S vs ds → RepF K S' vs ds
  | _, _, .nil => .nil
  | _, _, .cons h r => .cons (Rep.mono e h) (RepF.mono e r)
end
theorem Reps.length : ∀ {vs : List V} {ds : List D}, Reps K S vs ds → vs.length = ds.length
  | _, _, .nil => rfl
  | _, _, .cons _ r => congrArg Nat.succ (Reps.length r)
theorem Reps.append : ∀ {vs ws : List V} {ds es : List D}, Reps K S vs ds → Reps K S ws es → Reps K S (vs ++ ws) (ds ++ es)
  | _, _, _, _, .nil, h => h
  | _, _, _, _, .cons h r, h2 => .cons h (Reps.append r h2)
theorem Reps.get : ∀ {vs : List V} {ds : List D} {i : Nat} {d : D}, Reps K S vs ds → ds[i]? = some d → ∃ v, vs[i]? = some v ∧ Rep K S v d
  | _, _, _, _, .nil, e => by simp at e
  | _, _, 0, _, .cons h r, e => by
    simp at e; subst e; exact ⟨_, rfl, h⟩
  | _, _, i + 1, d, .cons h r, e => by
    obtain ⟨v, h1, h2⟩ := Reps.get (i := i) (d := d) r (by simpa using e)
    exact ⟨v, by simpa using h1, h2⟩
theorem Reps.getV : ∀ {vs : List V} {ds : List D} {i : Nat} {v : V}, Reps K S vs ds → vs[i]? = some v → ∃ d, ds[i]? = some d ∧ Rep K S v d
  | _, _, _, _, .nil, e => by simp at e
  | _, _, 0, _, .cons h r, e => by
    simp at e; subst e; exact ⟨_, rfl, h⟩
  | _, _, i + 1, d, .cons h r, e => by
    obtain ⟨v, h1, h2⟩ := Reps.getV (i := i) r (by simpa using e)
    exact ⟨v, by simpa using h1, h2⟩
theorem Reps.set {v : V} {d : D} (h : Rep K S v d) : ∀ {vs : List V} {ds : List D} (i : Nat), Reps K S vs ds → Reps K S (vs.set i v) (ds.set i d)
  | _, _, _, .nil => .nil
  | _, _, 0, .cons _ r => .cons h r
  | _, _, i + 1, .cons q r => .cons q (Reps.set h i r)
theorem Reps.take : ∀ {vs : List V} {ds : List D} (n : Nat), Reps K S vs ds → Reps K S (vs.take n) (ds.take n)
  | _, _, 0, _ => .nil
  | _, _, _ + 1, .nil => .nil
  | _, _, n + 1, .cons r t => .cons r (Reps.take n t)
theorem Reps.drop : ∀ {vs : List V} {ds : List D} (n : Nat), Reps K S vs ds → Reps K S (vs.drop n) (ds.drop n)
  | _, _, 0, r => r
  | _, _, _ + 1, .nil => .nil
  | _, _, n + 1, .cons _ t => Reps.drop n t
theorem Reps.eraseIdx : ∀ {vs : List V} {ds : List D} (n : Nat), Reps K S vs ds → Reps K S (vs.eraseIdx n) (ds.eraseIdx n)
  | _, _, _, .nil => .nil
  | _, _, 0, .cons _ t => t
  | _, _, n + 1, .cons r t => .cons r (Reps.eraseIdx n t)
theorem Reps.split : ∀ {vs ws : List V} {ds : List D}, Reps K S (vs ++ ws) ds → ∃ d1 d2, ds = d1 ++ d2 ∧ Reps K S vs d1 ∧ Reps K S ws d2
  | [], _, ds, h => ⟨[], ds, rfl, .nil, h⟩
  | v :: vs, ws, _, .cons h r => by
    obtain ⟨d1, d2, e, h1, h2⟩ := Reps.split r
    exact ⟨_ :: d1, d2, by rw [e]; rfl, .cons h h1, h2⟩
theorem RepF.lookup : ∀ {vs : List (Str × V)} {ds : List (Str × D)} {f : Str} {d : D}, RepF K S vs ds → ds.lookup f = some d → ∃ v, vs.lookup f = some v ∧ Rep K S v d
  | _, _, _, _, .nil, e => by cases e
  | _, _, f, d, @RepF.cons _ _ g v vs d' ds h r, e => by
    rw [List.lookup_cons] at e ⊢
    cases q : f == g with
    | true => rw [q] at e; cases e; exact ⟨v, rfl, h⟩
    | false => rw [q] at e; exact RepF.lookup r e
theorem RepF.lookup_none : ∀ {vs : List (Str × V)} {ds : List (Str × D)} {f : Str}, RepF K S vs ds → ds.lookup f = none → vs.lookup f = none
  | _, _, _, .nil, _ => rfl
  | _, _, f, @RepF.cons _ _ g v vs d' ds h r, e => by
    rw [List.lookup_cons] at e ⊢
    cases q : f == g with
    | true => rw [q] at e; cases e
    | false => rw [q] at e; exact RepF.lookup_none r e
theorem RepF.length : ∀ {vs : List (Str × V)} {ds : List (Str × D)}, RepF K S vs ds → vs.length = ds.length
  | _, _, .nil => rfl
  | _, _, .cons _ r => congrArg Nat.succ (RepF.length r)
def putD (f : Str) (d : D) : List (Str × D) → List (Str × D)
  | [] => [(f, d)]
  | (g, e) :: r => if g = f then (g, d) :: r else (g, e) :: putD f d r
theorem RepF.put {v : V} {d : D} (h : Rep K S v d) (f : Str) : ∀ {vs : List (Str × V)} {ds : List (Str × D)}, RepF K S vs ds → RepF K S (putF f v vs) (putD f d ds)
  | _, _, .nil => .cons h .nil
  | _, _, @RepF.cons _ _ g v' vs d' ds h' r => by
    unfold putF putD
    by_cases e : g = f
    · rw [if_pos e, if_pos e]; exact .cons h r
    · rw [if_neg e, if_neg e]; exact .cons h' (RepF.put h f r)
end

/-! ### states -/
def MRep (K : PySem.W.Frag) (S H : Hp) (a : Addr) : MO → Prop
  | .lst ds => ∃ vs, H a = some (.lst vs) ∧ Reps K S vs ds
  | .ins C fs => ∃ dx vfs, H a = some (.ins C dx vfs) ∧ RepF K S vfs fs
structure OK (K : PySem.W.Frag) (S : Hp) (μ : MH) (H : Hp) : Prop where
  sub : Same S H
  mts : ∀ a m, μ a = some m → S a = none ∧ MRep K S H a m
/-- from (S, μ, H) to (S', μ', H'): what is not tracked by S or μ is kept -/
structure Stp (S : Hp) (μ : MH) (H : Hp) (S' : Hp) (μ' : MH) (H' : Hp) : Prop where
  same : Same S S'
  news : ∀ b o, S' b = some o → S b = some o ∨ H b = none ∨ ∃ m, μ b = some m
  keep : ∀ b o, H b = some o → μ b = none → H' b = some o
  mus : ∀ b m, μ' b = some m → H b = none ∨ ∃ m, μ b = some m

section
variable {K : PySem.W.Frag} {S S' S1 S2 H H' H1 H2 : Hp} {μ μ' μ1 μ2 : MH}
theorem Stp.refl : Stp S μ H S μ H := ⟨fun _ _ h => h, fun _ _ h => .inl h, fun _ _ h _ => h, fun _ m h => .inr ⟨m, h⟩⟩
theorem Stp.trans (a : Stp S μ H S1 μ1 H1) (b : Stp S1 μ1 H1 S2 μ2 H2) : Stp S μ H S2 μ2 H2 := by
  have nn : ∀ c o, H c = some o → μ c = none → μ1 c = none := fun c o h1 h2 => by
    cases q : μ1 c with
    | none => rfl
    | some m =>
      rcases a.mus c m q with z | ⟨m', z⟩
      · rw [h1] at z; cases z
      · rw [h2] at z; cases z
  have dec : ∀ c, H c = none ∨ (∃ m, μ c = some m) ∨ ((∃ o, H c = some o) ∧ μ c = none) := fun c => by
    cases q : H c with
    | none => exact .inl rfl
    | some o =>
      cases q2 : μ c with
      | none => exact .inr (.inr ⟨⟨o, rfl⟩, rfl⟩)
      | some m => exact .inr (.inl ⟨m, rfl⟩)
  refine ⟨a.same.trans b.same, fun c o h => ?_, fun c o h1 h2 => b.keep c o (a.keep c o h1 h2) (nn c o h1 h2), fun c m h => ?_⟩
  · rcases b.news c o h with z | z | ⟨m, z⟩
    · exact a.news c o z
    · rcases dec c with w | w | ⟨⟨o', w⟩, w'⟩
      · exact .inr (.inl w)
      · exact .inr (.inr w)
      · rw [a.keep c o' w w'] at z; cases z
    · rcases a.mus c m z with w | w
      · exact .inr (.inl w)
      · exact .inr (.inr w)
  · rcases b.mus c m h with z | ⟨m', z⟩
    · rcases dec c with w | w | ⟨⟨o', w⟩, w'⟩
      · exact .inl w
      · exact .inr w
      · rw [a.keep c o' w w'] at z; cases z
    · exact a.mus c m' z
theorem OK.free {p : Addr} (k : OK K S μ H) (h : H p = none) : S p = none ∧ μ p = none := by
  refine ⟨k.sub.free h, ?_⟩
  cases q : μ p with
  | none => rfl
  | some m =>
    have z := (k.mts p m q).2
    cases m with
    | lst ds => obtain ⟨vs, e, _⟩ := z; rw [h] at e; cases e
    | ins C fs => obtain ⟨dx, vfs, e, _⟩ := z; rw [h] at e; cases e
theorem MRep.mono {a : Addr} {m : MO} (e : Same S S') (h : H a = H' a) (r : MRep K S H a m) : MRep K S' H' a m := by
  cases m with
  | lst ds => obtain ⟨vs, e1, r⟩ := r; exact ⟨vs, h ▸ e1, r.mono e⟩
  | ins C fs => obtain ⟨dx, vfs, e1, r⟩ := r; exact ⟨dx, vfs, h ▸ e1, r.mono e⟩
theorem same_updn {p : Addr} {o : HO} (h : S p = none) : Same S (upd S p o) := fun b x e => by
  rw [upd_ne (ne_of_none e h)]; exact e
/-- a new object that never changes -/
theorem OK.alloc {p : Addr} {o : HO} (k : OK K S μ H) (h : H p = none) : OK K (upd S p o) μ (upd H p o) ∧ Stp S μ H (upd S p o) μ (upd H p o) := by
  obtain ⟨hS, hM⟩ := k.free h
  refine ⟨⟨fun b x e => ?_, fun a m e => ?_⟩, ⟨same_updn hS, fun b x e => ?_, fun b x e _ => ?_, fun b m e => .inr ⟨m, e⟩⟩⟩
  · by_cases q : b = p
    · subst q; rw [upd_same] at e ⊢; exact e
    · rw [upd_ne q] at e ⊢; exact k.sub b x e
  · have q : a ≠ p := fun z => by rw [z, hM] at e; cases e
    obtain ⟨z1, z2⟩ := k.mts a m e
    exact ⟨by rw [upd_ne q]; exact z1, z2.mono (same_updn hS) (upd_ne q).symm⟩
  · by_cases q : b = p
    · exact .inr (.inl (q ▸ h))
    · rw [upd_ne q] at e; exact .inl e
  · rw [upd_ne (ne_of_none e h)]; exact e
/-- a new object that is not looked at -/
theorem OK.hide {p : Addr} {o : HO} (k : OK K S μ H) (h : H p = none) : OK K S μ (upd H p o) := by
  obtain ⟨hS, hM⟩ := k.free h
  refine ⟨fun b x e => ?_, fun a m e => ?_⟩
  · rw [upd_ne (ne_of_none e hS)]; exact k.sub b x e
  · have q : a ≠ p := fun z => by rw [z, hM] at e; cases e
    obtain ⟨z1, z2⟩ := k.mts a m e
    exact ⟨z1, z2.mono (fun _ _ z => z) (upd_ne q).symm⟩
/-- what is neither in S nor in μ may be anything -/
theorem OK.aside {p : Addr} {o : HO} (k : OK K S μ H) (hS : S p = none) (hM : μ p = none) : OK K S μ (upd H p o) := by
  refine ⟨fun b x e => ?_, fun a m e => ?_⟩
  · rw [upd_ne (ne_of_none e hS)]; exact k.sub b x e
  · have q : a ≠ p := fun z => by rw [z, hM] at e; cases e
    obtain ⟨z1, z2⟩ := k.mts a m e
    exact ⟨z1, z2.mono (fun _ _ z => z) (upd_ne q).symm⟩
/-- a changeable object enters, or is changed -/
theorem OK.put {p : Addr} {m : MO} {o : HO} (k : OK K S μ H) (hS : S p = none) (r : MRep K S (upd H p o) p m) : OK K S (updM μ p m) (upd H p o) := by
  refine ⟨fun b x e => ?_, fun a m' e => ?_⟩
  · rw [upd_ne (ne_of_none e hS)]; exact k.sub b x e
  · by_cases q : a = p
    · subst q; rw [updM_same] at e; cases e; exact ⟨hS, r⟩
    · rw [updM_ne q] at e
      obtain ⟨z1, z2⟩ := k.mts a m' e
      exact ⟨z1, z2.mono (fun _ _ z => z) (upd_ne q).symm⟩
theorem OK.put' {p : Addr} {m : MO} (k : OK K S μ H) (hS : S p = none) (r : MRep K S H p m) : OK K S (updM μ p m) H := by
  refine ⟨k.sub, fun a m' e => ?_⟩
  by_cases q : a = p
  · subst q; rw [updM_same] at e; cases e; exact ⟨hS, r⟩
  · rw [updM_ne q] at e; exact k.mts a m' e
/-- what is neither in S nor in μ becomes data -/
theorem OK.take {p : Addr} {o : HO} (k : OK K S μ H) (h : H p = some o) (hS : S p = none) (hM : μ p = none) : OK K (upd S p o) μ H := by
  refine ⟨fun b x e => ?_, fun a m e => ?_⟩
  · by_cases q : b = p
    · subst q; rw [upd_same] at e; cases e; exact h
    · rw [upd_ne q] at e; exact k.sub b x e
  · have q : a ≠ p := fun z => by rw [z, hM] at e; cases e
    obtain ⟨z1, z2⟩ := k.mts a m e
    exact ⟨by rw [upd_ne q]; exact z1, z2.mono (same_updn hS) rfl⟩
/-- a changeable object becomes data -/
theorem OK.freeze {p : Addr} {m : MO} {o : HO} (k : OK K S μ H) (e : μ p = some m) (h : H p = some o) : OK K (upd S p o) (delM μ p) H ∧ Stp S μ H (upd S p o) (delM μ p) H := by
  obtain ⟨hS, _⟩ := k.mts p m e
  have k2 : OK K S (delM μ p) H := ⟨k.sub, fun a m' e' => by
    by_cases q : a = p
    · subst q; rw [delM_same] at e'; cases e'
    · rw [delM_ne q] at e'; exact k.mts a m' e'⟩
  refine ⟨k2.take h hS delM_same, same_updn hS, fun b x e' => ?_, fun b x e' _ => e', fun b m' e' => ?_⟩
  · by_cases q : b = p
    · exact .inr (.inr ⟨m, q ▸ e⟩)
    · rw [upd_ne q] at e'; exact .inl e'
  · by_cases q : b = p
    · subst q; rw [delM_same] at e'; cases e'
    · rw [delM_ne q] at e'; exact .inr ⟨m', e'⟩
end

/-! ### environments -/
abbrev EV := List (Option D)
def gt : EV → Nat → Option D
  | [], _ => none
  | x :: _, 0 => x
  | _ :: r, n + 1 => gt r n
def st : EV → Nat → D → EV
  | [], _, _ => []
  | _ :: r, 0, d => some d :: r
  | x :: r, n + 1, d => x :: st r n d
def rm : EV → Nat → EV
  | [], _ => []
  | _ :: r, 0 => none :: r
  | x :: r, n + 1 => x :: rm r n
inductive RepE (K : PySem.W.Frag) (S : Hp) : L2.St → EV → Prop
  | nil : RepE K S [] []
  | no {o : Option V} {σ : L2.St} {ρ : EV} : RepE K S σ ρ → RepE K S (o :: σ) (none :: ρ)
  | so {v : V} {d : D} {σ : L2.St} {ρ : EV} : Rep K S v d → RepE K S σ ρ → RepE K S (some v :: σ) (some d :: ρ)
section
variable {K : PySem.W.Frag} {S S' : Hp}
theorem RepE.mono (e : Same S S') : ∀ {σ : L2.St} {ρ : EV}, RepE K S σ ρ → RepE K S' σ ρ
  | _, _, .nil => .nil
  | _, _, .no r => .no (RepE.mono e r)
  | _, _, .so h r => .so (h.mono e) (RepE.mono e r)
theorem RepE.get : ∀ {σ : L2.St} {ρ : EV} {i : Nat} {d : D}, RepE K S σ ρ → gt ρ i = some d → ∃ v, σ[i]? = some (some v) ∧ Rep K S v d
  | _, _, _, _, .nil, e => by cases e
  | _, _, 0, _, .no r, e => by cases e
  | _, _, i + 1, _, .no r, e => by
    obtain ⟨v, h1, h2⟩ := RepE.get r e
    exact ⟨v, by simpa using h1, h2⟩
  | _, _, 0, _, .so h r, e => by cases e; exact ⟨_, rfl, h⟩
  | _, _, i + 1, _, .so h r, e => by
    obtain ⟨v, h1, h2⟩ := RepE.get r e
    exact ⟨v, by simpa using h1, h2⟩
theorem RepE.set {v : V} {d : D} (h : Rep K S v d) : ∀ {σ : L2.St} {ρ : EV} (i : Nat), RepE K S σ ρ → RepE K S (σ.set i (some v)) (st ρ i d)
  | _, _, _, .nil => .nil
  | _, _, 0, .no r => .so h r
  | _, _, i + 1, .no r => .no (RepE.set h i r)
  | _, _, 0, .so _ r => .so h r
  | _, _, i + 1, .so q r => .so q (RepE.set h i r)
theorem RepE.rm : ∀ {σ : L2.St} {ρ : EV} (i : Nat), RepE K S σ ρ → RepE K S (σ.set i none) (rm ρ i)
  | _, _, _, .nil => .nil
  | _, _, 0, .no r => .no r
  | _, _, i + 1, .no r => .no (RepE.rm i r)
  | _, _, 0, .so _ r => .no r
  | _, _, i + 1, .so q r => .so q (RepE.rm i r)
def rms (ρ : EV) : List Nat → EV
  | [] => ρ
  | v :: vs => L3.rm (rms ρ vs) v
theorem RepE.wipe {σ : L2.St} {ρ : EV} (h : RepE K S σ ρ) : ∀ (vs : List Nat), RepE K S (wipe σ vs) (rms ρ vs)
  | [] => h
  | v :: vs => RepE.rm v (RepE.wipe h vs)
def startD (n : Nat) (ds : List D) : EV := ds.map some ++ List.replicate (n - ds.length) none
theorem repE_blank : ∀ n : Nat, RepE K S (List.replicate n none) (List.replicate n none)
  | 0 => .nil
  | n + 1 => .no (repE_blank n)
theorem repE_vals : ∀ {vs : List V} {ds : List D} {σ : L2.St} {ρ : EV}, Reps K S vs ds → RepE K S σ ρ → RepE K S (vs.map some ++ σ) (ds.map some ++ ρ)
  | _, _, _, _, .nil, h => h
  | _, _, _, _, .cons h r, h2 => .so h (repE_vals r h2)
theorem repE_start {N : List Str} {vs : List V} {ds : List D} (h : Reps K S vs ds) : RepE K S (L2.start N vs) (startD N.length ds) := by
  unfold L2.start startD
  rw [h.length]
  exact repE_vals h (repE_blank _)
end

/-! ### readings -/
abbrev RX := EV → MH → (D → MH → Prop) → Prop
abbrev RT := EV → MH → (Bool → MH → Prop) → Prop
abbrev RA := EV → MH → (List D → MH → Prop) → Prop
structure Ed where
  nx : EV → MH → Prop
  rt : D → MH → Prop
  bk : EV → MH → Prop := fun _ _ => False
  ct : EV → MH → Prop := fun _ _ => False
abbrev RS := Ed → EV → MH → Prop
def up (K : PySem.W.Frag) (f : RX) : TE := fun σ H Q => ∃ S μ ρ R, OK K S μ H ∧ RepE K S σ ρ ∧ f ρ μ R ∧
  ∀ S' μ' H' v d, OK K S' μ' H' → Stp S μ H S' μ' H' → Rep K S' v d → R d μ' → Q v H'
def upT (K : PySem.W.Frag) (f : RT) : TT := fun σ H Q => ∃ S μ ρ R, OK K S μ H ∧ RepE K S σ ρ ∧ f ρ μ R ∧
  ∀ S' μ' H' b, OK K S' μ' H' → Stp S μ H S' μ' H' → R b μ' → Q b H'
def upA (K : PySem.W.Frag) (f : RA) : TA := fun σ H Q => ∃ S μ ρ R, OK K S μ H ∧ RepE K S σ ρ ∧ f ρ μ R ∧
  ∀ S' μ' H' vs ds, OK K S' μ' H' → Stp S μ H S' μ' H' → Reps K S' vs ds → R ds μ' → Q vs H'
structure Lk (K : PySem.W.Frag) (S : Hp) (μ : MH) (H : Hp) (D : Ends) (DD : Ed) : Prop where
  nx : ∀ S' μ' H' σ' ρ', OK K S' μ' H' → Stp S μ H S' μ' H' → RepE K S' σ' ρ' → DD.nx ρ' μ' → D.nx σ' H'
  rt : ∀ S' μ' H' v d, OK K S' μ' H' → Stp S μ H S' μ' H' → Rep K S' v d → DD.rt d μ' → D.rt v H'
  bk : ∀ S' μ' H' σ' ρ', OK K S' μ' H' → Stp S μ H S' μ' H' → RepE K S' σ' ρ' → DD.bk ρ' μ' → D.bk σ' H'
  ct : ∀ S' μ' H' σ' ρ', OK K S' μ' H' → Stp S μ H S' μ' H' → RepE K S' σ' ρ' → DD.ct ρ' μ' → D.ct σ' H'
theorem Lk.stp {K : PySem.W.Frag} {S S' H H' : Hp} {μ μ' : MH} {D : Ends} {DD : Ed} (l : Lk K S μ H D DD) (s : Stp S μ H S' μ' H') : Lk K S' μ' H' D DD :=
  ⟨fun _ _ _ _ _ k s2 => l.nx _ _ _ _ _ k (s.trans s2), fun _ _ _ _ _ k s2 => l.rt _ _ _ _ _ k (s.trans s2), fun _ _ _ _ _ k s2 => l.bk _ _ _ _ _ k (s.trans s2), fun _ _ _ _ _ k s2 => l.ct _ _ _ _ _ k (s.trans s2)⟩
def upS (K : PySem.W.Frag) (f : RS) : TS := fun D σ H => ∃ S μ ρ DD, OK K S μ H ∧ RepE K S σ ρ ∧ f DD ρ μ ∧ Lk K S μ H D DD
abbrev DE (X : Cx) (e : Expr) (f : RX) : Prop := PE X e (up X.K f)
abbrev DT (X : Cx) (e : Expr) (f : RT) : Prop := PT X e (upT X.K f)
abbrev DW (X : Cx) (e : Expr) (f : RT) : Prop := PW X e (upT X.K f)
abbrev DA (X : Cx) (es : List Expr) (f : RA) : Prop := PA X es (upA X.K f)
abbrev DS (X : Cx) (s : Stmt) (f : RS) : Prop := PS X s (upS X.K f)
abbrev DSs (X : Cx) (s : List Stmt) (f : RS) : Prop := PSs X s (upS X.K f)
section
variable {X : Cx}
theorem pe_imp {e : Expr} {t u : TE} (h : PE X e t) (i : ∀ σ H Q, u σ H Q → t σ H Q) : PE X e u := ⟨fun pins s σ H Q I q => h.run pins s σ H Q I (i σ H Q q)⟩
theorem pt_imp {e : Expr} {t u : TT} (h : PT X e t) (i : ∀ σ H Q, u σ H Q → t σ H Q) : PT X e u := ⟨fun pins s σ H Q I q => h.run pins s σ H Q I (i σ H Q q)⟩
theorem pw_imp {e : Expr} {t u : TT} (h : PW X e t) (i : ∀ σ H Q, u σ H Q → t σ H Q) : PW X e u := ⟨fun w pins s σ H Q I q => h.run w pins s σ H Q I (i σ H Q q)⟩
theorem pa_imp {es : List Expr} {t u : TA} (h : PA X es t) (i : ∀ σ H Q, u σ H Q → t σ H Q) : PA X es u := ⟨fun pos pins s σ H Q I q => h.run pos pins s σ H Q I (i σ H Q q)⟩
theorem ps_imp {st : Stmt} {t u : TS} (h : PS X st t) (i : ∀ D σ H, u D σ H → t D σ H) : PS X st u := ⟨fun pins s σ H D I q => h.run pins s σ H D I (i D σ H q)⟩
theorem pss_imp {st : List Stmt} {t u : TS} (h : PSs X st t) (i : ∀ D σ H, u D σ H → t D σ H) : PSs X st u := ⟨fun pins s σ H D I q => h.run pins s σ H D I (i D σ H q)⟩
end
end L3

/-! ## L3b -/
set_option Elab.async false
set_option linter.all false
set_option maxRecDepth 100000
set_option maxHeartbeats 4000000
namespace L3
open PySem PySem.Spec PyProof.Rows L2

/-! ### sizes -/
/-- below 2 ^ n in size -/
def Bt (n : Nat) (i : Int) : Prop := i.natAbs < 2 ^ n
abbrev big : Nat := 8000
theorem Bt.log2 {n : Nat} {i : Int} (h : Bt n i) (h0 : 0 < n) : i.natAbs.log2 < n := PySem.Flt.log2_lt_of h0 h
def CBig (i j : Int) : Prop := Bt big i ∧ Bt big j
def CDivX (_ j : Int) : Prop := j ≠ 0 ∧ Bt big j
theorem op_mulX {X : Cx} : OpR X (binaryOp .Mult) (rI CBig fun i j => .int (i * j)) := opI fun i j _ _ _ _ _ hc q => mul_int q (CMulW.ok (by
  have h1 := hc.1.log2 (by decide)
  have h2 := hc.2.log2 (by decide)
  have h3 : big = 8000 := rfl
  unfold CMulW
  omega))
theorem op_fdivX {X : Cx} : OpR X (binaryOp .FloorDiv) (rI CDivX fun i j => .int (i.fdiv j)) := opI fun i j _ _ _ _ _ hc q => floordiv_int hc.1 q (.inl (PyProof.noPylong_of_log2 (Nat.lt_trans (hc.2.log2 (by decide)) (by decide))))

/-! ### what is seen through a changeable list -/
def res (μ : MH) : D → D
  | .ref p => match μ p with
    | some (.lst ds) => .lst ds
    | _ => .ref p
  | d => d
section
variable {K : PySem.W.Frag} {S H : Hp} {μ : MH}
/-- the data d as the value v has it now, in H -/
theorem res_lst {v : V} {d : D} {ds : List D} (k : OK K S μ H) (r : Rep K S v d) (e : res μ d = .lst ds) : ∃ p vs, v = .ref p ∧ H p = some (.lst vs) ∧ Reps K S vs ds := by
  cases r with
  | ref p =>
    unfold res at e
    dsimp only at e
    cases q : μ p with
    | none => rw [q] at e; cases e
    | some m =>
      rw [q] at e
      cases m with
      | lst es =>
        cases e
        obtain ⟨_, vs, h, r⟩ := k.mts p _ q
        exact ⟨p, vs, rfl, h, r⟩
      | ins C fs => cases e
  | lst h r => cases e; exact ⟨_, _, rfl, k.sub _ _ h, r⟩
  | _ => cases e
theorem res_tup {v : V} {d : D} {ds : List D} (r : Rep K S v d) (e : res μ d = .tup ds) : d = .tup ds := by
  cases r with
  | ref p =>
    unfold res at e
    dsimp only at e
    cases q : μ p with
    | none => rw [q] at e; cases e
    | some m =>
      rw [q] at e
      cases m <;> cases e
  | _ => exact e
theorem Rep.toTup {v : V} {ds : List D} (r : Rep K S v (.tup ds)) : ∃ p vs, v = .ref p ∧ SqT K S p vs ∧ Reps K S vs ds := by
  cases r with
  | tup h r => exact ⟨_, _, rfl, h, r⟩
theorem Rep.toInt {v : V} {i : Int} (r : Rep K S v (.int i)) : v = .int i := by cases r; rfl
theorem Rep.toBl {v : V} {i : Bool} (r : Rep K S v (.bl i)) : v = .bl i := by cases r; rfl
theorem Rep.toStr {v : V} {i : Str} (r : Rep K S v (.str i)) : v = .str i := by cases r; rfl
theorem Rep.toNon {v : V} (r : Rep K S v .non) : v = .non := by cases r; rfl
theorem Rep.toRef {v : V} {a : Addr} (r : Rep K S v (.ref a)) : v = .ref a := by cases r; rfl
theorem Rep.toIns {v : V} {C : Addr} {fs : List (Str × D)} (r : Rep K S v (.ins C fs)) : ∃ a dx vfs, v = .ref a ∧ S a = some (.ins C dx vfs) ∧ RepF K S vfs fs := by
  cases r with
  | ins h r => exact ⟨_, _, _, rfl, h, r⟩
/-- a list or tuple that may be read: its items -/
def seqD : D → Option (List D)
  | .lst ds => some ds
  | .tup ds => some ds
  | _ => none
theorem seq_rep {v : V} {d : D} {ds : List D} (k : OK K S μ H) (r : Rep K S v d) (e : seqD (res μ d) = some ds) : ∃ p vs, v = .ref p ∧ (SqL K H p vs ∨ SqT K H p vs) ∧ Reps K S vs ds := by
  cases q : res μ d with
  | lst es =>
    rw [q] at e; cases e
    obtain ⟨p, vs, h1, h2, h3⟩ := res_lst k r q
    exact ⟨p, vs, h1, .inl (.of h2), h3⟩
  | tup es =>
    rw [q] at e; cases e
    have z := res_tup r q
    subst z
    obtain ⟨p, vs, h1, h2, h3⟩ := r.toTup
    exact ⟨p, vs, h1, .inr (sqT_same k.sub h2), h3⟩
  | _ => rw [q] at e; cases e
end

/-! ### pure data: == -/
mutual
def toPy : D → PyData
  | .bl b => .bool b
  | .int i => .int i
  | .str x => .str x
  | .tup ds => .tuple (toPys ds)
  | .lst ds => .list (toPys ds)
  | _ => .none
def toPys : List D → List PyData
  | [] => []
  | d :: r => toPy d :: toPys r
end
def pureN : Nat → D → Bool
  | _, .non => true
  | _, .bl _ => true
  | _, .int _ => true
  | _, .str x => PyData.strOk x
  | n + 1, .tup ds => ds.all (pureN n)
  | n + 1, .lst ds => ds.all (pureN n)
  | _, _ => false
/-- == of pure data -/
def deq (a b : D) : Bool := PyData.eqv (toPy a) (toPy b)
theorem deq_int (i j : Int) : deq (.int i) (.int j) = (i == j) := rfl
theorem deq_bl (i j : Bool) : deq (.bl i) (.bl j) = (i == j) := rfl
theorem deq_str (i j : Str) : deq (.str i) (.str j) = (i == j) := rfl
theorem deq_non : deq .non .non = true := rfl
theorem deq_tt (a b : D) (as bs : List D) : deq (.tup (a :: as)) (.tup (b :: bs)) = (deq a b && deq (.tup as) (.tup bs)) := rfl
theorem deq_t0 : deq (.tup []) (.tup []) = true := rfl
theorem deq_t1 (a : D) (as : List D) : deq (.tup (a :: as)) (.tup []) = false := rfl
theorem deq_t2 (a : D) (as : List D) : deq (.tup []) (.tup (a :: as)) = false := rfl
theorem deq_ll (a b : D) (as bs : List D) : deq (.lst (a :: as)) (.lst (b :: bs)) = (deq a b && deq (.lst as) (.lst bs)) := rfl
theorem deq_l0 : deq (.lst []) (.lst []) = true := rfl
theorem deq_l1 (a : D) (as : List D) : deq (.lst (a :: as)) (.lst []) = false := rfl
theorem deq_l2 (a : D) (as : List D) : deq (.lst []) (.lst (a :: as)) = false := rfl
theorem deq_nt (as : List D) : deq .non (.tup as) = false := rfl
theorem deq_tn (as : List D) : deq (.tup as) .non = false := rfl
theorem deq_ni (i : Int) : deq .non (.int i) = false := rfl
theorem deq_in (i : Int) : deq (.int i) .non = false := rfl
section
variable {K : PySem.W.Frag} {S H : Hp}
theorem pure_laid : ∀ (n : Nat) (d : D), pureN n d = true → (toPy d).canLay0 = true ∧ (toPy d).depth ≤ n := by
  intro n
  induction n with
  | zero =>
    intro d h
    cases d <;> first | exact ⟨rfl, Nat.le_refl _⟩ | exact ⟨h, Nat.le_refl _⟩ | cases h
  | succ n ih =>
    have all : ∀ ds : List D, ds.all (pureN n) = true → PyData.canLayAll0 (toPys ds) = true ∧ PyData.depthAll (toPys ds) ≤ n := by
      intro ds
      induction ds with
      | nil => intro _; exact ⟨rfl, Nat.zero_le _⟩
      | cons d r ihr =>
        intro h
        rw [List.all_cons, Bool.and_eq_true] at h
        obtain ⟨a1, a2⟩ := ih d h.1
        obtain ⟨b1, b2⟩ := ihr h.2
        refine ⟨?_, ?_⟩
        · show (PyData.canLay0 (toPy d) && PyData.canLayAll0 (toPys r)) = true
          rw [a1, b1]; rfl
        · show max (PyData.depth (toPy d)) (PyData.depthAll (toPys r)) ≤ n
          omega
    intro d h
    cases d with
    | tup ds =>
      obtain ⟨h1, h2⟩ := all ds h
      exact ⟨h1, Nat.succ_le_succ h2⟩
    | lst ds =>
      obtain ⟨h1, h2⟩ := all ds h
      exact ⟨h1, Nat.succ_le_succ h2⟩
    | non => exact ⟨rfl, Nat.zero_le _⟩
    | bl b => exact ⟨rfl, Nat.zero_le _⟩
    | int i => exact ⟨rfl, Nat.zero_le _⟩
    | str x => exact ⟨h, Nat.zero_le _⟩
    | _ => cases h
theorem pure_shaped {n : Nat} {d : D} (h : pureN n d = true) (hn : n ≤ 64) : SeqAt.shaped (toPy d) = true := by
  obtain ⟨h1, h2⟩ := pure_laid n d h
  exact Bool.and_eq_true_iff.mpr ⟨h1, decide_eq_true (Nat.le_trans h2 hn)⟩
mutual
theorem Rep.dp : ∀ {n : Nat} {v : V} {d : D}, Rep K S v d → pureN n d = true → Dp K S v (toPy d)
  | _, _, _, .non, _ => .non
  | _, _, _, .bl b, _ => .bl b
  | _, _, _, .int i, _ => .int i
  | _, _, _, .str x, _ => .str x
  | n + 1, _, _, .tup h r, p => .tup h (Reps.dp (n := n) r p)
  | n + 1, _, _, .lst h r, p => .lst (.of h) (Reps.dp (n := n) r p)
  | 0, _, _, .tup h r, p => by cases p
  | 0, _, _, .lst h r, p => by cases p
  | 0, _, _, .ins h r, p => by cases p
  | n + 1, _, _, .ins h r, p => by cases p
  | 0, _, _, .scr h r, p => by cases p
  | n + 1, _, _, .scr h r, p => by cases p
  | 0, _, _, .ref a, p => by cases p
  | n + 1, _, _, .ref a, p => by cases p
  | 0, _, _, .ty a, p => by cases p
  | n + 1, _, _, .ty a, p => by cases p
theorem Reps.dp : ∀ {n : Nat} {vs : List V} {ds : List D}, Reps K S vs ds → ds.all (pureN n) = true → DpAll K S vs (toPys ds)
  | _, _, _, .nil, _ => .nil
  | n, _, _, .cons h r, p => by
    rw [List.all_cons, Bool.and_eq_true] at p
    exact .cons (Rep.dp h p.1) (Reps.dp r p.2)
end
mutual
theorem Dp.same {S' : Hp} (e : Same S S') : ∀ {v : V} {d : PyData}, Dp K S v d → Dp K S' v d
  | _, _, .non => .non
  | _, _, .bl b => .bl b
  | _, _, .int b => .int b
  | _, _, .str b => .str b
  | _, _, .lst h r => .lst (sqL_same e h) (DpAll.same e r)
  | _, _, .tup h r => .tup (sqT_same e h) (DpAll.same e r)
theorem DpAll.same {S' : Hp} (e : Same S S') : ∀ {v : List V} {d : List PyData}, DpAll K S v d → DpAll K S' v d
  | _, _, .nil => .nil
  | _, _, .cons h r => .cons (Dp.same e h) (DpAll.same e r)
end
theorem res_dp {μ : MH} {n : Nat} {v : V} {d : D} (k : OK K S μ H) (r : Rep K S v d) (p : pureN n (res μ d) = true) : Dp K H v (toPy (res μ d)) := by
  cases q : res μ d with
  | lst ds =>
    obtain ⟨a, vs, rfl, h, r2⟩ := res_lst k r q
    rw [q] at p
    cases n with
    | zero => cases p
    | succ n => exact .lst (.of h) (DpAll.same k.sub (Reps.dp (n := n) r2 p))
  | _ =>
    rw [← q]
    have e : res μ d = d := by
      cases d with
      | ref a =>
        unfold res at q ⊢
        dsimp only at q ⊢
        cases w : μ a with
        | none => rfl
        | some m => rw [w] at q; cases m <;> first | rfl | cases q
      | _ => rfl
    rw [e] at p ⊢
    exact Dp.same k.sub (r.dp p)
end

/-! ### values by values -/
abbrev G2 := D → D → MH → (D → MH → Prop) → Prop
abbrev G1 := D → MH → (D → MH → Prop) → Prop
abbrev GN := List D → MH → (D → MH → Prop) → Prop
abbrev Pst (K : PySem.W.Frag) (S : Hp) (μ : MH) (H : Hp) (R : D → MH → Prop) (Q : VK) : Prop := ∀ S' μ' H' v d, OK K S' μ' H' → Stp S μ H S' μ' H' → Rep K S' v d → R d μ' → Q v H'
def Snd2 (K : PySem.W.Frag) (r : R2) (g : G2) : Prop := ∀ S μ H x y dx dy R Q, OK K S μ H → Rep K S x dx → Rep K S y dy → g dx dy μ R → Pst K S μ H R Q → r x y H Q
def Snd1 (K : PySem.W.Frag) (r : V → Hp → VK → Prop) (g : G1) : Prop := ∀ S μ H x dx R Q, OK K S μ H → Rep K S x dx → g dx μ R → Pst K S μ H R Q → r x H Q
def SndN (K : PySem.W.Frag) (r : List V → Hp → VK → Prop) (g : GN) : Prop := ∀ S μ H xs dxs R Q, OK K S μ H → Reps K S xs dxs → g dxs μ R → Pst K S μ H R Q → r xs H Q
def rOp (g : G2) (fa fb : RX) : RX := fun ρ μ R => fa ρ μ fun x μ1 => fb ρ μ1 fun y μ2 => g x y μ2 R
def rUn (g : G1) (fa : RX) : RX := fun ρ μ R => fa ρ μ fun x μ1 => g x μ1 R
def rCl (g : GN) (fa : RA) : RX := fun ρ μ R => fa ρ μ fun xs μ1 => g xs μ1 R
section
variable {K : PySem.W.Frag}
theorem up_op {r : R2} {g : G2} (s : Snd2 K r g) {fa fb : RX} : ∀ σ H Q, up K (rOp g fa fb) σ H Q → tOp r (up K fa) (up K fb) σ H Q := by
  rintro σ H Q ⟨S, μ, ρ, R, k, e, h, post⟩
  refine ⟨S, μ, ρ, _, k, e, h, fun S1 μ1 H1 v1 d1 k1 s1 r1 h1 => ?_⟩
  refine ⟨S1, μ1, ρ, _, k1, e.mono s1.same, h1, fun S2 μ2 H2 v2 d2 k2 s2 r2 h2 => ?_⟩
  exact s S2 μ2 H2 v1 v2 d1 d2 R Q k2 (r1.mono s2.same) r2 h2 fun S3 μ3 H3 v d k3 s3 r3 h3 => post S3 μ3 H3 v d k3 ((s1.trans s2).trans s3) r3 h3
theorem up_un {r : V → Hp → VK → Prop} {g : G1} (s : Snd1 K r g) {fa : RX} : ∀ σ H Q, up K (rUn g fa) σ H Q → tUn r (up K fa) σ H Q := by
  rintro σ H Q ⟨S, μ, ρ, R, k, e, h, post⟩
  refine ⟨S, μ, ρ, _, k, e, h, fun S1 μ1 H1 v1 d1 k1 s1 r1 h1 => ?_⟩
  exact s S1 μ1 H1 v1 d1 R Q k1 r1 h1 fun S3 μ3 H3 v d k3 s3 r3 h3 => post S3 μ3 H3 v d k3 (s1.trans s3) r3 h3
theorem up_cl {r : List V → Hp → VK → Prop} {g : GN} (s : SndN K r g) {fa : RA} : ∀ σ H Q, up K (rCl g fa) σ H Q → tCB r (upA K fa) σ H Q := by
  rintro σ H Q ⟨S, μ, ρ, R, k, e, h, post⟩
  refine ⟨S, μ, ρ, _, k, e, h, fun S1 μ1 H1 v1 d1 k1 s1 r1 h1 => ?_⟩
  exact s S1 μ1 H1 v1 d1 R Q k1 r1 h1 fun S3 μ3 H3 v d k3 s3 r3 h3 => post S3 μ3 H3 v d k3 (s1.trans s3) r3 h3
end

/-! ### names, constants -/
def rVar (i : Nat) : RX := fun ρ μ R => match gt ρ i with
  | some d => R d μ
  | none => False
def rC (d : D) : RX := fun _ μ R => R d μ
/-- the list in slot i becomes data -/
def frz (d : D) (μ : MH) (R : D → MH → Prop) : Prop := match d with
  | .ref p => (match μ p with
    | some (.lst ds) => R (.lst ds) (delM μ p)
    | _ => R d μ)
  | _ => R d μ
def rFrz (f : RX) : RX := fun ρ μ R => f ρ μ fun d μ1 => frz d μ1 R
section
variable {X : Cx}
theorem de_var (i : Nat) {x : Str} {pos : Pos} (hN : X.N[i]? = some x := by rfl) (hv : Vis X.env.scope x := by first | exact Or.inl rfl | exact Or.inr (Or.inl rfl) | exact Or.inr (Or.inr rfl)) (hd : (x == ("__debug__" : Str)) = false := by decide)
    (hcd : (x == ("__classdict__" : Str)) = false := by decide) : DE X (.Name x pos) (rVar i) := pe_imp (pe_var hN hv hd hcd) fun σ H Q ⟨S, μ, ρ, R, k, e, h, post⟩ => by
  unfold rVar at h
  cases q : gt ρ i with
  | none => rw [q] at h; exact h.elim
  | some d =>
    rw [q] at h
    obtain ⟨v, h1, h2⟩ := e.get q
    exact ⟨v, h1, post S μ H v d k .refl h2 h⟩
theorem up_c {K : PySem.W.Frag} {v : V} {d : D} (r : ∀ S, Rep K S v d) : ∀ σ H Q, up K (rC d) σ H Q → tC v σ H Q := fun σ H Q ⟨S, μ, ρ, R, k, e, h, post⟩ => post S μ H v d k .refl (r S) h
theorem de_int {i j pos} : DE X (.Constant (.int i) j pos) (rC (.int i)) := pe_imp pe_int (up_c fun _ => .int i)
theorem de_bl {b j pos} : DE X (.Constant (.bool b) j pos) (rC (.bl b)) := pe_imp pe_bl (up_c fun _ => .bl b)
theorem de_non {j pos} : DE X (.Constant .none j pos) (rC .non) := pe_imp pe_non (up_c fun _ => .non)
theorem de_str {x j pos} : DE X (.Constant (.str x) j pos) (rC (.str x)) := pe_imp pe_str (up_c fun _ => .str x)
theorem de_glob {x : Str} {v : V} {d : D} {u : Value} {pos : Pos} (hg : Gl X x) (hm : X.mg x = some u) (r : RelV v u) (q : ∀ S, Rep X.K S v d) (hd : (x == ("__debug__" : Str)) = false := by decide) : DE X (.Name x pos) (rC d) :=
  pe_imp (pe_glob hg hm r hd) (up_c q)
theorem de_ty {x : Str} {n : String} {pos : Pos} (hg : Gl X x) (hm : X.mg x = none) (hv : bootBuiltins x = some (.type n)) (hn : x ≠ "__name__" := by decide) (hd : (x == ("__debug__" : Str)) = false := by decide) : DE X (.Name x pos) (rC (.ty n)) :=
  pe_imp (pe_bltn (v := .ty n) hg hm hv rfl hn hd) (up_c fun _ => .ty n)
theorem de_frz {e : Expr} {f : RX} (h : DE X e f) : DE X e (rFrz f) := pe_imp h fun σ H Q ⟨S, μ, ρ, R, k, e, h, post⟩ => by
  refine ⟨S, μ, ρ, _, k, e, h, fun S1 μ1 H1 v1 d1 k1 s1 r1 h1 => ?_⟩
  cases d1 with
  | ref p =>
    cases q : μ1 p with
    | none =>
      have h1 : R (.ref p) μ1 := by
        unfold frz at h1; dsimp only at h1; rw [q] at h1; exact h1
      exact post S1 μ1 H1 v1 _ k1 s1 r1 h1
    | some m =>
      cases m with
      | lst ds =>
        have h1 : R (.lst ds) (delM μ1 p) := by
          unfold frz at h1; dsimp only at h1; rw [q] at h1; exact h1
        obtain ⟨_, vs, e1, r2⟩ := k1.mts p _ q
        obtain ⟨k2, s2⟩ := k1.freeze q e1
        cases r1.toRef
        exact post _ _ H1 _ _ k2 (s1.trans s2) (.lst upd_same (r2.mono s2.same)) h1
      | ins C fs =>
        have h1 : R (.ref p) μ1 := by
          unfold frz at h1; dsimp only at h1; rw [q] at h1; exact h1
        exact post S1 μ1 H1 v1 _ k1 s1 r1 h1
  | _ => exact post S1 μ1 H1 v1 _ k1 s1 r1 h1
end

/-! ### operators -/
def gI (c : Int → Int → Prop) (f : Int → Int → D) : G2 := fun x y μ R => match x, y with
  | .int i, .int j => c i j ∧ R (f i j) μ
  | _, _ => False
def gI0 (f : Int → Int → D) : G2 := fun x y μ R => match x, y with
  | .int i, .int j => R (f i j) μ
  | _, _ => False
def gU (f : Int → D) : G1 := fun x μ R => match x with
  | .int i => R (f i) μ
  | _ => False
theorem snd_I {K : PySem.W.Frag} {c : Int → Int → Prop} {f : Int → Int → D} {g : Int → Int → V} (h : ∀ i j S, Rep K S (g i j) (f i j)) : Snd2 K (rI c g) (gI c f) := by
  intro S μ H x y dx dy R Q k rx ry q post
  cases dx <;> cases dy <;> first | exact False.elim q | skip
  cases rx.toInt
  cases ry.toInt
  exact ⟨_, _, rfl, rfl, q.1, post S μ H _ _ k .refl (h _ _ S) q.2⟩
theorem snd_I0 {K : PySem.W.Frag} {f : Int → Int → D} {g : Int → Int → V} (h : ∀ i j S, Rep K S (g i j) (f i j)) : Snd2 K (rI0 g) (gI0 f) := by
  intro S μ H x y dx dy R Q k rx ry q post
  cases dx <;> cases dy <;> first | exact False.elim q | skip
  cases rx.toInt
  cases ry.toInt
  exact ⟨_, _, rfl, rfl, post S μ H _ _ k .refl (h _ _ S) q⟩
def gAdd : G2 := fun x y μ R => match x, y with
  | .int i, .int j => R (.int (i + j)) μ
  | .str i, .str j => i.length + j.length ≤ sizeLine ∧ R (.str (i ++ j)) μ
  | .tup a, .tup b => a.length + b.length ≤ sizeLine ∧ R (.tup (a ++ b)) μ
  | _, _ => match res μ x, res μ y with
    | .lst a, .lst b => a.length + b.length ≤ sizeLine ∧ R (.lst (a ++ b)) μ
    | _, _ => False
/-- the new list may be changed later -/
def gAddM : G2 := fun x y μ R => match res μ x, res μ y with
    | .lst a, .lst b => a.length + b.length ≤ sizeLine ∧ ∀ p, μ p = none → R (.ref p) (updM μ p (.lst (a ++ b)))
    | _, _ => False
section
variable {K : PySem.W.Frag} {X : Cx} {a b : Expr} {fa fb : RX} {pos : Pos}
theorem snd_cat : Snd2 K (rCatA K) (fun x y μ R => match x, y with
  | .tup a, .tup b => a.length + b.length ≤ sizeLine ∧ R (.tup (a ++ b)) μ
  | _, _ => False) := by
  intro S μ H x y dx dy R Q k rx ry q post
  cases dx <;> cases dy <;> first | exact False.elim q | skip
  obtain ⟨a, vs, rfl, h1, r1⟩ := rx.toTup
  obtain ⟨b, ws, rfl, h2, r2⟩ := ry.toTup
  obtain ⟨q1, q⟩ := q
  refine ⟨a, b, vs, ws, rfl, rfl, sqT_same k.sub h1, sqT_same k.sub h2, by rw [r1.length, r2.length]; exact q1, fun e => ?_, fun _ e => ?_, fun _ _ p hp => ?_⟩
  · subst e
    cases r1
    exact post S μ H _ _ k .refl ry q
  · subst e
    cases r2
    rw [List.append_nil] at q
    exact post S μ H _ _ k .refl rx q
  · obtain ⟨k2, s2⟩ := k.alloc (o := .tup (vs ++ ws)) hp
    exact post _ μ _ _ _ k2 s2 (.tup (.of upd_same) ((r1.append r2).mono s2.same)) q
theorem snd_catL : Snd2 K rCat (fun x y μ R => match res μ x, res μ y with
    | .lst a, .lst b => a.length + b.length ≤ sizeLine ∧ R (.lst (a ++ b)) μ
    | _, _ => False) := by
  intro S μ H x y dx dy R Q k rx ry q post
  cases e1 : res μ dx <;> rw [e1] at q <;> first | exact False.elim q | skip
  cases e2 : res μ dy <;> rw [e2] at q <;> first | exact False.elim q | skip
  obtain ⟨a, vs, rfl, h1, r1⟩ := res_lst k rx e1
  obtain ⟨b, ws, rfl, h2, r2⟩ := res_lst k ry e2
  obtain ⟨q1, q⟩ := q
  refine ⟨a, b, vs, ws, rfl, rfl, h1, h2, by rw [r1.length, r2.length]; exact q1, fun p hp => ?_⟩
  obtain ⟨k2, s2⟩ := k.alloc (o := .lst (vs ++ ws)) hp
  exact post _ μ _ _ _ k2 s2 (.lst upd_same ((r1.append r2).mono s2.same)) q
/-- a new changeable list -/
theorem OK.newM {S H : Hp} {μ : MH} {p : Addr} {vs : List V} {ds : List D} (k : OK K S μ H) (hp : H p = none) (r : Reps K S vs ds) : OK K S (updM μ p (.lst ds)) (upd H p (.lst vs)) ∧ Stp S μ H S (updM μ p (.lst ds)) (upd H p (.lst vs)) := by
  obtain ⟨hS, hM⟩ := k.free hp
  refine ⟨k.put hS ⟨vs, upd_same, r⟩, fun _ _ h => h, fun _ _ h => .inl h, fun b o e _ => ?_, fun b m e => ?_⟩
  · rw [upd_ne (ne_of_none e hp)]; exact e
  · by_cases q : b = p
    · exact .inl (q ▸ hp)
    · rw [updM_ne q] at e; exact .inr ⟨m, e⟩
theorem snd_catLM : Snd2 K rCat gAddM := by
  intro S μ H x y dx dy R Q k rx ry q post
  unfold gAddM at q
  cases e1 : res μ dx <;> rw [e1] at q <;> first | exact False.elim q | skip
  cases e2 : res μ dy <;> rw [e2] at q <;> first | exact False.elim q | skip
  obtain ⟨a, vs, rfl, h1, r1⟩ := res_lst k rx e1
  obtain ⟨b, ws, rfl, h2, r2⟩ := res_lst k ry e2
  obtain ⟨q1, q⟩ := q
  refine ⟨a, b, vs, ws, rfl, rfl, h1, h2, by rw [r1.length, r2.length]; exact q1, fun p hp => ?_⟩
  obtain ⟨k2, s2⟩ := k.newM hp (r1.append r2)
  exact post _ _ _ _ _ k2 s2 (.ref p) (q p (k.free hp).2)
theorem snd_addstr : Snd2 K (fun x y H Q => ∃ i j, x = .str i ∧ y = .str j ∧ i.length + j.length ≤ sizeLine ∧ Q (.str (i ++ j)) H) (fun x y μ R => match x, y with
  | .str i, .str j => i.length + j.length ≤ sizeLine ∧ R (.str (i ++ j)) μ
  | _, _ => False) := by
  intro S μ H x y dx dy R Q k rx ry q post
  cases dx <;> cases dy <;> first | exact False.elim q | skip
  cases rx.toStr
  cases ry.toStr
  exact ⟨_, _, rfl, rfl, q.1, post S μ H _ _ k .refl (.str _) q.2⟩
theorem de_op {op : Operator} {r : R2} {g : G2} (ho : OpR X (binaryOp op) r) (s : Snd2 X.K r g) (ha : DE X a fa) (hb : DE X b fb) : DE X (.BinOp a op b pos) (rOp g fa fb) := pe_imp (pe_op ho ha hb) (up_op s)
theorem snd_add : Snd2 K (fun x y H Q => rI0 (fun i j => .int (i + j)) x y H Q ∨ (∃ i j, x = .str i ∧ y = .str j ∧ i.length + j.length ≤ sizeLine ∧ Q (.str (i ++ j)) H) ∨ rCatA K x y H Q ∨ rCat x y H Q) gAdd := by
  intro S μ H x y dx dy R Q k rx ry q post
  cases dx with
  | int i =>
    cases dy with
    | int j => exact .inl (snd_I0 (fun i j S => .int (i + j)) S μ H x y _ _ R Q k rx ry q post)
    | _ => exact .inr (.inr (.inr (snd_catL S μ H x y _ _ R Q k rx ry q post)))
  | str i =>
    cases dy with
    | str j => exact .inr (.inl (snd_addstr S μ H x y _ _ R Q k rx ry q post))
    | _ => exact .inr (.inr (.inr (snd_catL S μ H x y _ _ R Q k rx ry q post)))
  | tup i =>
    cases dy with
    | tup j => exact .inr (.inr (.inl (snd_cat S μ H x y _ _ R Q k rx ry q post)))
    | _ => exact .inr (.inr (.inr (snd_catL S μ H x y _ _ R Q k rx ry q post)))
  | _ => exact .inr (.inr (.inr (snd_catL S μ H x y _ _ R Q k rx ry q post)))
theorem de_add (ha : DE X a fa) (hb : DE X b fb) : DE X (.BinOp a .Add b pos) (rOp gAdd fa fb) := de_op (op_add.or (op_add_str.or (op_catA.or op_cat))) snd_add ha hb
theorem de_addM (ha : DE X a fa) (hb : DE X b fb) : DE X (.BinOp a .Add b pos) (rOp gAddM fa fb) := de_op op_cat snd_catLM ha hb
abbrev gSub : G2 := gI0 fun i j => .int (i - j)
abbrev gMul : G2 := gI CBig fun i j => .int (i * j)
abbrev gDiv : G2 := gI CDivX fun i j => .int (i.fdiv j)
abbrev gMod : G2 := gI (fun _ j => j ≠ 0) fun i j => .int (i.fmod j)
abbrev gPow : G2 := gI CPow fun i j => .int (i ^ j.toNat)
theorem de_sub (ha : DE X a fa) (hb : DE X b fb) : DE X (.BinOp a .Sub b pos) (rOp gSub fa fb) := de_op op_sub (snd_I0 fun i j S => .int _) ha hb
theorem de_mul (ha : DE X a fa) (hb : DE X b fb) : DE X (.BinOp a .Mult b pos) (rOp gMul fa fb) := de_op op_mulX (snd_I fun i j S => .int _) ha hb
theorem de_div (ha : DE X a fa) (hb : DE X b fb) : DE X (.BinOp a .FloorDiv b pos) (rOp gDiv fa fb) := de_op op_fdivX (snd_I fun i j S => .int _) ha hb
theorem de_mod (ha : DE X a fa) (hb : DE X b fb) : DE X (.BinOp a .Mod b pos) (rOp gMod fa fb) := de_op op_modN (snd_I fun i j S => .int _) ha hb
theorem de_pow (ha : DE X a fa) (hb : DE X b fb) : DE X (.BinOp a .Pow b pos) (rOp gPow fa fb) := de_op op_pow (snd_I fun i j S => .int _) ha hb
theorem snd_U {f : Int → D} {g : Int → V} (h : ∀ i S, Rep K S (g i) (f i)) : Snd1 K (rU g) (gU f) := by
  intro S μ H x dx R Q k rx q post
  cases dx <;> first | exact False.elim q | skip
  cases rx.toInt
  exact ⟨_, rfl, post S μ H _ _ k .refl (h _ S) q⟩
theorem de_neg (ha : DE X a fa) : DE X (.UnaryOp .USub a pos) (rUn (gU fun i => .int (-i)) fa) := pe_imp (pe_un un_neg ha) (up_un (snd_U fun i S => .int _))
end

/-! ### comparisons -/
abbrev gLt : G2 := gI0 fun i j => .bl (decide (i < j))
abbrev gLe : G2 := gI0 fun i j => .bl (decide (i ≤ j))
abbrev gGt : G2 := gI0 fun i j => .bl (decide (j < i))
abbrev gGe : G2 := gI0 fun i j => .bl (decide (j ≤ i))
def gEq : G2 := fun x y μ R => pureN 20 (res μ x) = true ∧ pureN 20 (res μ y) = true ∧ R (.bl (deq (res μ x) (res μ y))) μ
def gNe : G2 := fun x y μ R => pureN 20 (res μ x) = true ∧ pureN 20 (res μ y) = true ∧ R (.bl (!deq (res μ x) (res μ y))) μ
/-- two ints, two texts, two bools: no stack is asked -/
def isNonD : D → Bool
  | .non => true
  | _ => false
def gIsN : G2 := fun x y μ R => match y with
  | .non => R (.bl (isNonD x)) μ
  | _ => False
def gNotN : G2 := fun x y μ R => match y with
  | .non => R (.bl (!isNonD x)) μ
  | _ => False
section
variable {K : PySem.W.Frag} {X : Cx} {a b c : Expr} {fa fb fc : RX} {pos : Pos}
theorem snd_eq : Snd2 K (rEqD K) gEq := by
  intro S μ H x y dx dy R Q k rx ry q post
  obtain ⟨p1, p2, q⟩ := q
  exact ⟨_, _, res_dp k rx p1, res_dp k ry p2, pure_shaped p1 (by decide), pure_shaped p2 (by decide), post S μ H _ _ k .refl (.bl _) q⟩
theorem snd_ne : Snd2 K (rNeD K) gNe := by
  intro S μ H x y dx dy R Q k rx ry q post
  obtain ⟨p1, p2, q⟩ := q
  exact ⟨_, _, res_dp k rx p1, res_dp k ry p2, pure_shaped p1 (by decide), pure_shaped p2 (by decide), post S μ H _ _ k .refl (.bl _) q⟩
theorem isNon_iff {S : Hp} {x : V} {d : D} (r : Rep K S x d) : decide (x = .non) = isNonD d := by
  cases r <;> first | rfl | exact decide_eq_false (fun h => nomatch h)
theorem snd_isN : Snd2 K (fun x y H Q => y = .non ∧ Q (.bl (decide (x = .non))) H) gIsN := by
  intro S μ H x y dx dy R Q k rx ry q post
  unfold gIsN at q
  cases dy <;> first | exact False.elim q | skip
  cases ry.toNon
  exact ⟨rfl, by rw [isNon_iff rx]; exact post S μ H _ _ k .refl (.bl _) q⟩
theorem snd_notN : Snd2 K (fun x y H Q => y = .non ∧ Q (.bl (!decide (x = .non))) H) gNotN := by
  intro S μ H x y dx dy R Q k rx ry q post
  unfold gNotN at q
  cases dy <;> first | exact False.elim q | skip
  cases ry.toNon
  exact ⟨rfl, by rw [isNon_iff rx]; exact post S μ H _ _ k .refl (.bl _) q⟩
theorem de_cmp {op : CmpOp} {r : R2} {g : G2} (ho : OpR X (compareOp op) r) (s : Snd2 X.K r g) (ha : DE X a fa) (hb : DE X b fb) (hm : behindInMarks op b = false) : DE X (.Compare a [op] [b] pos) (rOp g fa fb) := pe_imp (pe_cmpR ho ha hb hm) (up_op s)
theorem de_lt (ha : DE X a fa) (hb : DE X b fb) : DE X (.Compare a [.Lt] [b] pos) (rOp gLt fa fb) := de_cmp op_lt (snd_I0 fun i j S => .bl _) ha hb (nomark _)
theorem de_le (ha : DE X a fa) (hb : DE X b fb) : DE X (.Compare a [.LtE] [b] pos) (rOp gLe fa fb) := de_cmp op_le (snd_I0 fun i j S => .bl _) ha hb (nomark _)
theorem de_gt (ha : DE X a fa) (hb : DE X b fb) : DE X (.Compare a [.Gt] [b] pos) (rOp gGt fa fb) := de_cmp op_gt (snd_I0 fun i j S => .bl _) ha hb (nomark _)
theorem de_ge (ha : DE X a fa) (hb : DE X b fb) : DE X (.Compare a [.GtE] [b] pos) (rOp gGe fa fb) := de_cmp op_ge (snd_I0 fun i j S => .bl _) ha hb (nomark _)
theorem de_eq (hu : X.A.units + 64 < cLine) (ha : DE X a fa) (hb : DE X b fb) : DE X (.Compare a [.Eq] [b] pos) (rOp gEq fa fb) := de_cmp (op_eqD hu) snd_eq ha hb (nomark _)
theorem de_ne (hu : X.A.units + 64 < cLine) (ha : DE X a fa) (hb : DE X b fb) : DE X (.Compare a [.NotEq] [b] pos) (rOp gNe fa fb) := de_cmp (op_neD hu) snd_ne ha hb (nomark _)
theorem de_isN (ha : DE X a fa) (hb : DE X b fb) : DE X (.Compare a [.Is] [b] pos) (rOp gIsN fa fb) := de_cmp op_isN snd_isN ha hb (nomark _)
theorem de_notN (ha : DE X a fa) (hb : DE X b fb) : DE X (.Compare a [.IsNot] [b] pos) (rOp gNotN fa fb) := de_cmp op_notN snd_notN ha hb (nomark _)
end

/-! ### tests -/
def rB (f : RX) : RT := fun ρ μ R => f ρ μ fun d μ1 => match d with
  | .bl b => R b μ1
  | _ => False
def rAnd (f g : RT) : RT := fun ρ μ R => f ρ μ fun b μ1 => if b = true then g ρ μ1 R else R false μ1
def rOr (f g : RT) : RT := fun ρ μ R => f ρ μ fun b μ1 => if b = true then R true μ1 else g ρ μ1 R
def rNot (f : RT) : RT := fun ρ μ R => f ρ μ fun b μ1 => R (!b) μ1
def rIfE (t : RT) (f g : RX) : RX := fun ρ μ R => t ρ μ fun b μ1 => if b = true then f ρ μ1 R else g ρ μ1 R
def rAndV (f g : RX) : RX := fun ρ μ R => f ρ μ fun d μ1 => match d with
  | .bl b => if b = true then g ρ μ1 R else R (.bl false) μ1
  | _ => False
def rOrV (f g : RX) : RX := fun ρ μ R => f ρ μ fun d μ1 => match d with
  | .bl b => if b = true then R (.bl true) μ1 else g ρ μ1 R
  | _ => False
def rNotV (f : RX) : RX := fun ρ μ R => f ρ μ fun d μ1 => match d with
  | .bl b => R (.bl (!b)) μ1
  | _ => False
section
variable {X : Cx} {a b c : Expr} {rest : List Expr} {fa fb : RX} {ta tb tc : RT} {pos : Pos}
theorem dt_cmp {op : CmpOp} {r : R2} {g : G2} (ho : OpR X (compareOp op) r) (s : Snd2 X.K r g) (ha : DE X a fa) (hb : DE X b fb) (hm : behindInMarks op b = false) : DT X (.Compare a [op] [b] pos) (rB (rOp g fa fb)) := pt_imp (pt_cmpR ho ha hb hm) fun σ H Q ⟨S, μ, ρ, R, k, e, h, post⟩ => by
  refine up_op s σ H (fun x H' => ∃ k, x = .bl k ∧ Q k H') ⟨S, μ, ρ, _, k, e, h, fun S1 μ1 H1 v1 d1 k1 s1 r1 h1 => ?_⟩
  cases d1 <;> first | exact False.elim h1 | skip
  cases r1.toBl
  exact ⟨_, rfl, post S1 μ1 H1 _ k1 s1 h1⟩
theorem dt_lt (ha : DE X a fa) (hb : DE X b fb) : DT X (.Compare a [.Lt] [b] pos) (rB (rOp gLt fa fb)) := dt_cmp op_lt (snd_I0 fun i j S => .bl _) ha hb (nomark _)
theorem dt_le (ha : DE X a fa) (hb : DE X b fb) : DT X (.Compare a [.LtE] [b] pos) (rB (rOp gLe fa fb)) := dt_cmp op_le (snd_I0 fun i j S => .bl _) ha hb (nomark _)
theorem dt_gt (ha : DE X a fa) (hb : DE X b fb) : DT X (.Compare a [.Gt] [b] pos) (rB (rOp gGt fa fb)) := dt_cmp op_gt (snd_I0 fun i j S => .bl _) ha hb (nomark _)
theorem dt_ge (ha : DE X a fa) (hb : DE X b fb) : DT X (.Compare a [.GtE] [b] pos) (rB (rOp gGe fa fb)) := dt_cmp op_ge (snd_I0 fun i j S => .bl _) ha hb (nomark _)
theorem dt_eq (hu : X.A.units + 64 < cLine) (ha : DE X a fa) (hb : DE X b fb) : DT X (.Compare a [.Eq] [b] pos) (rB (rOp gEq fa fb)) := dt_cmp (op_eqD hu) snd_eq ha hb (nomark _)
theorem dt_ne (hu : X.A.units + 64 < cLine) (ha : DE X a fa) (hb : DE X b fb) : DT X (.Compare a [.NotEq] [b] pos) (rB (rOp gNe fa fb)) := dt_cmp (op_neD hu) snd_ne ha hb (nomark _)
theorem dt_isN (ha : DE X a fa) (hb : DE X b fb) : DT X (.Compare a [.Is] [b] pos) (rB (rOp gIsN fa fb)) := dt_cmp op_isN snd_isN ha hb (nomark _)
theorem dt_notN (ha : DE X a fa) (hb : DE X b fb) : DT X (.Compare a [.IsNot] [b] pos) (rB (rOp gNotN fa fb)) := dt_cmp op_notN snd_notN ha hb (nomark _)
theorem dt_val (h : DE X a fa) (he : ∀ whole, isTrue a X.env whole = (do let v ← whole; standAt a.pos; holding [v] (truthy v)) := by intro _; rfl) : DT X a (rB fa) := pt_imp (pt_val h he) fun σ H Q ⟨S, μ, ρ, R, k, e, h, post⟩ => by
  refine ⟨S, μ, ρ, _, k, e, h, fun S1 μ1 H1 v1 d1 k1 s1 r1 h1 => ?_⟩
  cases d1 <;> first | exact False.elim h1 | skip
  exact ⟨_, r1.toBl, post S1 μ1 H1 _ k1 s1 h1⟩
theorem dw_and1 (ha : DT X a ta) : DW X (.BoolOp .And [a] pos) ta := pw_and1 ha
theorem dw_or1 (ha : DT X a ta) : DW X (.BoolOp .Or [a] pos) ta := pw_or1 ha
theorem dw_and (ha : DT X a ta) (hb : DW X (.BoolOp .And (b :: rest) pos) tb) : DW X (.BoolOp .And (a :: b :: rest) pos) (rAnd ta tb) := pw_imp (pw_and ha hb) fun σ H Q ⟨S, μ, ρ, R, k, e, h, post⟩ => by
  refine ⟨S, μ, ρ, _, k, e, h, fun S1 μ1 H1 b1 k1 s1 h1 => ?_⟩
  cases b1 with
  | true => rw [if_pos rfl] at h1 ⊢; exact ⟨S1, μ1, ρ, _, k1, e.mono s1.same, h1, fun S2 μ2 H2 b2 k2 s2 h2 => post S2 μ2 H2 b2 k2 (s1.trans s2) h2⟩
  | false => rw [if_neg Bool.false_ne_true] at h1 ⊢; exact post S1 μ1 H1 _ k1 s1 h1
theorem dw_or (ha : DT X a ta) (hb : DW X (.BoolOp .Or (b :: rest) pos) tb) : DW X (.BoolOp .Or (a :: b :: rest) pos) (rOr ta tb) := pw_imp (pw_or ha hb) fun σ H Q ⟨S, μ, ρ, R, k, e, h, post⟩ => by
  refine ⟨S, μ, ρ, _, k, e, h, fun S1 μ1 H1 b1 k1 s1 h1 => ?_⟩
  cases b1 with
  | true => rw [if_pos rfl] at h1 ⊢; exact post S1 μ1 H1 _ k1 s1 h1
  | false => rw [if_neg Bool.false_ne_true] at h1 ⊢; exact ⟨S1, μ1, ρ, _, k1, e.mono s1.same, h1, fun S2 μ2 H2 b2 k2 s2 h2 => post S2 μ2 H2 b2 k2 (s1.trans s2) h2⟩
theorem dt_w (h : DW X a ta) : DT X a ta := PW.pt h
theorem dt_not (ha : DT X a ta) : DT X (.UnaryOp .Not a pos) (rNot ta) := pt_imp (pt_not ha) fun σ H Q ⟨S, μ, ρ, R, k, e, h, post⟩ =>
  ⟨S, μ, ρ, _, k, e, h, fun S1 μ1 H1 b1 k1 s1 h1 => post S1 μ1 H1 _ k1 s1 h1⟩
theorem de_if (hc : DT X c tc) (ha : DE X a fa) (hb : DE X b fb) : DE X (.IfExp c a b pos) (rIfE tc fa fb) := pe_imp (pe_ifExp hc ha hb) fun σ H Q ⟨S, μ, ρ, R, k, e, h, post⟩ => by
  refine ⟨S, μ, ρ, _, k, e, h, fun S1 μ1 H1 b1 k1 s1 h1 => ?_⟩
  cases b1 with
  | true => rw [if_pos rfl] at h1 ⊢; exact ⟨S1, μ1, ρ, _, k1, e.mono s1.same, h1, fun S2 μ2 H2 v d k2 s2 r2 h2 => post S2 μ2 H2 v d k2 (s1.trans s2) r2 h2⟩
  | false => rw [if_neg Bool.false_ne_true] at h1 ⊢; exact ⟨S1, μ1, ρ, _, k1, e.mono s1.same, h1, fun S2 μ2 H2 v d k2 s2 r2 h2 => post S2 μ2 H2 v d k2 (s1.trans s2) r2 h2⟩
theorem de_one {op} {f : RX} (h : DE X a f) : DE X (.BoolOp op [a] pos) f := pe_one h
theorem de_and (ha : DE X a fa) (hb : DE X (.BoolOp .And (b :: rest) pos) fb) : DE X (.BoolOp .And (a :: b :: rest) pos) (rAndV fa fb) := pe_imp (pe_and ha hb) fun σ H Q ⟨S, μ, ρ, R, k, e, h, post⟩ => by
  refine ⟨S, μ, ρ, _, k, e, h, fun S1 μ1 H1 v1 d1 k1 s1 r1 h1 => ?_⟩
  cases d1 with
  | bl b1 =>
    refine ⟨b1, r1.toBl, ?_⟩
    have h1 : (if b1 = true then fb ρ μ1 R else R (.bl false) μ1) := h1
    cases b1 with
    | true => rw [if_pos rfl] at h1 ⊢; exact ⟨S1, μ1, ρ, _, k1, e.mono s1.same, h1, fun S2 μ2 H2 v d k2 s2 r2 h2 => post S2 μ2 H2 v d k2 (s1.trans s2) r2 h2⟩
    | false => rw [if_neg Bool.false_ne_true] at h1 ⊢; exact post S1 μ1 H1 _ _ k1 s1 (.bl _) h1
  | _ => exact False.elim h1
theorem de_or (ha : DE X a fa) (hb : DE X (.BoolOp .Or (b :: rest) pos) fb) : DE X (.BoolOp .Or (a :: b :: rest) pos) (rOrV fa fb) := pe_imp (pe_or ha hb) fun σ H Q ⟨S, μ, ρ, R, k, e, h, post⟩ => by
  refine ⟨S, μ, ρ, _, k, e, h, fun S1 μ1 H1 v1 d1 k1 s1 r1 h1 => ?_⟩
  cases d1 with
  | bl b1 =>
    refine ⟨b1, r1.toBl, ?_⟩
    have h1 : (if b1 = true then R (.bl true) μ1 else fb ρ μ1 R) := h1
    cases b1 with
    | true => rw [if_pos rfl] at h1 ⊢; exact post S1 μ1 H1 _ _ k1 s1 (.bl _) h1
    | false => rw [if_neg Bool.false_ne_true] at h1 ⊢; exact ⟨S1, μ1, ρ, _, k1, e.mono s1.same, h1, fun S2 μ2 H2 v d k2 s2 r2 h2 => post S2 μ2 H2 v d k2 (s1.trans s2) r2 h2⟩
  | _ => exact False.elim h1
theorem de_not (ha : DE X a fa) : DE X (.UnaryOp .Not a pos) (rNotV fa) := pe_imp (pe_not ha) fun σ H Q ⟨S, μ, ρ, R, k, e, h, post⟩ => by
  refine ⟨S, μ, ρ, _, k, e, h, fun S1 μ1 H1 v1 d1 k1 s1 r1 h1 => ?_⟩
  cases d1 <;> first | exact False.elim h1 | skip
  exact ⟨_, r1.toBl, post S1 μ1 H1 _ _ k1 s1 (.bl _) h1⟩
end
end L3

/-! ## L3c -/
set_option Elab.async false
set_option linter.all false
set_option maxRecDepth 100000
set_option maxHeartbeats 4000000
namespace L3
open PySem PySem.Spec PyProof.Rows L2

/-! ### arguments, displays -/
def rNil : RA := fun _ μ R => R [] μ
def rCons (fa : RX) (fr : RA) : RA := fun ρ μ R => fa ρ μ fun d μ1 => fr ρ μ1 fun ds μ2 => R (d :: ds) μ2
def rStar (fa : RX) (fr : RA) : RA := fun ρ μ R => fa ρ μ fun d μ1 => match seqD (res μ1 d) with
  | some xs => fr ρ μ1 fun ds μ2 => R (xs ++ ds) μ2
  | none => False
def rTup (fa : RA) : RX := fun ρ μ R => fa ρ μ fun ds μ1 => ds.length ≤ sizeLine ∧ R (.tup ds) μ1
def rLst (fa : RA) : RX := fun ρ μ R => fa ρ μ fun ds μ1 => ds.length ≤ sizeLine ∧ R (.lst ds) μ1
def rLstM (fa : RA) : RX := fun ρ μ R => fa ρ μ fun ds μ1 => ds.length ≤ sizeLine ∧ ∀ p, μ1 p = none → R (.ref p) (updM μ1 p (.lst ds))
section
variable {X : Cx} {e : Expr} {es : List Expr} {fe : RX} {fa : RA} {pos p : Pos}
theorem da_nil : DA X [] rNil := pa_imp pa_nil fun σ H Q ⟨S, μ, ρ, R, k, e, h, post⟩ => post S μ H [] [] k .refl .nil h
theorem da_cons (ha : DE X e fe) (hr : DA X es fa) (hs : starEach (e :: es) X.env = (false, eval e X.env) :: starEach es X.env := by rfl) : DA X (e :: es) (rCons fe fa) := pa_imp (pa_cons ha hr hs) fun σ H Q ⟨S, μ, ρ, R, k, e, h, post⟩ => by
  refine ⟨S, μ, ρ, _, k, e, h, fun S1 μ1 H1 v1 d1 k1 s1 r1 h1 => ?_⟩
  exact ⟨S1, μ1, ρ, _, k1, e.mono s1.same, h1, fun S2 μ2 H2 vs ds k2 s2 r2 h2 => post S2 μ2 H2 _ _ k2 (s1.trans s2) (.cons (r1.mono s2.same) r2) h2⟩
theorem da_star (ha : DE X e fe) (hr : DA X es fa) (hs : starEach (.Starred e p :: es) X.env = (true, eval e X.env) :: starEach es X.env := by rfl) : DA X (.Starred e p :: es) (rStar fe fa) := pa_imp (StX.pa_star ha hr hs) fun σ H Q ⟨S, μ, ρ, R, k, e, h, post⟩ => by
  refine ⟨S, μ, ρ, _, k, e, h, fun S1 μ1 H1 v1 d1 k1 s1 r1 h1 => ?_⟩
  cases q : seqD (res μ1 d1) with
  | none => rw [q] at h1; exact h1.elim
  | some xs =>
    rw [q] at h1
    obtain ⟨a, vs, e1, h2, r2⟩ := seq_rep k1 r1 q
    refine ⟨a, vs, e1, h2.symm, S1, μ1, ρ, _, k1, e.mono s1.same, h1, fun S2 μ2 H2 ws ds k2 s2 r3 h3 => post S2 μ2 H2 _ _ k2 (s1.trans s2) ((r2.mono s2.same).append r3) h3⟩
theorem de_tup {x1} (h : DA X es fa) : DE X (.Tuple es x1 pos) (rTup fa) := pe_imp (pe_tup h) fun σ H Q ⟨S, μ, ρ, R, k, e, h, post⟩ => by
  refine ⟨S, μ, ρ, _, k, e, h, fun S1 μ1 H1 vs ds k1 s1 r1 h1 => ⟨by rw [r1.length]; exact h1.1, fun p hp => ?_⟩⟩
  obtain ⟨k2, s2⟩ := k1.alloc (o := .tup vs) hp
  exact post _ _ _ _ _ k2 (s1.trans s2) (.tup (.of upd_same) (r1.mono s2.same)) h1.2
theorem de_lst (h : DA X es fa) : DE X (.List es pos) (rLst fa) := pe_imp (pe_lst h) fun σ H Q ⟨S, μ, ρ, R, k, e, h, post⟩ => by
  refine ⟨S, μ, ρ, _, k, e, h, fun S1 μ1 H1 vs ds k1 s1 r1 h1 => ⟨by rw [r1.length]; exact h1.1, fun p hp => ?_⟩⟩
  obtain ⟨k2, s2⟩ := k1.alloc (o := .lst vs) hp
  exact post _ _ _ _ _ k2 (s1.trans s2) (.lst upd_same (r1.mono s2.same)) h1.2
theorem de_lstM (h : DA X es fa) : DE X (.List es pos) (rLstM fa) := pe_imp (pe_lst h) fun σ H Q ⟨S, μ, ρ, R, k, e, h, post⟩ => by
  refine ⟨S, μ, ρ, _, k, e, h, fun S1 μ1 H1 vs ds k1 s1 r1 h1 => ⟨by rw [r1.length]; exact h1.1, fun p hp => ?_⟩⟩
  obtain ⟨k2, s2⟩ := k1.newM hp r1
  exact post _ _ _ _ _ k2 (s1.trans s2) (.ref p) (h1.2 p (k1.free hp).2)
end

/-! ### items, slices -/
theorem atI_rep {K : PySem.W.Frag} {S : Hp} {vs : List V} {ds : List D} {i : Int} {d : D} (r : Reps K S vs ds) (e : atI ds i = some d) : ∃ v, atI vs i = some v ∧ Rep K S v d := by
  unfold atI at e ⊢
  rw [r.length]
  cases q : ixN ds.length i with
  | none => rw [q] at e; cases e
  | some j =>
    rw [q] at e
    exact r.get (show ds[j]? = some d from e)
def gIx : G2 := fun x y μ R => match y with
  | .int i => (match seqD (res μ x) with
    | some ds => (match atI ds i with
      | some d => R d μ
      | none => False)
    | none => False)
  | _ => False
theorem atI_lit {α : Type} (l : List α) (n : Nat) : atI l (n : Int) = l[n]? := by
  cases q : l[n]? with
  | some v => exact atI_nat q
  | none =>
    unfold atI ixN
    have h := List.getElem?_eq_none_iff.mp q
    rw [if_pos (by omega), if_neg (by omega)]
    rfl
theorem atI_0 {α : Type} (l : List α) : atI l 0 = l[0]? := atI_lit l 0
theorem atI_1 {α : Type} (l : List α) : atI l 1 = l[1]? := atI_lit l 1
theorem atI_2 {α : Type} (l : List α) : atI l 2 = l[2]? := atI_lit l 2
theorem atI_3 {α : Type} (l : List α) : atI l 3 = l[3]? := atI_lit l 3
theorem atI_4 {α : Type} (l : List α) : atI l 4 = l[4]? := atI_lit l 4
section
variable {K : PySem.W.Frag} {X : Cx} {a b : Expr} {fa fb : RX} {pos : Pos}
theorem snd_ix : Snd2 K (rIx K) gIx := by
  intro S μ H x y dx dy R Q k rx ry q post
  unfold gIx at q
  cases dy <;> first | exact False.elim q | skip
  rename_i i
  dsimp only at q
  cases q1 : seqD (res μ dx) with
  | none => rw [q1] at q; exact q.elim
  | some ds =>
    rw [q1] at q
    dsimp only at q
    cases q2 : atI ds i with
    | none => rw [q2] at q; exact q.elim
    | some d =>
      rw [q2] at q
      obtain ⟨p, vs, rfl, h1, r1⟩ := seq_rep k rx q1
      obtain ⟨v, h2, r2⟩ := atI_rep r1 q2
      cases ry.toInt
      rcases h1 with h1 | h1
      · exact .inl ⟨p, vs, i, v, rfl, rfl, h1, h2, post S μ H _ _ k .refl r2 q⟩
      · exact .inr (.inl ⟨p, vs, i, v, rfl, rfl, h1, h2, post S μ H _ _ k .refl r2 q⟩)
theorem de_ix (ha : DE X a fa) (hb : DE X b fb) (hs : PlainIx b := by exact fun _ _ => rfl) : DE X (.Subscript a b pos) (rOp gIx fa fb) := pe_imp (pe_ix ix_seq ha hb hs) (up_op snd_ix)
end
def cutD (xs : List D) (lo hi : Option Int) : List D := (xs.drop (HT.sIx xs.length 0 lo)).take (HT.sIx xs.length xs.length hi - HT.sIx xs.length 0 lo)
theorem cut_rep {K : PySem.W.Frag} {S : Hp} {vs : List V} {ds : List D} (r : Reps K S vs ds) (lo hi : Option Int) : Reps K S (cutV vs lo hi) (cutD ds lo hi) := by
  unfold cutV cutD
  rw [r.length]
  exact (r.drop _).take _
abbrev RO := EV → MH → (Option Int → MH → Prop) → Prop
def upO (K : PySem.W.Frag) (f : RO) : TO := fun σ H Q => ∃ S μ ρ R, OK K S μ H ∧ RepE K S σ ρ ∧ f ρ μ R ∧ ∀ S' μ' H' o, OK K S' μ' H' → Stp S μ H S' μ' H' → R o μ' → Q o H'
def rNoPart : RO := fun _ μ R => R none μ
def rPart (f : RX) : RO := fun ρ μ R => f ρ μ fun d μ1 => match d with
  | .int i => R (some i) μ1
  | _ => False
def gSl (x : D) (lo hi : Option Int) (μ : MH) (R : D → MH → Prop) : Prop := match res μ x with
  | .tup ds => R (.tup (cutD ds lo hi)) μ
  | .lst ds => R (.lst (cutD ds lo hi)) μ
  | _ => False
def rSl (fe : RX) (fl fh : RO) : RX := fun ρ μ R => fe ρ μ fun x μ1 => fl ρ μ1 fun lo μ2 => fh ρ μ2 fun hi μ3 => gSl x lo hi μ3 R
section
variable {X : Cx} {e : Expr} {fe : RX} {lo hi : Option Expr} {fl fh : RO} {pos p2 : Pos}
theorem po_imp {t u : TO} {e : Option Expr} (h : PO X e t) (i : ∀ σ H Q, u σ H Q → t σ H Q) : PO X e u := ⟨fun pins s σ H Q I q => h.run pins s σ H Q I (i σ H Q q)⟩
theorem do_none : PO X none (upO X.K rNoPart) := po_imp po_none fun σ H Q ⟨S, μ, ρ, R, k, e, h, post⟩ => post S μ H _ k .refl h
theorem do_some (h : DE X e fe) : PO X (some e) (upO X.K (rPart fe)) := po_imp (po_some h) fun σ H Q ⟨S, μ, ρ, R, k, e, h, post⟩ => by
  refine ⟨S, μ, ρ, _, k, e, h, fun S1 μ1 H1 v1 d1 k1 s1 r1 h1 => ?_⟩
  cases d1 <;> first | exact False.elim h1 | skip
  exact ⟨_, r1.toInt, post S1 μ1 H1 _ k1 s1 h1⟩
theorem de_slice (he : DE X e fe) (hl : PO X lo (upO X.K fl)) (hu : PO X hi (upO X.K fh)) : DE X (.Subscript e (.Slice lo hi none p2) pos) (rSl fe fl fh) := pe_imp (pe_slice (sl_tupA.or sl_list) he hl hu) fun σ H Q ⟨S, μ, ρ, R, k, e, h, post⟩ => by
  refine ⟨S, μ, ρ, _, k, e, h, fun S1 μ1 H1 v1 d1 k1 s1 r1 h1 => ?_⟩
  refine ⟨S1, μ1, ρ, _, k1, e.mono s1.same, h1, fun S2 μ2 H2 o2 k2 s2 h2 => ?_⟩
  refine ⟨S2, μ2, ρ, _, k2, (e.mono s1.same).mono s2.same, h2, fun S3 μ3 H3 o3 k3 s3 h3 => ?_⟩
  have r3 := r1.mono (s2.trans s3).same
  have s13 := (s1.trans s2).trans s3
  unfold gSl at h3
  cases q : res μ3 d1 with
  | tup ds =>
    rw [q] at h3
    have z := res_tup r3 q
    subst z
    obtain ⟨p, vs, rfl, a1, a2⟩ := r3.toTup
    refine .inl ⟨p, vs, rfl, sqT_same k3.sub a1, fun w => ?_, fun w p' hp => ?_⟩
    · have ec : cutD ds o2 o3 = ds := by
        unfold cutD
        rw [a2.length] at w
        rw [w.1, w.2]
        simp
      have h3 : R (.tup (cutD ds o2 o3)) μ3 := h3
      rw [ec] at h3
      exact post S3 μ3 H3 _ _ k3 s13 r3 h3
    · obtain ⟨k4, s4⟩ := k3.alloc (o := .tup (cutV vs o2 o3)) hp
      exact post _ _ _ _ _ k4 (s13.trans s4) (.tup (.of upd_same) ((cut_rep a2 o2 o3).mono s4.same)) h3
  | lst ds =>
    rw [q] at h3
    obtain ⟨p, vs, rfl, a1, a2⟩ := res_lst k3 r3 q
    refine .inr ⟨p, vs, rfl, .of a1, fun p' hp => ?_⟩
    obtain ⟨k4, s4⟩ := k3.alloc (o := .lst (cutV vs o2 o3)) hp
    exact post _ _ _ _ _ k4 (s13.trans s4) (.lst upd_same ((cut_rep a2 o2 o3).mono s4.same)) h3
  | _ => rw [q] at h3; exact h3.elim
end

/-! ### own defs -/
def spD (K : PySem.W.Frag) (s : GN) : Sp := fun vs H Q _ => ∃ S μ ds R, OK K S μ H ∧ Reps K S vs ds ∧ s ds μ R ∧ Pst K S μ H R Q
/-- the module's name x is a def that keeps s, with every parameter given -/
structure FnG (P : Program) (w : World) (K : PySem.W.Frag) (mg : Str → Option Value) (base : Heap) (k : Nat) (x : Str) (s : GN) : Prop where
  ex : ∃ f fd ps, FnOk P w K mg base CX0 k f fd ps (spD K s) ∧ mg x = some (.ref f) ∧ PySem.W.keepIn K (.ref f) = true ∧ Binds K fd ps []
theorem FnG.mono {P : Program} {w : World} {K : PySem.W.Frag} {mg : Str → Option Value} {base : Heap} {j k : Nat} {x : Str} {s : GN} (F : FnG P w K mg base j x s) (h : j ≤ k) : FnG P w K mg base k x s :=
  let ⟨f, fd, ps, a, b, c, d⟩ := F.ex; ⟨f, fd, ps, a.mono h, b, c, d⟩
theorem spD_imp {K : PySem.W.Frag} {s s' : GN} (h : ∀ ds μ R, s' ds μ R → s ds μ R) : ∀ vs H Q E, spD K s' vs H Q E → spD K s vs H Q E := fun vs H Q E ⟨S, μ, ds, R, a, b, c, d⟩ => ⟨S, μ, ds, R, a, b, h _ _ _ c, d⟩
theorem FnG.imp {P : Program} {w : World} {K : PySem.W.Frag} {mg : Str → Option Value} {base : Heap} {k : Nat} {x : Str} {s s' : GN} (F : FnG P w K mg base k x s) (h : ∀ ds μ R, s' ds μ R → s ds μ R) : FnG P w K mg base k x s' :=
  let ⟨f, fd, ps, a, b, c, d⟩ := F.ex; ⟨f, fd, ps, a.imp (spD_imp h), b, c, d⟩
theorem snd_sp {K : PySem.W.Frag} {s : GN} {E : XK} : SndN K (fun vs H Q => spD K s vs H Q E) s := fun S μ H xs dxs R Q k r q post => ⟨S, μ, dxs, R, k, r, q, post⟩
section
variable {X : Cx} {k : Nat} {x : Str} {s : GN} {e : Expr} {es : List Expr} {fa : RA} {fe : RX} {p pos p2 : Pos}
theorem de_call (F : FnG X.prog X.w X.K X.mg X.base k x s) (hr : Room k X.A) (hg : Gl X x) (ha : DA X (e :: es) fa) (hdb : (x == ("__debug__" : Str)) = false := by decide)
    (he : starEach (e :: es) X.env = (false, eval e X.env) :: starEach es X.env := by rfl) (hpl : (backTo pos (starEach es X.env)).any (·.1) = false := by rfl) : DE X (.Call (.Name x p) (e :: es) [] pos) (rCl s fa) := by
  obtain ⟨f, fd, ps, a, b, c, d⟩ := F.ex
  refine pe_imp (pe_call a hr hg b c d .nil pass0 ha hdb he hpl) fun σ H Q ⟨S, μ, ρ, R, k, e, h, post⟩ => ?_
  refine ⟨S, μ, ρ, _, k, e, h, fun S1 μ1 H1 vs ds k1 s1 r1 h1 => ?_⟩
  show spD X.K s (vs ++ []) H1 Q E0
  rw [List.append_nil]
  exact ⟨S1, μ1, ds, R, k1, r1, h1, fun S3 μ3 H3 v d k3 s3 r3 h3 => post S3 μ3 H3 v d k3 (s1.trans s3) r3 h3⟩
theorem de_call0 (F : FnG X.prog X.w X.K X.mg X.base k x s) (hr : Room k X.A) (hg : Gl X x) (hdb : (x == ("__debug__" : Str)) = false := by decide) : DE X (.Call (.Name x p) [] [] pos) (rCl s rNil) := by
  obtain ⟨f, fd, ps, a, b, c, d⟩ := F.ex
  refine pe_imp (pe_call0 a hr hg b c d .nil pass0 hdb) fun σ H Q ⟨S, μ, ρ, R, k, e, h, post⟩ => ?_
  exact ⟨S, μ, [], R, k, .nil, h, fun S3 μ3 H3 v d k3 s3 r3 h3 => post S3 μ3 H3 v d k3 s3 r3 h3⟩
end

/-! ### built-ins -/
section
variable {K : PySem.W.Frag} {X : Cx} {r : List V → Hp → VK → Prop} {g : GN} {id T : String} {x : Str} {e : Expr} {es : List Expr} {fa : RA} {p pos : Pos}
theorem de_callB (hc : CallR X (.builtin id) r) (s : SndN X.K r g) (hg : Gl X x) (hm : X.mg x = none) (hv : bootBuiltins x = some (.builtin id)) (ha : DA X (e :: es) fa) (hn : x ≠ "__name__" := by decide) (hdb : (x == ("__debug__" : Str)) = false := by decide)
    (he : starEach (e :: es) X.env = (false, eval e X.env) :: starEach es X.env := by rfl) (hpl : (backTo pos (starEach es X.env)).any (·.1) = false := by rfl) : DE X (.Call (.Name x p) (e :: es) [] pos) (rCl g fa) :=
  pe_imp (pe_callB hc hg hm hv ha hn hdb he hpl) (up_cl s)
theorem de_callTy (hc : CallR X (.type T) r) (s : SndN X.K r g) (hg : Gl X x) (hm : X.mg x = none) (hv : bootBuiltins x = some (.type T)) (ha : DA X (e :: es) fa) (hn : x ≠ "__name__" := by decide) (hdb : (x == ("__debug__" : Str)) = false := by decide)
    (he : starEach (e :: es) X.env = (false, eval e X.env) :: starEach es X.env := by rfl) (hpl : (backTo pos (starEach es X.env)).any (·.1) = false := by rfl) : DE X (.Call (.Name x p) (e :: es) [] pos) (rCl g fa) :=
  pe_imp (pe_callTy hc hg hm hv ha hn hdb he hpl) (up_cl s)
theorem reps1 {S : Hp} {xs : List V} {d : D} (r : Reps K S xs [d]) : ∃ v, xs = [v] ∧ Rep K S v d := by
  cases r with
  | cons h r => cases r; exact ⟨_, rfl, h⟩
theorem reps2 {S : Hp} {xs : List V} {d d2 : D} (r : Reps K S xs [d, d2]) : ∃ v w, xs = [v, w] ∧ Rep K S v d ∧ Rep K S w d2 := by
  cases r with
  | cons h r =>
    cases r with
    | cons h2 r => cases r; exact ⟨_, _, rfl, h, h2⟩
def gAbs : GN := fun ds μ R => match ds with
  | [.int i] => R (.int (if i < 0 then -i else i)) μ
  | _ => False
theorem snd_abs : SndN K (fun xs H Q => ∃ i, xs = [.int i] ∧ Q (.int (if i < 0 then -i else i)) H) gAbs := by
  intro S μ H xs dxs R Q k r q post
  unfold gAbs at q
  split at q
  · obtain ⟨v, rfl, r1⟩ := reps1 r
    cases r1.toInt
    exact ⟨_, rfl, post S μ H _ _ k .refl (.int _) q⟩
  · exact q.elim
def gLen : GN := fun ds μ R => match ds with
  | [d] => (match seqD (res μ d) with
    | some xs => R (.int xs.length) μ
    | none => False)
  | _ => False
theorem snd_len : SndN K (fun xs H Q => ∃ p ys, xs = [.ref p] ∧ (SqL K H p ys ∨ SqT K H p ys) ∧ Q (.int ys.length) H) gLen := by
  intro S μ H xs dxs R Q k r q post
  unfold gLen at q
  split at q
  · rename_i d
    obtain ⟨v, rfl, r1⟩ := reps1 r
    cases q1 : seqD (res μ d) with
    | none => rw [q1] at q; exact q.elim
    | some ds =>
      rw [q1] at q
      obtain ⟨p, vs, rfl, h1, r2⟩ := seq_rep k r1 q1
      exact ⟨p, vs, rfl, h1, post S μ H _ _ k .refl (by rw [r2.length]; exact .int _) q⟩
  · exact q.elim
/-- all(..), any(..) of a list of truth values -/
def bools : List D → Option (List Bool)
  | [] => some []
  | .bl b :: r => (bools r).map (b :: ·)
  | _ :: _ => none
theorem bools_rep {S : Hp} : ∀ {ds : List D} {vs : List V} {bs : List Bool}, Reps K S vs ds → bools ds = some bs → vs = bs.map V.bl
  | [], _, _, .nil, e => by cases e; rfl
  | .bl b :: r, _, bs, .cons h t, e => by
    unfold bools at e
    cases q : bools r with
    | none => rw [q] at e; cases e
    | some cs =>
      rw [q] at e
      cases e
      rw [h.toBl, bools_rep t q]
      rfl
  | .non :: r, _, bs, _, e => by cases e
  | .int _ :: r, _, bs, _, e => by cases e
  | .str _ :: r, _, bs, _, e => by cases e
  | .tup _ :: r, _, bs, _, e => by cases e
  | .lst _ :: r, _, bs, _, e => by cases e
  | .scr _ :: r, _, bs, _, e => by cases e
  | .ins _ _ :: r, _, bs, _, e => by cases e
  | .ref _ :: r, _, bs, _, e => by cases e
  | .ty _ :: r, _, bs, _, e => by cases e
def gAll : GN := fun ds μ R => match ds with
  | [d] => (match res μ d with
    | .lst xs => (match bools xs with
      | some bs => R (.bl (bs.all _root_.id)) μ
      | none => False)
    | _ => False)
  | _ => False
def gAny : GN := fun ds μ R => match ds with
  | [d] => (match res μ d with
    | .lst xs => (match bools xs with
      | some bs => R (.bl (bs.any _root_.id)) μ
      | none => False)
    | _ => False)
  | _ => False
theorem snd_all : SndN K (rAll K) gAll := by
  intro S μ H xs dxs R Q k r q post
  unfold gAll at q
  split at q
  · rename_i d
    obtain ⟨v, rfl, r1⟩ := reps1 r
    cases q1 : res μ d <;> rw [q1] at q <;> first | exact False.elim q | skip
    rename_i ds
    dsimp only at q
    cases q2 : bools ds with
    | none => rw [q2] at q; exact q.elim
    | some bs =>
      rw [q2] at q
      obtain ⟨p, vs, rfl, h1, r2⟩ := res_lst k r1 q1
      cases bools_rep r2 q2
      exact ⟨p, bs, rfl, .of h1, post S μ H _ _ k .refl (.bl _) q⟩
  · exact q.elim
theorem snd_any : SndN K (rAny K) gAny := by
  intro S μ H xs dxs R Q k r q post
  unfold gAny at q
  split at q
  · rename_i d
    obtain ⟨v, rfl, r1⟩ := reps1 r
    cases q1 : res μ d <;> rw [q1] at q <;> first | exact False.elim q | skip
    rename_i ds
    dsimp only at q
    cases q2 : bools ds with
    | none => rw [q2] at q; exact q.elim
    | some bs =>
      rw [q2] at q
      obtain ⟨p, vs, rfl, h1, r2⟩ := res_lst k r1 q1
      cases bools_rep r2 q2
      exact ⟨p, bs, rfl, .of h1, post S μ H _ _ k .refl (.bl _) q⟩
  · exact q.elim
/-- tuple(xs), list(xs) -/
def gTuple : GN := fun ds μ R => match ds with
  | [d] => (match seqD (res μ d) with
    | some xs => R (.tup xs) μ
    | none => False)
  | _ => False
theorem snd_tuple : SndN K (fun xs H Q => ∃ p ys, xs = [.ref p] ∧ ((SqL K H p ys ∧ ∀ l, H l = none → Q (.ref l) (upd H l (.tup ys))) ∨ (SqT K H p ys ∧ Q (.ref p) H))) gTuple := by
  intro S μ H xs dxs R Q k r q post
  unfold gTuple at q
  split at q
  · rename_i d
    obtain ⟨v, rfl, r1⟩ := reps1 r
    cases q0 : res μ d with
    | lst ds =>
      rw [q0] at q
      obtain ⟨p, vs, rfl, h1, r2⟩ := res_lst k r1 q0
      refine ⟨p, vs, rfl, .inl ⟨.of h1, fun l hl => ?_⟩⟩
      obtain ⟨k2, s2⟩ := k.alloc (o := .tup vs) hl
      exact post _ _ _ _ _ k2 s2 (.tup (.of upd_same) (r2.mono s2.same)) q
    | tup ds =>
      rw [q0] at q
      have z := res_tup r1 q0
      subst z
      obtain ⟨p, vs, rfl, a1, a2⟩ := r1.toTup
      exact ⟨p, vs, rfl, .inr ⟨sqT_same k.sub a1, post S μ H _ _ k .refl r1 q⟩⟩
    | _ => rw [q0] at q; exact q.elim
  · exact q.elim
def gList : GN := fun ds μ R => match ds with
  | [d] => (match seqD (res μ d) with
    | some xs => R (.lst xs) μ
    | none => False)
  | _ => False
def gListM : GN := fun ds μ R => match ds with
  | [d] => (match seqD (res μ d) with
    | some xs => ∀ p, μ p = none → R (.ref p) (updM μ p (.lst xs))
    | none => False)
  | _ => False
abbrev rListOf (K : PySem.W.Frag) : List V → Hp → VK → Prop := fun xs H Q => ∃ p ys, xs = [.ref p] ∧ (SqL K H p ys ∨ SqT K H p ys) ∧ ∀ l, H l = none → Q (.ref l) (upd H l (.lst ys))
theorem snd_list : SndN K (rListOf K) gList := by
  intro S μ H xs dxs R Q k r q post
  unfold gList at q
  split at q
  · rename_i d
    obtain ⟨v, rfl, r1⟩ := reps1 r
    cases q1 : seqD (res μ d) with
    | none => rw [q1] at q; exact q.elim
    | some ds =>
      rw [q1] at q
      obtain ⟨p, vs, rfl, h1, r2⟩ := seq_rep k r1 q1
      refine ⟨p, vs, rfl, h1, fun l hl => ?_⟩
      obtain ⟨k2, s2⟩ := k.alloc (o := .lst vs) hl
      exact post _ _ _ _ _ k2 s2 (.lst upd_same (r2.mono s2.same)) q
  · exact q.elim
theorem snd_listM : SndN K (rListOf K) gListM := by
  intro S μ H xs dxs R Q k r q post
  unfold gListM at q
  split at q
  · rename_i d
    obtain ⟨v, rfl, r1⟩ := reps1 r
    cases q1 : seqD (res μ d) with
    | none => rw [q1] at q; exact q.elim
    | some ds =>
      rw [q1] at q
      obtain ⟨p, vs, rfl, h1, r2⟩ := seq_rep k r1 q1
      refine ⟨p, vs, rfl, h1, fun l hl => ?_⟩
      obtain ⟨k2, s2⟩ := k.newM hl r2
      exact post _ _ _ _ _ k2 s2 (.ref l) (q l (k.free hl).2)
  · exact q.elim
/-- isinstance(x, T), T a built-in class -/
def isiD (T : String) : D → Option Bool
  | .non => some false
  | .bl _ => some (T == "bool" || T == "int")
  | .int _ => some (T == "int")
  | .str _ => some (T == "str")
  | .tup _ => some (T == "tuple")
  | .lst _ => some (T == "list")
  | _ => none
def tyOK (T : String) : Bool := T == "bool" || T == "int" || T == "str" || T == "tuple" || T == "list"
def gIsi : GN := fun ds μ R => match ds with
  | [d, .ty T] => tyOK T = true ∧ (match isiD T (res μ d) with
    | some b => R (.bl b) μ
    | none => False)
  | _ => False
theorem sqT_ty {H : Hp} {a : Addr} {xs : List V} (h : SqT K H a xs) : TyX K H (.ref a) (.type "tuple") := by
  rcases h with (h | ⟨o, h⟩) | ⟨o, its, n, e, c, _⟩
  · exact .base (.tup h)
  · exact .fTuple h
  · exact .kTuple e c
theorem snd_isi : SndN K (rIsi K) gIsi := by
  intro S μ H xs dxs R Q k r q post
  unfold gIsi at q
  split at q
  · rename_i d T
    obtain ⟨v, w, rfl, r1, r2⟩ := reps2 r
    obtain ⟨ht, q⟩ := q
    cases r2
    have kk : ∀ t : String, (t = "NoneType" ∨ t = "bool" ∨ t = "int" ∨ t = "str" ∨ t = "tuple" ∨ t = "list") → kitB t T = some (t == T || (t == "bool" && T == "int")) := by
      intro t h
      unfold tyOK at ht
      simp only [Bool.or_eq_true, beq_iff_eq] at ht
      rcases ht with (((rfl | rfl) | rfl) | rfl) | rfl <;> rcases h with rfl | rfl | rfl | rfl | rfl | rfl <;> decide +kernel
    have fin : ∀ (t : String) (b : Bool), TyX K H v (.type t) → (t = "NoneType" ∨ t = "bool" ∨ t = "int" ∨ t = "str" ∨ t = "tuple" ∨ t = "list") → (t == T || (t == "bool" && T == "int")) = b → R (.bl b) μ → rIsi K [v, .ty T] H Q := fun t b h1 h2 h3 h4 =>
      ⟨v, .ty T, .type t, .type T, b, rfl, .ty T, h1, kit_ty (by rw [kk t h2, h3]), post S μ H _ _ k .refl (.bl _) h4⟩
    cases q0 : res μ d with
    | lst ds =>
      rw [q0] at q
      obtain ⟨p, vs, rfl, h1, _⟩ := res_lst k r1 q0
      exact fin "list" _ (.base (.lst h1)) (by simp) (by rw [show ("list" == "bool") = false by decide, Bool.false_and, Bool.or_false]; exact Bool.beq_comm) q
    | tup ds =>
      rw [q0] at q
      have z := res_tup r1 q0
      subst z
      obtain ⟨p, vs, rfl, a1, a2⟩ := r1.toTup
      exact fin "tuple" _ (sqT_ty (sqT_same k.sub a1)) (by simp) (by rw [show ("tuple" == "bool") = false by decide, Bool.false_and, Bool.or_false]; exact Bool.beq_comm) q
    | non =>
      have z : d = .non := by
        cases d with
        | ref a =>
          unfold res at q0
          dsimp only at q0
          cases w : μ a with
          | none => rw [w] at q0; cases q0
          | some m => rw [w] at q0; cases m <;> cases q0
        | _ => exact q0
      subst z
      cases r1.toNon
      rw [q0] at q
      refine fin "NoneType" _ (.base .non) (by simp) ?_ q
      unfold tyOK at ht
      simp only [Bool.or_eq_true, beq_iff_eq] at ht
      rcases ht with (((rfl | rfl) | rfl) | rfl) | rfl <;> decide
    | bl b =>
      have z : d = .bl b := by
        cases d with
        | ref a =>
          unfold res at q0
          dsimp only at q0
          cases w : μ a with
          | none => rw [w] at q0; cases q0
          | some m => rw [w] at q0; cases m <;> cases q0
        | _ => exact q0
      subst z
      cases r1.toBl
      rw [q0] at q
      refine fin "bool" _ (.base (.bl _)) (by simp) ?_ q
      unfold tyOK at ht
      simp only [Bool.or_eq_true, beq_iff_eq] at ht
      rcases ht with (((rfl | rfl) | rfl) | rfl) | rfl <;> decide
    | int b =>
      have z : d = .int b := by
        cases d with
        | ref a =>
          unfold res at q0
          dsimp only at q0
          cases w : μ a with
          | none => rw [w] at q0; cases q0
          | some m => rw [w] at q0; cases m <;> cases q0
        | _ => exact q0
      subst z
      cases r1.toInt
      rw [q0] at q
      exact fin "int" _ (.base (.int _)) (by simp) (by rw [show ("int" == "bool") = false by decide, Bool.false_and, Bool.or_false]; exact Bool.beq_comm) q
    | str b =>
      have z : d = .str b := by
        cases d with
        | ref a =>
          unfold res at q0
          dsimp only at q0
          cases w : μ a with
          | none => rw [w] at q0; cases q0
          | some m => rw [w] at q0; cases m <;> cases q0
        | _ => exact q0
      subst z
      cases r1.toStr
      rw [q0] at q
      exact fin "str" _ (.base (.str _)) (by simp) (by rw [show ("str" == "bool") = false by decide, Bool.false_and, Bool.or_false]; exact Bool.beq_comm) q
    | _ => rw [q0] at q; exact q.elim
  · exact q.elim
end
section
variable {X : Cx} {e e2 : Expr} {fa : RA} {p pos : Pos}
theorem de_abs (hg : Gl X "abs") (hm : X.mg "abs" = none) (ha : DA X [e] fa) (he : starEach [e] X.env = (false, eval e X.env) :: starEach [] X.env := by rfl) : DE X (.Call (.Name "abs" p) [e] [] pos) (rCl gAbs fa) := de_callB call_abs snd_abs hg hm (by decide +kernel) ha (he := he)
theorem de_len (hg : Gl X "len") (hm : X.mg "len" = none) (ha : DA X [e] fa) (he : starEach [e] X.env = (false, eval e X.env) :: starEach [] X.env := by rfl) : DE X (.Call (.Name "len" p) [e] [] pos) (rCl gLen fa) := de_callB call_len_seq snd_len hg hm (by decide +kernel) ha (he := he)
theorem de_all (hg : Gl X "all") (hm : X.mg "all" = none) (ha : DA X [e] fa) (hc : X.calm = true := by rfl) (he : starEach [e] X.env = (false, eval e X.env) :: starEach [] X.env := by rfl) : DE X (.Call (.Name "all" p) [e] [] pos) (rCl gAll fa) := de_callB (cr_all hc) snd_all hg hm (by decide +kernel) ha (he := he)
theorem de_any (hg : Gl X "any") (hm : X.mg "any" = none) (ha : DA X [e] fa) (hc : X.calm = true := by rfl) (he : starEach [e] X.env = (false, eval e X.env) :: starEach [] X.env := by rfl) : DE X (.Call (.Name "any" p) [e] [] pos) (rCl gAny fa) := de_callB (cr_any hc) snd_any hg hm (by decide +kernel) ha (he := he)
theorem de_isi (hg : Gl X "isinstance") (hm : X.mg "isinstance" = none) (ha : DA X [e, e2] fa) (he : starEach [e, e2] X.env = (false, eval e X.env) :: starEach [e2] X.env := by rfl) (hpl : (backTo pos (starEach [e2] X.env)).any (·.1) = false := by rfl) :
    DE X (.Call (.Name "isinstance" p) [e, e2] [] pos) (rCl gIsi fa) := de_callB call_isi snd_isi hg hm (by decide +kernel) ha (he := he) (hpl := hpl)
theorem de_tuple (hg : Gl X "tuple") (hm : X.mg "tuple" = none) (ha : DA X [e] fa) (he : starEach [e] X.env = (false, eval e X.env) :: starEach [] X.env := by rfl) : DE X (.Call (.Name "tuple" p) [e] [] pos) (rCl gTuple fa) := de_callTy call_tuple_of snd_tuple hg hm (by decide +kernel) ha (he := he)
theorem de_list (hg : Gl X "list") (hm : X.mg "list" = none) (ha : DA X [e] fa) (he : starEach [e] X.env = (false, eval e X.env) :: starEach [] X.env := by rfl) : DE X (.Call (.Name "list" p) [e] [] pos) (rCl gList fa) := de_callTy call_list_of snd_list hg hm (by decide +kernel) ha (he := he)
theorem de_listM (hg : Gl X "list") (hm : X.mg "list" = none) (ha : DA X [e] fa) (he : starEach [e] X.env = (false, eval e X.env) :: starEach [] X.env := by rfl) : DE X (.Call (.Name "list" p) [e] [] pos) (rCl gListM fa) := de_callTy call_list_of snd_listM hg hm (by decide +kernel) ha (he := he)
end
end L3

/-! ## L3d -/
set_option Elab.async false
set_option linter.all false
set_option maxRecDepth 100000
set_option maxHeartbeats 4000000
namespace L3
open PySem PySem.Spec PyProof.Rows L2

/-! ### instances -/
/-- an instance: data, or a changeable one -/
def insD (μ : MH) : D → Option (Addr × List (Str × D))
  | .ins C fs => some (C, fs)
  | .ref p => (match μ p with
    | some (.ins C fs) => some (C, fs)
    | _ => none)
  | _ => none
theorem insD_rep {K : PySem.W.Frag} {S H : Hp} {μ : MH} {v : V} {d : D} {C : Addr} {fs : List (Str × D)} (k : OK K S μ H) (r : Rep K S v d) (e : insD μ d = some (C, fs)) : ∃ a dx vfs, v = .ref a ∧ H a = some (.ins C dx vfs) ∧ RepF K S vfs fs := by
  cases r with
  | ins h r => cases e; exact ⟨_, _, _, rfl, k.sub _ _ h, r⟩
  | ref p =>
    unfold insD at e
    dsimp only at e
    cases q : μ p with
    | none => rw [q] at e; cases e
    | some m =>
      rw [q] at e
      cases m with
      | lst ds => cases e
      | ins C' fs' =>
        cases e
        obtain ⟨_, dx, vfs, h, r⟩ := k.mts p _ q
        exact ⟨p, dx, vfs, rfl, h, r⟩
  | _ => cases e
def rFld (C : Addr) (f : Str) (fo : RX) : RX := fun ρ μ R => fo ρ μ fun d μ1 => match insD μ1 d with
  | some (C', fs) => C' = C ∧ (match fs.lookup f with
    | some z => R z μ1
    | none => False)
  | none => False
def rMeth (C : Addr) (m : Str) (s : GN) (fo : RX) (fa : RA) : RX := fun ρ μ R => fo ρ μ fun d μ1 => match insD μ1 d with
  | some (C', fs) => C' = C ∧ fs.lookup m = none ∧ fa ρ μ1 fun ds μ2 => s (d :: ds) μ2 R
  | none => False
/-- a property, a call of an instance: s of the instance and the arguments -/
def rOwn (C : Addr) (s : GN) (fo : RX) (fa : RA) : RX := fun ρ μ R => fo ρ μ fun d μ1 => match insD μ1 d with
  | some (C', _) => C' = C ∧ fa ρ μ1 fun ds μ2 => (insD μ2 d).map (·.1) = some C ∧ s (d :: ds) μ2 R
  | none => False
/-- the class at C: the def f of it keeps s -/
structure MtG (P : Program) (w : World) (K : PySem.W.Frag) (mg : Str → Option Value) (base : Heap) (k : Nat) (C f : Addr) (s : GN) : Prop where
  ex : ∃ fd ps, FnOk P w K mg base CX0 k f fd ps (spD K s) ∧ Binds K fd ps []
theorem MtG.raw {P : Program} {w : World} {K : PySem.W.Frag} {mg : Str → Option Value} {base : Heap} {k : Nat} {C f : Addr} {s : GN} (F : MtG P w K mg base k C f s) : FnR P w K mg base CX0 k f (spD K s) := by
  obtain ⟨fd, ps, a, b⟩ := F.ex
  have z := a.raw b (dvs := []) .nil
  simp only [List.append_nil] at z
  exact z
theorem MtG.imp {P : Program} {w : World} {K : PySem.W.Frag} {mg : Str → Option Value} {base : Heap} {k : Nat} {C f : Addr} {s s' : GN} (F : MtG P w K mg base k C f s) (h : ∀ ds μ R, s' ds μ R → s ds μ R) : MtG P w K mg base k C f s' :=
  let ⟨fd, ps, a, d⟩ := F.ex; ⟨fd, ps, a.imp (spD_imp h), d⟩
section
variable {X : Cx} {k : Nat} {C g pr : Addr} {f m : Str} {s : GN} {e o : Expr} {es : List Expr} {fo : RX} {fa : RA} {p pos apos : Pos}
theorem de_fld (he : DE X e fo) (c : Cls X.K C) (n : NoAttr X.K C f) (hb : attributeBase e f X.env (eval e X.env) = eval e X.env := by rfl) : DE X (.Attribute e f pos) (rFld C f fo) := pe_imp (pe_fld he hb) fun σ H Q ⟨S, μ, ρ, R, k, e, h, post⟩ => by
  refine ⟨S, μ, ρ, _, k, e, h, fun S1 μ1 H1 v1 d1 k1 s1 r1 h1 => ?_⟩
  cases q : insD μ1 d1 with
  | none => rw [q] at h1; exact h1.elim
  | some z =>
    obtain ⟨C', fs⟩ := z
    rw [q] at h1
    obtain ⟨rfl, h1⟩ := h1
    cases q2 : fs.lookup f with
    | none => rw [q2] at h1; exact h1.elim
    | some d =>
      rw [q2] at h1
      obtain ⟨a, dx, vfs, rfl, e1, r2⟩ := insD_rep k1 r1 q
      obtain ⟨v, e2, r3⟩ := r2.lookup q2
      exact ⟨a, C', dx, vfs, v, rfl, e1, c, n, e2, post S1 μ1 H1 v d k1 s1 r3 h1⟩
theorem de_meth {pl : Sem Bool} (F : MtG X.prog X.w X.K X.mg X.base k C g s) (hr : Room k X.A) (c : Cls X.K C) (hm : Meth X.K C m g) (ho : DE X o fo) (ha : DA X (e :: es) fa)
    (hst : starEach (e :: es) X.env = (false, eval e X.env) :: starEach es X.env := by rfl) (hpl : (backTo pos (starEach es X.env)).any (·.1) = false := by rfl)
    (ht : eval (.Call (.Attribute o m apos) (e :: es) [] pos) X.env = (do
      let ov ← eval o X.env
      standAt apos.atName
      let (f, first) ← holding [ov] (getMethod ov m pl)
      callWith pos f first (backTo pos (starEach (e :: es) X.env)) (backToKw pos (keywordEach [] X.env))) := by rfl) :
    DE X (.Call (.Attribute o m apos) (e :: es) [] pos) (rMeth C m s fo fa) := by
  obtain ⟨fd, ps, a, b⟩ := F.ex
  refine pe_imp (pe_meth (pl := pl) ho c hm a hr b .nil pass0 ha hst hpl ht) fun σ H Q ⟨S, μ, ρ, R, k, e, h, post⟩ => ?_
  refine ⟨S, μ, ρ, _, k, e, h, fun S1 μ1 H1 v1 d1 k1 s1 r1 h1 => ?_⟩
  cases q : insD μ1 d1 with
  | none => rw [q] at h1; exact h1.elim
  | some z =>
    obtain ⟨C', fs⟩ := z
    rw [q] at h1
    obtain ⟨rfl, hl, h1⟩ := h1
    obtain ⟨a, dx, vfs, rfl, e1, r2⟩ := insD_rep k1 r1 q
    refine ⟨a, dx, vfs, rfl, e1, r2.lookup_none hl, S1, μ1, ρ, _, k1, e.mono s1.same, h1, fun S2 μ2 H2 vs ds k2 s2 r3 h3 => ?_⟩
    show spD X.K s (V.ref a :: (vs ++ [])) H2 Q E0
    rw [List.append_nil]
    exact ⟨S2, μ2, d1 :: ds, R, k2, .cons (r1.mono s2.same) r3, h3, fun S3 μ3 H3 v d k3 s3 r3 h3 => post S3 μ3 H3 v d k3 ((s1.trans s2).trans s3) r3 h3⟩
theorem de_meth0 {pl : Sem Bool} (F : MtG X.prog X.w X.K X.mg X.base k C g s) (hr : Room k X.A) (c : Cls X.K C) (hm : Meth X.K C m g) (ho : DE X o fo)
    (ht : eval (.Call (.Attribute o m apos) [] [] pos) X.env = (do
      let ov ← eval o X.env
      standAt apos.atName
      let (f, first) ← holding [ov] (getMethod ov m pl)
      callWith pos f first (backTo pos (starEach [] X.env)) (backToKw pos (keywordEach [] X.env))) := by rfl) :
    DE X (.Call (.Attribute o m apos) [] [] pos) (rMeth C m s fo rNil) := by
  obtain ⟨fd, ps, a, b⟩ := F.ex
  refine pe_imp (pe_meth0 (pl := pl) ho c hm a hr b .nil pass0 ht) fun σ H Q ⟨S, μ, ρ, R, k, e, h, post⟩ => ?_
  refine ⟨S, μ, ρ, _, k, e, h, fun S1 μ1 H1 v1 d1 k1 s1 r1 h1 => ?_⟩
  cases q : insD μ1 d1 with
  | none => rw [q] at h1; exact h1.elim
  | some z =>
    obtain ⟨C', fs⟩ := z
    rw [q] at h1
    obtain ⟨rfl, hl, h1⟩ := h1
    obtain ⟨a, dx, vfs, rfl, e1, r2⟩ := insD_rep k1 r1 q
    exact ⟨a, dx, vfs, rfl, e1, r2.lookup_none hl, S1, μ1, [d1], R, k1, .cons r1 .nil, h1, fun S3 μ3 H3 v d k3 s3 r3 h3 => post S3 μ3 H3 v d k3 (s1.trans s3) r3 h3⟩
theorem de_prop (F : MtG X.prog X.w X.K X.mg X.base k C g s) (hr : Room (k + 1) X.A) (c : Cls X.K C) (hp : PropOf X.K C f pr g) (ho : DE X e fo) (hab : attributeBase e f X.env (eval e X.env) = eval e X.env := by rfl) : DE X (.Attribute e f pos) (rOwn C s fo rNil) := by
  obtain ⟨fd, ps, a, b⟩ := F.ex
  refine pe_imp (pe_prop ho c hp a hr b .nil pass0 hab) fun σ H Q ⟨S, μ, ρ, R, k, e, h, post⟩ => ?_
  refine ⟨S, μ, ρ, _, k, e, h, fun S1 μ1 H1 v1 d1 k1 s1 r1 h1 => ?_⟩
  cases q : insD μ1 d1 with
  | none => rw [q] at h1; exact h1.elim
  | some z =>
    obtain ⟨C', fs⟩ := z
    rw [q] at h1
    obtain ⟨rfl, _, h1⟩ := h1
    obtain ⟨a, dx, vfs, rfl, e1, r2⟩ := insD_rep k1 r1 q
    exact ⟨a, dx, vfs, rfl, e1, S1, μ1, [d1], R, k1, .cons r1 .nil, h1, fun S3 μ3 H3 v d k3 s3 r3 h3 => post S3 μ3 H3 v d k3 (s1.trans s3) r3 h3⟩
theorem de_callO (F : MtG X.prog X.w X.K X.mg X.base k C g s) (hr : Room k X.A) (c : StX.CallO X.K C g) (ho : DE X o fo) (ha : DA X (e :: es) fa)
    (ht : eval (.Call o (e :: es) [] pos) X.env = (do callWith pos (← eval o X.env) [] (backTo pos (starEach (e :: es) X.env)) (backToKw pos (keywordEach [] X.env))) := by rfl)
    (he : starEach (e :: es) X.env = (false, eval e X.env) :: starEach es X.env := by rfl) (hpl : (backTo pos (starEach es X.env)).any (·.1) = false := by rfl) : DE X (.Call o (e :: es) [] pos) (rOwn C s fo fa) := by
  refine pe_imp (StX.pe_callO ho c F.raw hr pass0 ha ht he hpl) fun σ H Q ⟨S, μ, ρ, R, k, e, h, post⟩ => ?_
  refine ⟨S, μ, ρ, _, k, e, h, fun S1 μ1 H1 v1 d1 k1 s1 r1 h1 => ?_⟩
  cases q : insD μ1 d1 with
  | none => rw [q] at h1; exact h1.elim
  | some z =>
    obtain ⟨C', fs⟩ := z
    rw [q] at h1
    obtain ⟨rfl, h1⟩ := h1
    obtain ⟨a, dx, vfs, rfl, e1, r2⟩ := insD_rep k1 r1 q
    refine ⟨a, rfl, S1, μ1, ρ, _, k1, e.mono s1.same, h1, fun S2 μ2 H2 vs ds k2 s2 r3 h3 => ?_⟩
    obtain ⟨h3, h4⟩ := h3
    refine ⟨.inr ?_, S2, μ2, d1 :: ds, R, k2, .cons (r1.mono s2.same) r3, h4, fun S3 μ3 H3 v d k3 s3 r3 h3 => post S3 μ3 H3 v d k3 ((s1.trans s2).trans s3) r3 h3⟩
    cases q2 : insD μ2 d1 with
    | none => rw [q2] at h3; cases h3
    | some z =>
      obtain ⟨C2, fs2⟩ := z
      rw [q2] at h3
      have h3 : C2 = C' := Option.some.inj h3
      subst h3
      obtain ⟨a2, dx2, vfs2, e5, e6, _⟩ := insD_rep k2 (r1.mono s2.same) q2
      cases e5
      exact ⟨dx2, vfs2, e6⟩
end

/-! ### a new instance -/
/-- s: __init__'s; behind it the instance is data -/
def gMake (C : Addr) (s : GN) : GN := fun ds μ R => ∀ x, μ x = none → s (.ref x :: ds) (updM μ x (.ins C [])) fun v μ2 => v = .non ∧ (match μ2 x with
  | some (.ins C' fs) => R (.ins C' fs) (delM μ2 x)
  | _ => False)
/-- behind it the instance may still change -/
def gMakeM (C : Addr) (s : GN) : GN := fun ds μ R => ∀ x, μ x = none → s (.ref x :: ds) (updM μ x (.ins C [])) fun v μ2 => v = .non ∧ R (.ref x) μ2
section
variable {K : PySem.W.Frag} {S H : Hp} {μ : MH} {C : Addr} {s : GN}
theorem OK.newI {x dx : Addr} (k : OK K S μ H) (hx : H x = none) (hd : H dx = none) (hn : dx ≠ x) :
    OK K S (updM μ x (.ins C [])) (upd (upd H dx (.own x)) x (.ins C dx [])) ∧ Stp S μ H S (updM μ x (.ins C [])) (upd (upd H dx (.own x)) x (.ins C dx [])) := by
  have k1 := k.hide (o := .own x) hd
  have hx1 : upd H dx (.own x) x = none := by rw [upd_ne hn.symm]; exact hx
  obtain ⟨hS, hM⟩ := k1.free hx1
  refine ⟨k1.put hS ⟨dx, [], upd_same, .nil⟩, fun _ _ h => h, fun _ _ h => .inl h, fun b o e _ => ?_, fun b m e => ?_⟩
  · rw [upd_ne (ne_of_none e hx), upd_ne (ne_of_none e hd)]; exact e
  · by_cases q : b = x
    · exact .inl (q ▸ hx)
    · rw [updM_ne q] at e; exact .inr ⟨m, e⟩
theorem make_snd {R : D → MH → Prop} {Q : VK} {vs : List V} {ds : List D} {x dx : Addr} {E : XK} (k : OK K S μ H) (r : Reps K S vs ds) (q : gMake C s ds μ R) (post : Pst K S μ H R Q) (hx : H x = none) (hd : H dx = none) (hn : dx ≠ x) :
    spD K s (.ref x :: vs) (upd (upd H dx (.own x)) x (.ins C dx [])) (fun v H2 => v = .non ∧ Q (.ref x) H2) E := by
  obtain ⟨k1, s1⟩ := k.newI (C := C) hx hd hn
  refine ⟨S, _, .ref x :: ds, _, k1, .cons (.ref x) r, q x (k.free hx).2, fun S2 μ2 H2 v d k2 s2 r2 h2 => ?_⟩
  obtain ⟨rfl, h2⟩ := h2
  refine ⟨r2.toNon, ?_⟩
  cases e : μ2 x with
  | none => rw [e] at h2; exact h2.elim
  | some m =>
    cases m with
    | lst _ => rw [e] at h2; exact h2.elim
    | ins C' fs =>
      rw [e] at h2
      obtain ⟨_, dx', vfs, e2, r3⟩ := k2.mts x _ e
      obtain ⟨k3, s3⟩ := k2.freeze e e2
      exact post _ _ _ _ _ k3 ((s1.trans s2).trans s3) (.ins upd_same (r3.mono s3.same)) h2
theorem make_sndM {R : D → MH → Prop} {Q : VK} {vs : List V} {ds : List D} {x dx : Addr} {E : XK} (k : OK K S μ H) (r : Reps K S vs ds) (q : gMakeM C s ds μ R) (post : Pst K S μ H R Q) (hx : H x = none) (hd : H dx = none) (hn : dx ≠ x) :
    spD K s (.ref x :: vs) (upd (upd H dx (.own x)) x (.ins C dx [])) (fun v H2 => v = .non ∧ Q (.ref x) H2) E := by
  obtain ⟨k1, s1⟩ := k.newI (C := C) hx hd hn
  refine ⟨S, _, .ref x :: ds, _, k1, .cons (.ref x) r, q x (k.free hx).2, fun S2 μ2 H2 v d k2 s2 r2 h2 => ?_⟩
  obtain ⟨rfl, h2⟩ := h2
  exact ⟨r2.toNon, post _ _ _ _ _ k2 (s1.trans s2) (.ref x) h2⟩
end
/-- keywords' values -/
def upK (K : PySem.W.Frag) (f : RA) : TA := upA K f
abbrev DK (X : Cx) (kws : List Keyword) (f : RA) : Prop := PK X kws (upA X.K f)
/-- the class x: g, what making it from all parameters' values asks; n: how many of the call's are positional, kw: the others' order -/
structure MkG (P : Program) (w : World) (K : PySem.W.Frag) (mg : Str → Option Value) (base : Heap) (k : Nat) (x : Str) (C : Addr) (s : GN) : Prop where
  ex : ∃ f fd ps, FnOk P w K mg base CX0 k f fd ps (spD K s) ∧ mg x = some (.ref C) ∧ Mk K C f ∧ Binds K fd ps []
def rMakeK (g : GN) (n m : Nat) (gD : List D → List D → List D) (fa fk : RA) : RX := fun ρ μ R => fa ρ μ fun ds μ1 => fk ρ μ1 fun zs μ2 => ds.length = n ∧ zs.length = m ∧ g (gD ds zs) μ2 R
section
variable {X : Cx} {k n : Nat} {C f : Addr} {x : Str} {fd : FuncData} {ps ks : List Str} {s : GN} {e : Expr} {es : List Expr} {kws : List Keyword} {fe : RX} {fa fk : RA} {p pos kpos : Pos} {nm : Option Str}
theorem dk_nil : DK X [] rNil := ⟨fun pos pins s σ H Q I ⟨S, μ, ρ, R, k, e, h, post⟩ => pk_nil.run pos pins s σ H Q I (post S μ H [] [] k .refl .nil h)⟩
theorem dk_cons (ha : DE X e fe) (hr : DK X kws fa) : DK X (⟨nm, e, kpos⟩ :: kws) (rCons fe fa) := ⟨fun pos pins s σ H Q I ⟨S, μ, ρ, R, k, e, h, post⟩ => (pk_cons ha hr).run pos pins s σ H Q I (by
  refine ⟨S, μ, ρ, _, k, e, h, fun S1 μ1 H1 v1 d1 k1 s1 r1 h1 => ?_⟩
  exact ⟨S1, μ1, ρ, _, k1, e.mono s1.same, h1, fun S2 μ2 H2 vs ds k2 s2 r2 h2 => post S2 μ2 H2 _ _ k2 (s1.trans s2) (.cons (r1.mono s2.same) r2) h2⟩)⟩
/-- C(e, ..) with every parameter given -/
theorem de_make (F : MkG X.prog X.w X.K X.mg X.base k x C s) (hr : Room (k + 1) X.A) (hg : Gl X x) (ha : DA X (e :: es) fa) (hdb : (x == ("__debug__" : Str)) = false := by decide)
    (he : starEach (e :: es) X.env = (false, eval e X.env) :: starEach es X.env := by rfl) (hpl : (backTo pos (starEach es X.env)).any (·.1) = false := by rfl) : DE X (.Call (.Name x p) (e :: es) [] pos) (rCl (gMake C s) fa) := by
  obtain ⟨f, fd, ps, a, b, c, d⟩ := F.ex
  refine pe_imp (pe_make c a hr hg b d .nil pass0 ha hdb he hpl) fun σ H Q ⟨S, μ, ρ, R, k, e, h, post⟩ => ?_
  refine ⟨S, μ, ρ, _, k, e, h, fun S1 μ1 H1 vs ds k1 s1 r1 h1 y dx hx hd hn => ?_⟩
  have en : vs ++ [] = vs := List.append_nil vs
  rw [en]
  exact make_snd k1 r1 h1 (fun S3 μ3 H3 v d k3 s3 r3 h3 => post S3 μ3 H3 v d k3 (s1.trans s3) r3 h3) hx hd hn
theorem de_makeM (F : MkG X.prog X.w X.K X.mg X.base k x C s) (hr : Room (k + 1) X.A) (hg : Gl X x) (ha : DA X (e :: es) fa) (hdb : (x == ("__debug__" : Str)) = false := by decide)
    (he : starEach (e :: es) X.env = (false, eval e X.env) :: starEach es X.env := by rfl) (hpl : (backTo pos (starEach es X.env)).any (·.1) = false := by rfl) : DE X (.Call (.Name x p) (e :: es) [] pos) (rCl (gMakeM C s) fa) := by
  obtain ⟨f, fd, ps, a, b, c, d⟩ := F.ex
  refine pe_imp (pe_make c a hr hg b d .nil pass0 ha hdb he hpl) fun σ H Q ⟨S, μ, ρ, R, k, e, h, post⟩ => ?_
  refine ⟨S, μ, ρ, _, k, e, h, fun S1 μ1 H1 vs ds k1 s1 r1 h1 y dx hx hd hn => ?_⟩
  have en : vs ++ [] = vs := List.append_nil vs
  rw [en]
  exact make_sndM k1 r1 h1 (fun S3 μ3 H3 v d k3 s3 r3 h3 => post S3 μ3 H3 v d k3 (s1.trans s3) r3 h3) hx hd hn
/-- how a keyword call of a class binds: dw, the defaults' values that fill up -/
structure MkK (P : Program) (w : World) (K : PySem.W.Frag) (mg : Str → Option Value) (base : Heap) (k : Nat) (x : Str) (C : Addr) (s : GN) (n : Nat) (ks : List Str) (gD : List D → List D → List D) : Prop where
  ex : ∃ f fd ps g gV, FnOk P w K mg base CX0 k f fd ps (spD K s) ∧ mg x = some (.ref C) ∧ Mk K C f ∧ KBn K fd ps (n + 1) ks g gV ∧
    ∀ (y : V) (b : D) (vs zs : List V) (ds es : List D) (S : Hp), Rep K S y b → Reps K S vs ds → Reps K S zs es → Reps K S (gV (y :: vs) zs) (b :: gD ds es)
theorem de_makeK {m : Nat} {gD : List D → List D → List D} (F : MkK X.prog X.w X.K X.mg X.base k x C s n ks gD) (hr : Room (k + 1) X.A) (hg : Gl X x) (ha : DA X (e :: es) fa) (hkw : DK X kws fk)
    (hall : (backToKw pos (keywordEach kws X.env)).all (·.1.isSome) = true := by rfl) (hks : (backToKw pos (keywordEach kws X.env)).filterMap (·.1) = ks := by rfl) (hdb : (x == ("__debug__" : Str)) = false := by decide)
    (he : starEach (e :: es) X.env = (false, eval e X.env) :: starEach es X.env := by rfl) (hpl : ((backTo pos (starEach (e :: es) X.env)).any (·.1) || (backToKw pos (keywordEach kws X.env)).any (·.1.isNone)) = false := by rfl) (hm : ks.length = m := by rfl) :
    DE X (.Call (.Name x p) (e :: es) kws pos) (rMakeK (gMake C s) n m gD fa fk) := by
  subst hm
  obtain ⟨f, fd, ps, g, gV, a, b, c, d, rel⟩ := F.ex
  refine pe_imp (pe_makeK c a hr hg b d pass0 ha hkw hall hks hdb he hpl) fun σ H Q ⟨S, μ, ρ, R, k, e, h, post⟩ => ?_
  refine ⟨S, μ, ρ, _, k, e, h, fun S1 μ1 H1 vs ds k1 s1 r1 h1 => ?_⟩
  refine ⟨S1, μ1, ρ, _, k1, e.mono s1.same, h1, fun S2 μ2 H2 zs es k2 s2 r2 h2 => ?_⟩
  obtain ⟨l1, l2, h2⟩ := h2
  refine ⟨by rw [r1.length]; exact l1, by rw [r2.length]; exact l2, fun y dx hx hd hn => ?_⟩
  obtain ⟨k3, s3⟩ := k2.newI (C := C) hx hd hn
  have z := rel (.ref y) (.ref y) vs zs ds es S2 (.ref y) (r1.mono s2.same) r2
  refine ⟨S2, _, _, _, k3, z, h2 y (k2.free hx).2, fun S4 μ4 H4 v d k4 s4 r4 h4 => ?_⟩
  obtain ⟨rfl, h4⟩ := h4
  refine ⟨r4.toNon, ?_⟩
  cases e : μ4 y with
  | none => rw [e] at h4; exact h4.elim
  | some m =>
    cases m with
    | lst _ => rw [e] at h4; exact h4.elim
    | ins C' fs =>
      rw [e] at h4
      obtain ⟨_, dx', vfs, e2, r3⟩ := k4.mts y _ e
      obtain ⟨k5, s5⟩ := k4.freeze e e2
      exact post _ _ _ _ _ k5 (((s1.trans s2).trans s3).trans (s4.trans s5)) (.ins upd_same (r3.mono s5.same)) h4
end

/-! ### own operators -/
def gOwn2 (C : Addr) (s : GN) : G2 := fun x y μ R => (insD μ x).map (·.1) = some C ∧ (insD μ y).map (·.1) = some C ∧ s [x, y] μ R
def gOwn1 (C : Addr) (s : GN) : G1 := fun x μ R => (insD μ x).map (·.1) = some C ∧ s [x] μ R
section
variable {K : PySem.W.Frag} {X : Cx} {k : Nat} {C g : Addr} {s : GN} {a b : Expr} {fa fb : RX} {pos : Pos} {rc : Option Value}
theorem cmpBack_of {v : V} {u : Value} {Q : Value → Shared → Prop} {s' : Shared} (r : L2.RelV v u) (h : Q u s') : PySem.W.CmpBack Q u s' := by
  cases u <;> first | exact h | (exfalso; cases v <;> first | (cases r; done) | (obtain ⟨t, e⟩ := r; cases e))
/-- x op y, both instances of C -/
theorem op_own {op : Operator} (F : MtG X.prog X.w X.K X.mg X.base k C g s) (hr : Room k X.A) (hc : PySem.W.selfFirst X.K C = true) (hs : PySem.W.findIn X.K (.ref C) (PySem.dunder op.info.2) = some (some (.ref g))) (hf : PySem.W.isFn X.K (.ref g) = true) :
    OpR X (binaryOp op) (fun x y H Q => ∃ p q dx dy fs gs, x = .ref p ∧ y = .ref q ∧ H p = some (.ins C dx fs) ∧ H q = some (.ins C dy gs) ∧ spD X.K s [x, y] H Q E0) := by
  intro pins st0 σ H x y v u Q I rx ry h
  obtain ⟨p, q, dx, dy, fs, gs, rfl, rfl, h1, h2, hsp⟩ := h
  obtain ⟨mA, O, _⟩ := ins_get I.hok h1
  obtain ⟨mB, O2, _⟩ := ins_get I.hok h2
  obtain ⟨od, J, _⟩ := O.look
  obtain ⟨od2, J2, _⟩ := O2.look
  obtain ⟨m, hF⟩ := I.fr
  cases rx
  cases ry
  refine PySem.W.binop_K hF I.ok.mod.kin J J2.type hc hs hf ?_
  have r2 : Vals [V.ref p, V.ref q] [Value.ref p, Value.ref q] := .cons rfl (.cons rfl .nil)
  refine wpAny_call (codeAny_mono (run_fnR F.raw hr pass0 I r2 hsp) fun r s' z => ?_)
  cases r with
  | error e => exact z
  | ok fl =>
    cases fl with
    | ret u =>
      obtain ⟨v, H', I', rv, hq⟩ := z
      exact cmpBack_of rv ⟨v, H', I', rv, hq⟩
    | next => exact z.elim
    | brk => exact z.elim
    | cont => exact z.elim
/-- ~x -/
theorem un_own (F : MtG X.prog X.w X.K X.mg X.base k C g s) (hr : Room k X.A) (hs : PySem.W.findIn X.K (.ref C) "__invert__" = some (some (.ref g))) (hf : PySem.W.isFn X.K (.ref g) = true) :
    UnR X (unaryOp .Invert) (fun x H Q => ∃ p dx fs, x = .ref p ∧ H p = some (.ins C dx fs) ∧ spD X.K s [x] H Q E0) := by
  intro pins st0 σ H x v Q I rx h
  obtain ⟨p, dx, fs, rfl, h1, hsp⟩ := h
  obtain ⟨mA, O, _⟩ := ins_get I.hok h1
  obtain ⟨od, J, _⟩ := O.look
  obtain ⟨m, hF⟩ := I.fr
  cases rx
  refine PySem.W.ksp_inv hF I.ok.mod.kin J hs hf ?_
  have r2 : Vals [V.ref p] [Value.ref p] := .cons rfl .nil
  refine wpAny_call (codeAny_mono (run_fnR F.raw hr pass0 I r2 hsp) fun r s' z => ?_)
  cases r with
  | error e => exact z
  | ok fl =>
    cases fl with
    | ret u => exact z
    | next => exact z.elim
    | brk => exact z.elim
    | cont => exact z.elim
/-- x == y, both instances of C -/
theorem eq_own (F : MtG X.prog X.w X.K X.mg X.base k C g s) (hr : Room k X.A) (hs : PySem.W.findIn X.K (.ref C) "__eq__" = some (some (.ref g))) (hf : PySem.W.isFn X.K (.ref g) = true) :
    OpR X (compareOp .Eq) (fun x y H Q => ∃ p q dx dy fs gs, x = .ref p ∧ y = .ref q ∧ H p = some (.ins C dx fs) ∧ H q = some (.ins C dy gs) ∧ spD X.K s [x, y] H Q E0) := by
  intro pins st0 σ H x y v u Q I rx ry h
  obtain ⟨p, q, dx, dy, fs, gs, rfl, rfl, h1, h2, hsp⟩ := h
  obtain ⟨mA, O, _⟩ := ins_get I.hok h1
  obtain ⟨mB, O2, _⟩ := ins_get I.hok h2
  obtain ⟨od, J, _⟩ := O.look
  obtain ⟨od2, J2, _⟩ := O2.look
  obtain ⟨m, hF⟩ := I.fr
  cases rx
  cases ry
  show wpAny (model X.prog X.w) X.A (richCompare .Eq (.ref p) (.ref q)) _ _ _
  refine PySem.W.cmp_K (op := .Eq) (tb := .ref C) hr.units0 hF I.ok.mod.kin J J2.type (by simp [PySem.W.notFirst]) hs hf ?_
  have r2 : Vals [V.ref p, V.ref q] [Value.ref p, Value.ref q] := .cons rfl (.cons rfl .nil)
  refine wpAny_call (codeAny_mono (run_fnR F.raw hr pass0 I r2 hsp) fun r s' z => ?_)
  cases r with
  | error e => exact z
  | ok fl =>
    cases fl with
    | ret u =>
      obtain ⟨v, H', I', rv, hq⟩ := z
      exact cmpBack_of rv ⟨v, H', I', rv, hq⟩
    | next => exact z.elim
    | brk => exact z.elim
    | cont => exact z.elim
theorem insC_rep {S H : Hp} {μ : MH} {v : V} {d : D} (k : OK K S μ H) (r : Rep K S v d) (e : (insD μ d).map (·.1) = some C) : ∃ a dx vfs, v = .ref a ∧ H a = some (.ins C dx vfs) := by
  cases q : insD μ d with
  | none => rw [q] at e; cases e
  | some z =>
    obtain ⟨C', fs⟩ := z
    rw [q] at e
    have e : C' = C := Option.some.inj e
    subst e
    obtain ⟨a, dx, vfs, h1, h2, _⟩ := insD_rep k r q
    exact ⟨a, dx, vfs, h1, h2⟩
theorem snd_own2 : Snd2 K (fun x y H Q => ∃ p q dx dy fs gs, x = .ref p ∧ y = .ref q ∧ H p = some (.ins C dx fs) ∧ H q = some (.ins C dy gs) ∧ spD K s [x, y] H Q E0) (gOwn2 C s) := by
  intro S μ H x y dx dy R Q k rx ry q post
  obtain ⟨e1, e2, q⟩ := q
  obtain ⟨a, da, va, rfl, h1⟩ := insC_rep k rx e1
  obtain ⟨b, db, vb, rfl, h2⟩ := insC_rep k ry e2
  exact ⟨a, b, da, db, va, vb, rfl, rfl, h1, h2, S, μ, [dx, dy], R, k, .cons rx (.cons ry .nil), q, post⟩
theorem snd_own1 : Snd1 K (fun x H Q => ∃ p dx fs, x = .ref p ∧ H p = some (.ins C dx fs) ∧ spD K s [x] H Q E0) (gOwn1 C s) := by
  intro S μ H x dx R Q k rx q post
  obtain ⟨e1, q⟩ := q
  obtain ⟨a, da, va, rfl, h1⟩ := insC_rep k rx e1
  exact ⟨a, da, va, rfl, h1, S, μ, [dx], R, k, .cons rx .nil, q, post⟩
theorem de_opO {op : Operator} (F : MtG X.prog X.w X.K X.mg X.base k C g s) (hr : Room k X.A) (hc : PySem.W.selfFirst X.K C = true) (hs : PySem.W.findIn X.K (.ref C) (PySem.dunder op.info.2) = some (some (.ref g))) (hf : PySem.W.isFn X.K (.ref g) = true)
    (ha : DE X a fa) (hb : DE X b fb) : DE X (.BinOp a op b pos) (rOp (gOwn2 C s) fa fb) := de_op (op_own F hr hc hs hf) snd_own2 ha hb
theorem de_inv (F : MtG X.prog X.w X.K X.mg X.base k C g s) (hr : Room k X.A) (hs : PySem.W.findIn X.K (.ref C) "__invert__" = some (some (.ref g))) (hf : PySem.W.isFn X.K (.ref g) = true)
    (ha : DE X a fa) : DE X (.UnaryOp .Invert a pos) (rUn (gOwn1 C s) fa) := pe_imp (pe_un (un_own F hr hs hf) ha) (up_un snd_own1)
theorem de_eqO (F : MtG X.prog X.w X.K X.mg X.base k C g s) (hr : Room k X.A) (hs : PySem.W.findIn X.K (.ref C) "__eq__" = some (some (.ref g))) (hf : PySem.W.isFn X.K (.ref g) = true)
    (ha : DE X a fa) (hb : DE X b fb) : DE X (.Compare a [.Eq] [b] pos) (rOp (gOwn2 C s) fa fb) := de_cmp (eq_own F hr hs hf) snd_own2 ha hb (nomark _)
theorem dt_eqO (F : MtG X.prog X.w X.K X.mg X.base k C g s) (hr : Room k X.A) (hs : PySem.W.findIn X.K (.ref C) "__eq__" = some (some (.ref g))) (hf : PySem.W.isFn X.K (.ref g) = true)
    (ha : DE X a fa) (hb : DE X b fb) : DT X (.Compare a [.Eq] [b] pos) (rB (rOp (gOwn2 C s) fa fb)) := dt_cmp (eq_own F hr hs hf) snd_own2 ha hb (nomark _)
end
end L3

/-! ## L3e -/
set_option Elab.async false
set_option linter.all false
set_option maxRecDepth 100000
set_option maxHeartbeats 4000000
namespace L3
open PySem PySem.Spec PyProof.Rows L2

/-! ### targets -/
abbrev RG := D → EV → MH → (EV → MH → Prop) → Prop
/-- v is stored; the slots beside those in vs stay -/
def upG (K : PySem.W.Frag) (g : RG) (vs : List Nat) : TG := fun v σ H Q => ∃ S μ ρ d QQ, OK K S μ H ∧ RepE K S σ ρ ∧ Rep K S v d ∧ g d ρ μ QQ ∧
  ∀ S' μ' H' σ' ρ', OK K S' μ' H' → Stp S μ H S' μ' H' → RepE K S' σ' ρ' → wipe σ' vs = wipe σ vs → QQ ρ' μ' → Q σ' H'
abbrev RGs := List D → EV → MH → (EV → MH → Prop) → Prop
def upGs (K : PySem.W.Frag) (g : RGs) (vs : List Nat) : TGs := fun ws σ H Q => ∃ S μ ρ ds QQ, OK K S μ H ∧ RepE K S σ ρ ∧ Reps K S ws ds ∧ g ds ρ μ QQ ∧
  ∀ S' μ' H' σ' ρ', OK K S' μ' H' → Stp S μ H S' μ' H' → RepE K S' σ' ρ' → wipe σ' vs = wipe σ vs → QQ ρ' μ' → Q σ' H'
abbrev DG (X : Cx) (e : Expr) (g : RG) (vs : List Nat) : Prop := PG X e (upG X.K g vs)
abbrev DGs (X : Cx) (es : List Expr) (g : RGs) (vs : List Nat) : Prop := PGs X es (upGs X.K g vs)
def rGN (i : Nat) : RG := fun d ρ μ Q => Q (st ρ i d) μ
def rGTup (n : Nat) (g : RGs) : RG := fun d ρ μ Q => match d with
  | .tup ds => ds.length = n ∧ g ds ρ μ Q
  | _ => False
def rGNil : RGs := fun ds ρ μ Q => ds = [] ∧ Q ρ μ
def rGCons (g : RG) (gs : RGs) : RGs := fun ds ρ μ Q => match ds with
  | d :: r => g d ρ μ fun ρ1 μ1 => gs r ρ1 μ1 Q
  | [] => False
theorem pg_imp {X : Cx} {e : Expr} {t u : TG} (h : PG X e t) (i : ∀ v σ H Q, u v σ H Q → t v σ H Q) : PG X e u := ⟨fun pins s σ H v w Q I r q => h.run pins s σ H v w Q I r (i v σ H Q q)⟩
theorem pgs_imp {X : Cx} {es : List Expr} {t u : TGs} (h : PGs X es t) (i : ∀ v σ H Q, u v σ H Q → t v σ H Q) : PGs X es u := ⟨fun pins s σ H v w Q I r q => h.run pins s σ H v w Q I r (i v σ H Q q)⟩
theorem wipe_set {σ : L2.St} {v : Option V} {i : Nat} : ∀ {vs : List Nat}, i ∈ vs → wipe (σ.set i v) vs = wipe σ vs
  | j :: vs, h => by
    unfold wipe
    by_cases e : i = j
    · subst e
      by_cases m : i ∈ vs
      · rw [wipe_set m]
      · have key : ∀ vs : List Nat, i ∉ vs → wipe (σ.set i v) vs = (wipe σ vs).set i v := by
          intro vs
          induction vs with
          | nil => intro _; rfl
          | cons k ks ih =>
            intro hn
            simp only [List.mem_cons, not_or] at hn
            unfold wipe
            rw [ih hn.2, List.set_comm _ _ hn.1]
        rw [key vs m, List.set_set]
    · rw [wipe_set (List.mem_of_ne_of_mem e h)]
theorem wipe_wipe {σ τ : L2.St} {vs ws : List Nat} (h : wipe σ vs = wipe τ vs) (sub : ∀ i ∈ vs, i ∈ ws) : wipe σ ws = wipe τ ws := by
  have key : ∀ (vs : List Nat) (σ : L2.St), (∀ i ∈ vs, i ∈ ws) → wipe (wipe σ vs) ws = wipe σ ws := by
    intro vs
    induction vs with
    | nil => intro σ _; rfl
    | cons v vs ih =>
      intro σ s
      show wipe ((wipe σ vs).set v none) ws = _
      rw [wipe_set (s v (List.mem_cons_self ..)), ih σ fun i hi => s i (List.mem_cons_of_mem _ hi)]
  rw [← key vs σ sub, h, key vs τ sub]
section
variable {X : Cx} {e : Expr} {es : List Expr} {g : RG} {gs : RGs} {vs : List Nat} {pos : Pos}
theorem dg_name {i : Nat} {x : Str} (hN : X.N.Nodup) (hi : X.N[i]? = some x := by rfl) (hx : Loc X.env.scope x := by first | exact Or.inl rfl | exact Or.inr rfl) (hf : X.fn x = true ∨ X.env.scope.names.lookup x = some .local := by first | exact .inl rfl | exact .inr rfl)
    (hm : i ∈ vs := by first | exact List.mem_cons_self .. | decide) : DG X (.Name x pos) (rGN i) vs := pg_imp (pg_name hN hi hx hf) fun v σ H Q ⟨S, μ, ρ, d, QQ, k, e, r, h, post⟩ =>
  post S μ H _ _ k .refl (e.set r i) (wipe_set hm) h
theorem dgs_nil : DGs X [] rGNil vs := pgs_imp pgs_nil fun v σ H Q ⟨S, μ, ρ, d, QQ, k, e, r, h, post⟩ => by
  obtain ⟨rfl, h⟩ := h
  cases r
  exact ⟨rfl, post S μ H σ ρ k .refl e rfl h⟩
theorem dgs_cons (h1 : DG X e g vs) (h2 : DGs X es gs vs) (hs : (assignEach (e :: es) X.env).map (·.2) = assign e X.env :: (assignEach es X.env).map (·.2) := by rfl) : DGs X (e :: es) (rGCons g gs) vs := pgs_imp (pgs_cons h1 h2 hs) fun v σ H Q ⟨S, μ, ρ, ds, QQ, k, e, r, h, post⟩ => by
  cases r with
  | nil => exact h.elim
  | cons r rr =>
    refine ⟨_, _, rfl, S, μ, ρ, _, _, k, e, r, h, fun S1 μ1 H1 σ1 ρ1 k1 s1 e1 w1 h1 => ?_⟩
    exact ⟨S1, μ1, ρ1, _, QQ, k1, e1, rr.mono s1.same, h1, fun S2 μ2 H2 σ2 ρ2 k2 s2 e2 w2 h2 => post S2 μ2 H2 σ2 ρ2 k2 (s1.trans s2) e2 (w2.trans w1) h2⟩
theorem dg_tup {k : Nat} {n : Nat} (h : DGs X es gs vs) (hc : X.calm = true := by rfl) (hn : (assignEach es X.env).length = n := by rfl) (hst : (assignEach es X.env).findIdx? (·.1) = none := by rfl) : DG X (.Tuple es k pos) (rGTup n gs) vs := pg_imp (pg_tup hc h hn hst) fun v σ H Q ⟨S, μ, ρ, d, QQ, k, e, r, h, post⟩ => by
  cases d <;> first | exact False.elim h | skip
  obtain ⟨a, ws, rfl, h1, r1⟩ := r.toTup
  obtain ⟨hl, h⟩ := h
  exact ⟨a, ws, rfl, sqT_same k.sub h1, by rw [r1.length]; exact hl, S, μ, ρ, _, QQ, k, e, r1, h, post⟩
/-- a, b, .. = a list -/
def rGLst (n : Nat) (g : RGs) : RG := fun d ρ μ Q => match res μ d with
  | .lst ds => ds.length = n ∧ g ds ρ μ Q
  | _ => False
theorem dg_lst {k : Nat} {n : Nat} (h : DGs X es gs vs) (hc : X.calm = true := by rfl) (hn : (assignEach es X.env).length = n := by rfl) (hst : (assignEach es X.env).findIdx? (·.1) = none := by rfl) : DG X (.Tuple es k pos) (rGLst n gs) vs := pg_imp (pg_lst hc h hn hst) fun v σ H Q ⟨S, μ, ρ, d, QQ, k, e, r, h, post⟩ => by
  unfold rGLst at h
  cases q : res μ d <;> rw [q] at h <;> first | exact False.elim h | skip
  obtain ⟨a, ws, rfl, h1, r1⟩ := res_lst k r q
  obtain ⟨hl, h⟩ := h
  exact ⟨a, ws, rfl, .of h1, by rw [r1.length]; exact hl, S, μ, ρ, _, QQ, k, e, r1, h, post⟩
end

/-! ### statements -/
def rNext : RS := fun D ρ μ => D.nx ρ μ
def rSeq (f g : RS) : RS := fun D ρ μ => f { D with nx := fun ρ1 μ1 => g D ρ1 μ1 } ρ μ
def rAsg (f : RX) (g : RG) : RS := fun D ρ μ => f ρ μ fun d μ1 => g d ρ μ1 D.nx
def rRet (f : RX) : RS := fun D ρ μ => f ρ μ D.rt
def rRetN : RS := fun D _ μ => D.rt .non μ
def rDrop (f : RX) : RS := fun D ρ μ => f ρ μ fun _ μ1 => D.nx ρ μ1
def rIf (t : RT) (f g : RS) : RS := fun D ρ μ => t ρ μ fun b μ1 => if b = true then f D ρ μ1 else g D ρ μ1
def rBreak : RS := fun D ρ μ => D.bk ρ μ
def rCont : RS := fun D ρ μ => D.ct ρ μ
def rNever : RS := fun _ _ _ => False
def rPar (i j : Nat) (fa : RA) : RS := fun D ρ μ => fa ρ μ fun ds μ1 => match ds with
  | [a, b] => D.nx (st (st ρ i a) j b) μ1
  | _ => False
section
variable {X : Cx} {a b : Stmt} {as bs rest : List Stmt} {f g : RS} {fe : RX} {ft : RT} {e c tg : Expr} {gg : RG} {pos : Pos} {vs : List Nat}
theorem dss_nil : DSs X [] rNext := pss_imp pss_nil fun D σ H ⟨S, μ, ρ, DD, k, e, h, l⟩ => l.nx S μ H σ ρ k .refl e h
theorem dss_cons (h1 : DS X a f) (h2 : DSs X rest g) : DSs X (a :: rest) (rSeq f g) := pss_imp (pss_cons h1 h2) fun D σ H ⟨S, μ, ρ, DD, k, e, h, l⟩ =>
  ⟨S, μ, ρ, _, k, e, h, ⟨fun S1 μ1 H1 σ1 ρ1 k1 s1 e1 q1 => ⟨S1, μ1, ρ1, DD, k1, e1, q1, l.stp s1⟩, l.rt, l.bk, l.ct⟩⟩
theorem dss_one (h1 : DS X a f) : DSs X [a] f := pss_one h1
theorem ds_pass : DS X (.Pass pos) rNext := ps_imp ps_pass fun D σ H ⟨S, μ, ρ, DD, k, e, h, l⟩ => l.nx S μ H σ ρ k .refl e h
theorem ds_break : DS X (.Break pos) rBreak := ps_imp ps_break fun D σ H ⟨S, μ, ρ, DD, k, e, h, l⟩ => l.bk S μ H σ ρ k .refl e h
theorem ds_cont : DS X (.Continue pos) rCont := ps_imp ps_continue fun D σ H ⟨S, μ, ρ, DD, k, e, h, l⟩ => l.ct S μ H σ ρ k .refl e h
theorem ds_never : DS X a rNever := ps_imp ps_never fun D σ H ⟨S, μ, ρ, DD, k, e, h, l⟩ => h
theorem ds_expr (he : DE X e fe) (hs : swapsWith e none pos.line X.env = pure false := by rfl) : DS X (.Expr e pos) (rDrop fe) := ps_imp (ps_expr he hs) fun D σ H ⟨S, μ, ρ, DD, k, e, h, l⟩ =>
  ⟨S, μ, ρ, _, k, e, h, fun S1 μ1 H1 v d k1 s1 r1 q1 => l.nx S1 μ1 H1 σ ρ k1 s1 (e.mono s1.same) q1⟩
theorem ds_ret (he : DE X e fe) : DS X (.Return (some e) pos) (rRet fe) := ps_imp (ps_ret he) fun D σ H ⟨S, μ, ρ, DD, k, e, h, l⟩ => ⟨S, μ, ρ, _, k, e, h, l.rt⟩
theorem ds_retN : DS X (.Return none pos) rRetN := ps_imp ps_retN fun D σ H ⟨S, μ, ρ, DD, k, e, h, l⟩ => l.rt S μ H _ _ k .refl .non h
theorem ds_if (hc : DT X c ft) (ha : DSs X as f) (hb : DSs X bs g) : DS X (.If c as bs pos) (rIf ft f g) := ps_imp (ps_if hc ha hb) fun D σ H ⟨S, μ, ρ, DD, k, e, h, l⟩ => by
  refine ⟨S, μ, ρ, _, k, e, h, fun S1 μ1 H1 b1 k1 s1 h1 => ?_⟩
  cases b1 with
  | true => rw [if_pos rfl] at h1 ⊢; exact ⟨S1, μ1, ρ, DD, k1, e.mono s1.same, h1, l.stp s1⟩
  | false => rw [if_neg Bool.false_ne_true] at h1 ⊢; exact ⟨S1, μ1, ρ, DD, k1, e.mono s1.same, h1, l.stp s1⟩
theorem up_asg : ∀ D σ H, upS X.K (rAsg fe gg) D σ H → tAsg (up X.K fe) (upG X.K gg vs) D σ H := fun D σ H ⟨S, μ, ρ, DD, k, e, h, l⟩ => by
  refine ⟨S, μ, ρ, _, k, e, h, fun S1 μ1 H1 v d k1 s1 r1 q1 => ?_⟩
  exact ⟨S1, μ1, ρ, d, _, k1, e.mono s1.same, r1, q1, fun S2 μ2 H2 σ2 ρ2 k2 s2 e2 _ q2 => l.nx S2 μ2 H2 σ2 ρ2 k2 (s1.trans s2) e2 q2⟩
theorem ds_asg (he : DE X e fe) (hg : DG X tg gg vs) (hs : swapsWithSole [tg] e pos.line X.env = pure false := by rfl) (hw : swappedStores [tg] e X.env = pure none := by rfl)
    (h1 : (assignEach [tg] X.env).map (·.2) = [assign tg X.env] := by rfl) : DS X (.Assign [tg] e pos) (rAsg fe gg) := ps_imp (ps_asg he hg hs hw h1) up_asg
theorem ds_set {i : Nat} {x : Str} {pos' : Pos} (hN : X.N.Nodup) (he : DE X e fe) (hi : X.N[i]? = some x := by rfl) (hx : Loc X.env.scope x := by first | exact Or.inl rfl | exact Or.inr rfl) (hs : swapsWith e (some (.Name x pos')) pos.line X.env = pure false := by rfl)
    (hf : X.fn x = true ∨ X.env.scope.names.lookup x = some .local := by first | exact .inl rfl | exact .inr rfl) : DS X (.Assign [.Name x pos'] e pos) (rAsg fe (rGN i)) := ps_imp (ps_set hN hi hx he hs hf) fun D σ H ⟨S, μ, ρ, DD, k, e, h, l⟩ =>
  ⟨S, μ, ρ, _, k, e, h, fun S1 μ1 H1 v d k1 s1 r1 q1 => l.nx S1 μ1 H1 _ _ k1 s1 ((e.mono s1.same).set r1 i) q1⟩
theorem ds_par {i j : Nat} {x y : Str} {a b : Expr} {fa : RA} {px py pt : Pos} {kt k2 pt2} (hN : X.N.Nodup) (ha : DA X [a, b] fa) (hij : i ≠ j := by decide) (hi : X.N[i]? = some x := by rfl) (hj : X.N[j]? = some y := by rfl)
    (hx : X.env.scope.names.lookup x = some .local := by rfl) (hy : X.env.scope.names.lookup y = some .local := by rfl) (hc : X.calm = true := by rfl)
    (hw : swappedStores [.Tuple [.Name x px, .Name y py] kt pt] (.Tuple [a, b] k2 pt2) X.env = pure (some [x, y]) := by rfl)
    (hs : swapsWithSole [.Tuple [.Name x px, .Name y py] kt pt] (.Tuple [a, b] k2 pt2) pos.line X.env = pure false := by rfl) :
    DS X (.Assign [.Tuple [.Name x px, .Name y py] kt pt] (.Tuple [a, b] k2 pt2) pos) (rPar i j fa) := ps_imp (ps_par hc hN hi hj hij hx hy ha hw hs) fun D σ H ⟨S, μ, ρ, DD, k, e, h, l⟩ => by
  refine ⟨S, μ, ρ, _, k, e, h, fun S1 μ1 H1 ws ds k1 s1 r1 q1 => ?_⟩
  unfold rPar at q1
  split at q1
  · obtain ⟨v, w, rfl, r2, r3⟩ := reps2 r1
    exact ⟨v, w, rfl, l.nx S1 μ1 H1 _ _ k1 s1 (((e.mono s1.same).set r2 i).set r3 j) q1⟩
  · exact q1.elim
end
/-- name += e of ints, texts, tuples (a new object), by the operator's values -/
def rAug (i : Nat) (g : G2) (f : RX) : RS := fun D ρ μ => match gt ρ i with
  | some x => f ρ μ fun y μ1 => g x y μ1 fun z μ2 => D.nx (st ρ i z) μ2
  | none => False
section
variable {X : Cx} {e : Expr} {fe : RX} {pos : Pos} {i : Nat} {x : Str} {pos' : Pos}
theorem up_aug {ti : TIp} {g : G2} (s : Snd2 X.K ti g) : ∀ D σ H, upS X.K (rAug i g fe) D σ H → tAug i (up X.K fe) ti D σ H := fun D σ H ⟨S, μ, ρ, DD, k, e, h, l⟩ => by
  unfold rAug at h
  cases q : gt ρ i with
  | none => rw [q] at h; exact h.elim
  | some d =>
    rw [q] at h
    obtain ⟨v, h1, h2⟩ := e.get q
    refine ⟨v, h1, S, μ, ρ, _, k, e, h, fun S1 μ1 H1 w d2 k1 s1 r1 q1 => ?_⟩
    exact s S1 μ1 H1 v w d d2 _ _ k1 (h2.mono s1.same) r1 q1 fun S2 μ2 H2 z d3 k2 s2 r2 q2 => l.nx S2 μ2 H2 _ _ k2 (s1.trans s2) ((e.mono (s1.trans s2).same).set r2 i) q2
theorem snd_ip {K : PySem.W.Frag} {f : Int → Int → Int} : Snd2 K (ipI f) (gI0 fun i j => .int (f i j)) := by
  intro S μ H x y dx dy R Q k rx ry q post
  cases dx <;> cases dy <;> first | exact False.elim q | skip
  cases rx.toInt
  cases ry.toInt
  exact ⟨_, _, rfl, rfl, post S μ H _ _ k .refl (.int _) q⟩
theorem ds_augAdd (hN : X.N.Nodup) (he : DE X e fe) (hi : X.N[i]? = some x := by rfl) (hx : Loc X.env.scope x := by first | exact Or.inl rfl | exact Or.inr rfl) (hf : X.fn x = true ∨ X.env.scope.names.lookup x = some .local := by first | exact .inl rfl | exact .inr rfl) :
    DS X (.AugAssign (.Name x pos') .Add e pos) (rAug i (gI0 fun i j => .int (i + j)) fe) := ps_imp (ps_aug hN hi hx he ip_add hf) (up_aug snd_ip)
end

/-! ### while -/
def rWhile (c : RT) (b : RS) : RS := fun D ρ μ => ∃ (W : EV → MH → Prop) (m : EV → MH → Nat), W ρ μ ∧ ∀ ρ μ, W ρ μ → c ρ μ fun k μ1 =>
  if k = true then b { D with nx := fun ρ' μ' => W ρ' μ' ∧ m ρ' μ' < m ρ μ, ct := fun ρ' μ' => W ρ' μ' ∧ m ρ' μ' < m ρ μ, bk := D.nx } ρ μ1 else D.nx ρ μ1
theorem ds_while {X : Cx} {c : Expr} {body : List Stmt} {fc : RT} {fb : RS} {pos : Pos} (hc : DT X c fc) (hb : DSs X body fb) (hp : PassesOwn (model X.prog X.w) X.A X.env X.xe := by exact PassesOwn.never) : DS X (.While c body [] pos) (rWhile fc fb) :=
  ps_imp (ps_while hp hc hb) fun D σ H ⟨S, μ, ρ, DD, k, e, h, l⟩ => by
    obtain ⟨W, m, w0, turn⟩ := h
    refine ⟨fun n σ' H' => ∃ S' μ' ρ', OK X.K S' μ' H' ∧ Stp S μ H S' μ' H' ∧ RepE X.K S' σ' ρ' ∧ W ρ' μ' ∧ n = m ρ' μ', ⟨_, S, μ, ρ, k, .refl, e, w0, rfl⟩, ?_⟩
    rintro n σ1 H1 ⟨S1, μ1, ρ1, k1, s1, e1, w1, rfl⟩
    refine ⟨S1, μ1, ρ1, _, k1, e1, turn ρ1 μ1 w1, fun S2 μ2 H2 b2 k2 s2 q2 => ?_⟩
    cases b2 with
    | false => rw [if_neg Bool.false_ne_true] at q2 ⊢; exact l.nx S2 μ2 H2 _ _ k2 (s1.trans s2) (e1.mono s2.same) q2
    | true =>
      rw [if_pos rfl] at q2 ⊢
      refine ⟨fun σ' H' => ∃ S' μ' ρ', OK X.K S' μ' H' ∧ Stp S μ H S' μ' H' ∧ RepE X.K S' σ' ρ' ∧ W ρ' μ' ∧ m ρ' μ' < m ρ1 μ1, fun σ' H' ⟨S', μ', ρ', a, b, c, d, f⟩ => ⟨_, f, S', μ', ρ', a, b, c, d, rfl⟩, ?_⟩
      refine ⟨S2, μ2, ρ1, _, k2, e1.mono s2.same, q2, ⟨fun S3 μ3 H3 σ3 ρ3 k3 s3 e3 q3 => ?_, fun S3 μ3 H3 v d k3 s3 r3 q3 => ?_, fun S3 μ3 H3 σ3 ρ3 k3 s3 e3 q3 => ?_, fun S3 μ3 H3 σ3 ρ3 k3 s3 e3 q3 => ?_⟩⟩
      · exact ⟨S3, μ3, ρ3, k3, (s1.trans s2).trans s3, e3, q3.1, q3.2⟩
      · exact l.rt S3 μ3 H3 v d k3 ((s1.trans s2).trans s3) r3 q3
      · exact l.nx S3 μ3 H3 σ3 ρ3 k3 ((s1.trans s2).trans s3) e3 q3
      · exact ⟨S3, μ3, ρ3, k3, (s1.trans s2).trans s3, e3, q3.1, q3.2⟩

/-! ### what is walked -/
/-- J gives the data ds, one by one, while C holds of the changeable objects -/
def ItOk (K : PySem.W.Frag) (S : Hp) (J : It) (ds : List D) (C : MH → Prop) : Prop :=
  ∀ S1 μ1 H1, OK K S1 μ1 H1 → Same S S1 → C μ1 → ∀ i,
    (∀ d, ds[i]? = some d → J.go i H1 ∧ ∀ x H', J.yld i H1 x H' → ∃ S2, OK K S2 μ1 H' ∧ Stp S1 μ1 H1 S2 μ1 H' ∧ Rep K S2 x d) ∧ (i = ds.length → J.stop i H1)
abbrev RI := EV → MH → (List D → (MH → Prop) → MH → Prop) → Prop
def upI (K : PySem.W.Frag) (f : RI) : TI := fun σ H R => ∃ S μ ρ RR, OK K S μ H ∧ RepE K S σ ρ ∧ f ρ μ RR ∧
  ∀ S' μ' H' J ds C, OK K S' μ' H' → Stp S μ H S' μ' H' → ItOk K S' J ds C → RR ds C μ' → R J H'
abbrev DI (X : Cx) (tg e : Expr) (f : RI) : Prop := PI X tg e (upI X.K f)
theorem pi_imp {X : Cx} {tg e : Expr} {t u : TI} (h : PI X tg e t) (i : ∀ σ H R, u σ H R → t σ H R) : PI X tg e u := ⟨fun pins s σ H R I q => h.run pins s σ H R I (i σ H R q)⟩
def tru : MH → Prop := fun _ => True
/-- a list: of data, or a changeable one that stays -/
def rILst (f : RX) : RI := fun ρ μ R => f ρ μ fun d μ1 => match d with
  | .lst ds => R ds tru μ1
  | .scr ds => R ds tru μ1
  | .ref p => (match μ1 p with
    | some (.lst ds) => R ds (fun μ => μ p = some (.lst ds)) μ1
    | _ => False)
  | _ => False
def rITup (f : RX) : RI := fun ρ μ R => f ρ μ fun d μ1 => match d with
  | .tup ds => R ds tru μ1
  | _ => False
def rangeD (lo : Int) : Nat → List D
  | 0 => []
  | n + 1 => .int lo :: rangeD (lo + 1) n
theorem rangeD_get : ∀ (n : Nat) (lo : Int) (i : Nat), (rangeD lo n)[i]? = if i < n then some (.int (lo + i)) else none
  | 0, _, _ => by simp [rangeD]
  | n + 1, lo, 0 => by simp [rangeD]
  | n + 1, lo, i + 1 => by
    show (rangeD (lo + 1) n)[i]? = _
    rw [rangeD_get n (lo + 1) i]
    by_cases h : i < n
    · rw [if_pos h, if_pos (by omega)]
      congr 2
      omega
    · rw [if_neg h, if_neg (by omega)]
theorem rangeD_len : ∀ (n : Nat) (lo : Int), (rangeD lo n).length = n
  | 0, _ => rfl
  | n + 1, lo => congrArg Nat.succ (rangeD_len n (lo + 1))
def inR (j : Int) : Prop := -(2 ^ 62) ≤ j ∧ j < 2 ^ 62
def rIRng1 (fa : RA) : RI := fun ρ μ R => fa ρ μ fun ds μ1 => match ds with
  | [.int j] => inR j ∧ R (rangeD 0 j.toNat) tru μ1
  | _ => False
def rIRng2 (fa : RA) : RI := fun ρ μ R => fa ρ μ fun ds μ1 => match ds with
  | [.int i, .int j] => inR i ∧ inR j ∧ R (rangeD i (j - i).toNat) tru μ1
  | _ => False
section
variable {X : Cx} {tg e a b : Expr} {fe : RX} {fa : RA} {p pos : Pos}
theorem itok_list {K : PySem.W.Frag} {S : Hp} {q : Addr} {vs : List V} {ds : List D} {C : MH → Prop} (h : ∀ S1 μ1 H1, OK K S1 μ1 H1 → Same S S1 → C μ1 → ∃ vs, SqL K H1 q vs ∧ Reps K S1 vs ds) : ItOk K S (Itl K q) ds C := fun S1 μ1 H1 k1 e1 c1 i => by
  obtain ⟨vs, hq, r⟩ := h S1 μ1 H1 k1 e1 c1
  refine ⟨fun d hd => ?_, fun hi => ⟨vs, hq, by rw [r.length]; exact Nat.le_of_eq hi.symm⟩⟩
  obtain ⟨v, hv, rv⟩ := r.get hd
  refine ⟨⟨vs, v, hq, hv⟩, fun x H' ⟨eH, fx⟩ => ?_⟩
  subst eH
  have ex : x = v := Option.some.inj ((fx vs hq).symm.trans hv)
  exact ⟨S1, k1, .refl, ex ▸ rv⟩
theorem itok_tup {K : PySem.W.Frag} {S : Hp} {q : Addr} {vs : List V} {ds : List D} {C : MH → Prop} (hq : SqT K S q vs) (r : Reps K S vs ds) : ItOk K S (Itt K q) ds C := fun S1 μ1 H1 k1 e1 c1 i => by
  have hq1 : SqT K H1 q vs := sqT_same k1.sub (sqT_same e1 hq)
  refine ⟨fun d hd => ?_, fun hi => ⟨vs, hq1, by rw [r.length]; exact Nat.le_of_eq hi.symm⟩⟩
  obtain ⟨v, hv, rv⟩ := r.get hd
  refine ⟨⟨vs, v, hq1, hv⟩, fun x H' ⟨eH, fx⟩ => ?_⟩
  subst eH
  have ex : x = v := Option.some.inj ((fx vs hq1).symm.trans hv)
  exact ⟨S1, k1, .refl, ex ▸ rv.mono e1⟩
theorem itok_range {K : PySem.W.Frag} {S : Hp} {lo : Int} {n : Nat} {C : MH → Prop} : ItOk K S (Itr lo n) (rangeD lo n) C := fun S1 μ1 H1 k1 e1 c1 i => by
  refine ⟨fun d hd => ?_, fun hi => ?_⟩
  · rw [rangeD_get] at hd
    by_cases h : i < n
    · rw [if_pos h] at hd
      cases hd
      refine ⟨h, fun x H' ⟨eH, ex⟩ => ?_⟩
      subst eH ex
      exact ⟨S1, k1, .refl, .int _⟩
    · rw [if_neg h] at hd; cases hd
  · rw [rangeD_len] at hi; exact Nat.le_of_eq hi.symm
theorem di_list (h : DE X e fe) : DI X tg e (rILst fe) := pi_imp (pi_list h) fun σ H R ⟨S, μ, ρ, RR, k, e, h, post⟩ => by
  refine ⟨S, μ, ρ, _, k, e, h, fun S1 μ1 H1 v d k1 s1 r1 q1 => ?_⟩
  cases d with
  | lst ds =>
    cases r1 with
    | lst a r =>
      exact ⟨_, rfl, ⟨_, .of (k1.sub _ _ a)⟩, post S1 μ1 H1 _ ds tru k1 s1 (itok_list (vs := []) fun S2 μ2 H2 k2 e2 _ => ⟨_, .of (k2.sub _ _ (e2 _ _ a)), r.mono e2⟩) q1⟩
  | scr ds =>
    cases r1 with
    | scr a r =>
      exact ⟨_, rfl, ⟨_, sqL_same k1.sub a⟩, post S1 μ1 H1 _ ds tru k1 s1 (itok_list (vs := []) fun S2 μ2 H2 k2 e2 _ => ⟨_, sqL_same k2.sub (sqL_same e2 a), r.mono e2⟩) q1⟩
  | ref p =>
    cases r1.toRef
    cases q : μ1 p with
    | none =>
      have q1 : (match μ1 p with | some (.lst ds) => RR ds (fun μ => μ p = some (.lst ds)) μ1 | _ => False) := q1
      rw [q] at q1; exact q1.elim
    | some m =>
      have q1 : (match μ1 p with | some (.lst ds) => RR ds (fun μ => μ p = some (.lst ds)) μ1 | _ => False) := q1
      rw [q] at q1
      cases m with
      | ins _ _ => exact q1.elim
      | lst ds =>
        obtain ⟨_, vs, h2, r2⟩ := k1.mts p _ q
        exact ⟨p, rfl, ⟨vs, .of h2⟩, post S1 μ1 H1 _ ds _ k1 s1 (itok_list (vs := []) fun S2 μ2 H2 k2 e2 c2 => by
          obtain ⟨_, vs', h3, r3⟩ := k2.mts p _ c2
          exact ⟨vs', .of h3, r3⟩) q1⟩
  | _ => exact False.elim q1
theorem di_tup (h : DE X e fe) : DI X tg e (rITup fe) := pi_imp (pi_tup h) fun σ H R ⟨S, μ, ρ, RR, k, e, h, post⟩ => by
  refine ⟨S, μ, ρ, _, k, e, h, fun S1 μ1 H1 v d k1 s1 r1 q1 => ?_⟩
  cases d with
  | tup ds =>
    obtain ⟨a, vs, rfl, h2, r2⟩ := r1.toTup
    exact ⟨a, rfl, ⟨vs, sqT_same k1.sub h2⟩, post S1 μ1 H1 _ ds tru k1 s1 (itok_tup h2 r2) q1⟩
  | _ => exact False.elim q1
theorem di_range1 (hg : Gl X "range") (hm : X.mg "range" = none) (ha : DA X [a] fa) (hs : starEach [a] X.env = [(false, eval a X.env)] := by rfl) : DI X tg (.Call (.Name "range" p) [a] [] pos) (rIRng1 fa) := pi_imp (pi_range1 hg hm ha hs) fun σ H R ⟨S, μ, ρ, RR, k, e, h, post⟩ => by
  refine ⟨S, μ, ρ, _, k, e, h, fun S1 μ1 H1 ws ds k1 s1 r1 q1 => ?_⟩
  unfold rIRng1 at q1
  split at q1
  · obtain ⟨v, rfl, r2⟩ := reps1 r1
    cases r2.toInt
    obtain ⟨⟨a1, a2⟩, q1⟩ := q1
    exact ⟨_, rfl, a1, a2, post S1 μ1 H1 _ _ tru k1 s1 itok_range q1⟩
  · exact q1.elim
theorem di_range2 (hg : Gl X "range") (hm : X.mg "range" = none) (ha : DA X [a, b] fa) (hs : starEach [a, b] X.env = [(false, eval a X.env), (false, eval b X.env)] := by rfl) (hs2 : starEach [b] X.env = [(false, eval b X.env)] := by rfl) :
    DI X tg (.Call (.Name "range" p) [a, b] [] pos) (rIRng2 fa) := pi_imp (pi_range2 hg hm ha hs hs2) fun σ H R ⟨S, μ, ρ, RR, k, e, h, post⟩ => by
  refine ⟨S, μ, ρ, _, k, e, h, fun S1 μ1 H1 ws ds k1 s1 r1 q1 => ?_⟩
  unfold rIRng2 at q1
  split at q1
  · obtain ⟨v, w, rfl, r2, r3⟩ := reps2 r1
    cases r2.toInt
    cases r3.toInt
    obtain ⟨⟨a1, a2⟩, ⟨a3, a4⟩, q1⟩ := q1
    exact ⟨_, _, rfl, ⟨a1, a2, a3, a4⟩, post S1 μ1 H1 _ _ tru k1 s1 itok_range q1⟩
  · exact q1.elim
end

/-! ### for -/
def forD (g : RG) (b : RS) (C : MH → Prop) (D : Ed) : List L3.D → EV → MH → Prop
  | [], ρ, μ => C μ ∧ D.nx ρ μ
  | d :: r, ρ, μ => C μ ∧ g d ρ μ fun ρ1 μ1 => b { D with nx := forD g b C D r, ct := forD g b C D r, bk := D.nx } ρ1 μ1
def rFor (fi : RI) (g : RG) (b : RS) : RS := fun D ρ μ => fi ρ μ fun ds C μ1 => forD g b C D ds ρ μ1
theorem forD_c {g : RG} {b : RS} {C : MH → Prop} {D : Ed} {ds : List L3.D} {ρ : EV} {μ : MH} (h : forD g b C D ds ρ μ) : C μ := by
  cases ds with
  | nil => exact h.1
  | cons _ _ => exact h.1
theorem ds_for {X : Cx} {tg iter : Expr} {body : List Stmt} {fi : RI} {g : RG} {fb : RS} {vs : List Nat} {pos : Pos} (hi : DI X tg iter fi) (hg : DG X tg g vs) (hb : DSs X body fb) (hp : PassesOwn (model X.prog X.w) X.A X.env X.xe := by exact PassesOwn.never) (hc : X.calm = true := by rfl)
    (hs : ∀ x, foldedSetIterable iter X.env x = pure x := by intro _; rfl) : DS X (.For tg iter body [] pos) (rFor fi g fb) :=
  ps_imp (ps_for hp hc hi hg hb hs) fun D σ H ⟨S, μ, ρ, DD, k, e, h, l⟩ => by
    refine ⟨S, μ, ρ, _, k, e, h, fun S1 μ1 H1 J ds C k1 s1 it q1 => ?_⟩
    refine ⟨fun i m σ' H' => m = ds.length - i ∧ i ≤ ds.length ∧ ∃ S' μ' ρ', OK X.K S' μ' H' ∧ Stp S1 μ1 H1 S' μ' H' ∧ RepE X.K S' σ' ρ' ∧ forD g fb C DD (ds.drop i) ρ' μ', ⟨_, rfl, Nat.zero_le _, S1, μ1, ρ, k1, .refl, e.mono s1.same, by rw [List.drop_zero]; exact q1⟩, ?_⟩
    rintro i m σ2 H2 ⟨rfl, hi, S2, μ2, ρ2, k2, s2, e2, q2⟩
    have io := it S2 μ2 H2 k2 s2.same (forD_c q2) i
    by_cases hlt : i < ds.length
    · have hd : ds[i]? = some ds[i] := List.getElem?_eq_getElem hlt
      have ed : ds.drop i = ds[i] :: ds.drop (i + 1) := List.drop_eq_getElem_cons hlt
      rw [ed] at q2
      obtain ⟨hgo, hy⟩ := io.1 _ hd
      refine .inr ⟨hgo, fun σ' H' => ∃ S' μ' ρ', OK X.K S' μ' H' ∧ Stp S1 μ1 H1 S' μ' H' ∧ RepE X.K S' σ' ρ' ∧ forD g fb C DD (ds.drop (i + 1)) ρ' μ', fun σ' H' ⟨S', μ', ρ', a, b, c, d⟩ => ⟨ds.length - (i + 1), by omega, rfl, hlt, S', μ', ρ', a, b, c, d⟩, fun x H' y => ?_⟩
      obtain ⟨S3, k3, s3, r3⟩ := hy x H' y
      refine ⟨S3, μ2, ρ2, _, _, k3, e2.mono s3.same, r3, q2.2, fun S4 μ4 H4 σ4 ρ4 k4 s4 e4 _ q4 => ?_⟩
      have s14 := (s2.trans s3).trans s4
      refine ⟨S4, μ4, ρ4, _, k4, e4, q4, ⟨fun S5 μ5 H5 σ5 ρ5 k5 s5 e5 q5 => ?_, fun S5 μ5 H5 v d k5 s5 r5 q5 => ?_, fun S5 μ5 H5 σ5 ρ5 k5 s5 e5 q5 => ?_, fun S5 μ5 H5 σ5 ρ5 k5 s5 e5 q5 => ?_⟩⟩
      · exact ⟨S5, μ5, ρ5, k5, s14.trans s5, e5, q5⟩
      · exact l.rt S5 μ5 H5 v d k5 (s1.trans (s14.trans s5)) r5 q5
      · exact l.nx S5 μ5 H5 σ5 ρ5 k5 (s1.trans (s14.trans s5)) e5 q5
      · exact ⟨S5, μ5, ρ5, k5, s14.trans s5, e5, q5⟩
    · have ei : i = ds.length := by omega
      subst ei
      rw [List.drop_length] at q2
      exact .inl ⟨io.2 rfl, l.nx S2 μ2 H2 σ2 ρ2 k2 (s1.trans s2) e2 q2.2⟩

theorem Stp.aside {S S' H H' : Hp} {μ μ' : MH} {D : Addr} {o : HO} (s : Stp S μ H S' μ' H') (h : H D = none) : Stp S μ H S' μ' (upd H' D o) :=
  ⟨s.same, s.news, fun b x e1 e2 => by rw [upd_ne (ne_of_none e1 h)]; exact s.keep b x e1 e2, s.mus⟩
theorem Stp.takeS {S S' H H' : Hp} {μ μ' : MH} {D : Addr} {o : HO} (s : Stp S μ H S' μ' H') (h : H D = none ∨ ∃ m, μ D = some m) (hS : S' D = none) : Stp S μ H (upd S' D o) μ' H' := by
  refine ⟨s.same.trans (same_updn hS), fun b x e => ?_, s.keep, s.mus⟩
  by_cases q : b = D
  · exact .inr (q ▸ h)
  · rw [upd_ne q] at e; exact s.news b x e
theorem Stp.takeM {S S' H H' : Hp} {μ μ' : MH} {D : Addr} {m : MO} (s : Stp S μ H S' μ' H') (h : H D = none ∨ ∃ m, μ D = some m) : Stp S μ H S' (updM μ' D m) H' := by
  refine ⟨s.same, s.news, s.keep, fun b x e => ?_⟩
  by_cases q : b = D
  · exact q ▸ h
  · rw [updM_ne q] at e; exact s.mus b x e
theorem Stp.put {S H : Hp} {μ : MH} {p : Addr} {m m' : MO} {o : HO} (h : μ p = some m) : Stp S μ H S (updM μ p m') (upd H p o) := by
  refine ⟨fun _ _ z => z, fun _ _ z => .inl z, fun b x e1 e2 => ?_, fun b x e => ?_⟩
  · have q : b ≠ p := fun z => by rw [z, h] at e2; cases e2
    rw [upd_ne q]; exact e1
  · by_cases q : b = p
    · exact .inr ⟨m, q ▸ h⟩
    · rw [updM_ne q] at e; exact .inr ⟨x, e⟩
theorem wipe_sub {ws : List Nat} : ∀ (vs : List Nat) (σ : L2.St), (∀ i ∈ vs, i ∈ ws) → wipe (wipe σ vs) ws = wipe σ ws
  | [], σ, _ => rfl
  | v :: vs, σ, s => by
    show wipe ((wipe σ vs).set v none) ws = _
    rw [wipe_set (s v (List.mem_cons_self ..)), wipe_sub vs σ fun i hi => s i (List.mem_cons_of_mem _ hi)]
theorem wipe_idem (vs : List Nat) (σ : L2.St) : wipe (wipe σ vs) vs = wipe σ vs := wipe_sub vs σ fun _ h => h

/-! ### comprehensions -/
def lcD (g : RG) (t : RT) (f : RX) (C : MH → Prop) (ρ : EV) : List L3.D → List L3.D → MH → (List L3.D → MH → Prop) → Prop
  | [], acc, μ, R => C μ ∧ R acc μ
  | d :: r, acc, μ, R => C μ ∧ g d ρ μ fun ρ1 μ1 => t ρ1 μ1 fun b μ2 => if b = true then f ρ1 μ2 fun y μ3 => lcD g t f C ρ r (acc ++ [y]) μ3 R else lcD g t f C ρ r acc μ2 R
theorem lcD_c {g : RG} {t : RT} {f : RX} {C : MH → Prop} {ρ : EV} {ds acc : List L3.D} {μ : MH} {R : List L3.D → MH → Prop} (h : lcD g t f C ρ ds acc μ R) : C μ := by
  cases ds with
  | nil => exact h.1
  | cons _ _ => exact h.1
def rLc (fi : RI) (g : RG) (t : RT) (f : RX) (vs : List Nat) : RX := fun ρ μ R => fi ρ μ fun ds C μ1 => ds.length ≤ sizeLine ∧ lcD g t f C (rms ρ vs) ds [] μ1 fun zs μ2 => R (.lst zs) μ2
def rLcM (fi : RI) (g : RG) (t : RT) (f : RX) (vs : List Nat) : RX := fun ρ μ R => fi ρ μ fun ds C μ1 => ds.length ≤ sizeLine ∧ lcD g t f C (rms ρ vs) ds [] μ1 fun zs μ2 => ∀ p, μ2 p = none → R (.ref p) (updM μ2 p (.lst zs))
def rTrue : RT := fun _ μ R => R true μ
abbrev DTs (X : Cx) (ifs : List Expr) (t : RT) : Prop := PTs X ifs (upT X.K t)
section
variable {X : Cx}
theorem pts_imp {es : List Expr} {t u : TT} (h : PTs X es t) (i : ∀ σ H Q, u σ H Q → t σ H Q) : PTs X es u := ⟨fun pins s σ H Q I q => h.run pins s σ H Q I (i σ H Q q)⟩
theorem dts_nil : DTs X [] rTrue := pts_imp pts_nil fun σ H Q ⟨S, μ, ρ, R, k, e, h, post⟩ => post S μ H _ k .refl h
theorem dts_one {c : Expr} {t : RT} (h : DT X c t) : DTs X [c] t := pts_one h
/-- the core: fin, what is wanted of the list at D -/
theorem up_lc {K : PySem.W.Frag} {fi : RI} {g : RG} {t : RT} {f : RX} {vs : List Nat} {S H : Hp} {μ : MH} {ρ : EV} {σ : L2.St} {Q : VK} {RR : List L3.D → MH → Prop} (k : OK K S μ H) (e : RepE K S σ ρ)
    (h : fi ρ μ fun ds C μ1 => ds.length ≤ sizeLine ∧ lcD g t f C (rms ρ vs) ds [] μ1 RR)
    (fin : ∀ S' μ' H' D zs ws, OK K S' μ' H' → Stp S μ H S' μ' H' → (H D = none ∨ ∃ m, μ D = some m) → S' D = none → μ' D = none → H' D = some (.lst ws) → Reps K S' ws zs → RR zs μ' → Q (.ref D) H') : tLc (upI K fi) (upG K g vs) (upT K t) (up K f) vs σ H Q := by
  refine ⟨S, μ, ρ, _, k, e, h, fun S1 μ1 H1 J ds C k1 s1 it q1 D hD => ?_⟩
  obtain ⟨hz, q1⟩ := q1
  obtain ⟨hSD, hMD⟩ := k1.free hD
  have HD : H D = none ∨ ∃ m, μ D = some m := by
    cases w : H D with
    | none => exact .inl rfl
    | some o =>
      cases w2 : μ D with
      | none => rw [s1.keep D o w w2] at hD; cases hD
      | some m => exact .inr ⟨m, rfl⟩
  refine ⟨fun i m H' => m = ds.length - i ∧ i ≤ ds.length ∧ ∃ S' μ' ws acc, OK K S' μ' H' ∧ Stp S1 μ1 H1 S' μ' H' ∧ S' D = none ∧ μ' D = none ∧ H' D = some (.lst ws) ∧ Reps K S' ws acc ∧ acc.length ≤ i ∧ lcD g t f C (rms ρ vs) (ds.drop i) acc μ' RR,
    ⟨_, rfl, Nat.zero_le _, S1, μ1, [], [], k1.hide hD, Stp.refl.aside hD, hSD, hMD, upd_same, .nil, Nat.le_refl _, by rw [List.drop_zero]; exact q1⟩, ?_⟩
  rintro i m H2 ⟨rfl, hi, S2, μ2, ws, acc, k2, s2, hS, hM, hL, ra, la, q2⟩
  have io := it S2 μ2 H2 k2 s2.same (lcD_c q2) i
  by_cases hlt : i < ds.length
  · have hd : ds[i]? = some ds[i] := List.getElem?_eq_getElem hlt
    have ed : ds.drop i = ds[i] :: ds.drop (i + 1) := List.drop_eq_getElem_cons hlt
    rw [ed] at q2
    obtain ⟨hgo, hy⟩ := io.1 _ hd
    -- what stays true of the list at D
    have st : ∀ {S3 μ3 H3}, Stp S2 μ2 H2 S3 μ3 H3 → S3 D = none ∧ μ3 D = none ∧ H3 D = some (.lst ws) ∧ Reps K S3 ws acc := fun {S3 μ3 H3} z => by
      refine ⟨?_, ?_, z.keep _ _ hL hM, ra.mono z.same⟩
      · cases w : S3 D with
        | none => rfl
        | some o =>
          rcases z.news D o w with a | a | ⟨m, a⟩
          · rw [hS] at a; cases a
          · rw [hL] at a; cases a
          · rw [hM] at a; cases a
      · cases w : μ3 D with
        | none => rfl
        | some o =>
          rcases z.mus D o w with a | ⟨m, a⟩
          · rw [hL] at a; cases a
          · rw [hM] at a; cases a
    refine .inr ⟨hgo, fun H' => ∃ S' μ' ws acc, OK K S' μ' H' ∧ Stp S1 μ1 H1 S' μ' H' ∧ S' D = none ∧ μ' D = none ∧ H' D = some (.lst ws) ∧ Reps K S' ws acc ∧ acc.length ≤ i + 1 ∧ lcD g t f C (rms ρ vs) (ds.drop (i + 1)) acc μ' RR, fun H' z => ⟨ds.length - (i + 1), by omega, rfl, hlt, z⟩, fun x H' y => ?_⟩
    obtain ⟨S3, k3, s3, r3⟩ := hy x H' y
    have e3 : RepE K S3 (wipe σ vs) (rms ρ vs) := (((e.mono s1.same).mono s2.same).mono s3.same).wipe vs
    refine ⟨S3, μ2, rms ρ vs, _, _, k3, e3, r3, q2.2, fun S4 μ4 H4 σ4 ρ4 k4 s4 e4 w4 q4 => ?_⟩
    have s24 := s3.trans s4
    refine ⟨w4.trans (wipe_idem vs σ), S4, μ4, ρ4, _, k4, e4, q4, fun S5 μ5 H5 b5 k5 s5 q5 => ?_⟩
    have s25 := s24.trans s5
    cases b5 with
    | false =>
      rw [if_neg Bool.false_ne_true] at q5
      refine iteF ?_
      obtain ⟨a1, a2, a3, a4⟩ := st s25
      exact ⟨S5, μ5, ws, acc, k5, s2.trans s25, a1, a2, a3, a4, by omega, q5⟩
    | true =>
      rw [if_pos rfl] at q5
      refine iteT ?_
      refine ⟨S5, μ5, ρ4, _, k5, e4.mono s5.same, q5, fun S6 μ6 H6 v6 d6 k6 s6 r6 q6 => ?_⟩
      have s26 := s25.trans s6
      obtain ⟨a1, a2, a3, a4⟩ := st s26
      refine ⟨ws, a3, by rw [ra.length]; omega, S6, μ6, ws ++ [v6], acc ++ [d6], k6.aside a1 a2, (s2.trans s26).aside hD, a1, a2, upd_same, a4.append (.cons r6 .nil), by simp; omega, q6⟩
  · have ei : i = ds.length := by omega
    subst ei
    rw [List.drop_length] at q2
    exact .inl ⟨io.2 rfl, fin S2 μ2 H2 D acc ws k2 (s1.trans s2) HD hS hM hL ra q2.2⟩
theorem up_lcF {K : PySem.W.Frag} {fi : RI} {g : RG} {t : RT} {f : RX} {vs : List Nat} : ∀ σ H Q, up K (rLc fi g t f vs) σ H Q → tLc (upI K fi) (upG K g vs) (upT K t) (up K f) vs σ H Q := fun σ H Q ⟨S, μ, ρ, R, k, e, h, post⟩ =>
  up_lc k e h fun S' μ' H' D zs ws k' s' n1 n2 n3 n4 r q => post _ _ _ _ _ (k'.take n4 n2 n3) (s'.takeS n1 n2) (.lst upd_same (r.mono (same_updn n2))) q
theorem up_lcM {K : PySem.W.Frag} {fi : RI} {g : RG} {t : RT} {f : RX} {vs : List Nat} : ∀ σ H Q, up K (rLcM fi g t f vs) σ H Q → tLc (upI K fi) (upG K g vs) (upT K t) (up K f) vs σ H Q := fun σ H Q ⟨S, μ, ρ, R, k, e, h, post⟩ =>
  up_lc k e h fun S' μ' H' D zs ws k' s' n1 n2 n3 n4 r q => post _ _ _ _ _ (k'.put' (m := .lst zs) n2 ⟨ws, n4, r⟩) (s'.takeM n1) (.ref D) (q D n3)
theorem de_lc {elt tg iter : Expr} {ifs : List Expr} {scope : Scope} (own : List (Str × Nat)) {pos : Pos} {fi : RI} {g : RG} {t : RT} {f : RX} (hN : X.N.Nodup) (hi : DI X tg iter fi) (ok : blkC X.N X.env.scope scope own = true)
    (hg : ∀ (s : Shared) (H : Hp) (C : Addr) (cl : List (Str × Addr)) (fp : List Addr), DG (X.blk s H scope (compEnvC scope cl C X.env) fp) tg g (own.map (·.2))) (ht : ∀ (s : Shared) (H : Hp) (C : Addr) (cl : List (Str × Addr)) (fp : List Addr), DTs (X.blk s H scope (compEnvC scope cl C X.env) fp) ifs t)
    (he : ∀ (s : Shared) (H : Hp) (C : Addr) (cl : List (Str × Addr)) (fp : List Addr), DE (X.blk s H scope (compEnvC scope cl C X.env) fp) elt f) (hc : X.calm = true := by rfl) (hs : ∀ x, foldedSetIterable iter X.env x = pure x := by intro _; rfl) :
    DE X (.ListComp elt [⟨tg, iter, ifs, 0⟩] scope pos) (rLc fi g t f (own.map (·.2))) := pe_imp (pe_lc hc hN hi (blkOk_by ok) hg ht he hs) up_lcF
theorem de_lcM {elt tg iter : Expr} {ifs : List Expr} {scope : Scope} (own : List (Str × Nat)) {pos : Pos} {fi : RI} {g : RG} {t : RT} {f : RX} (hN : X.N.Nodup) (hi : DI X tg iter fi) (ok : blkC X.N X.env.scope scope own = true)
    (hg : ∀ (s : Shared) (H : Hp) (C : Addr) (cl : List (Str × Addr)) (fp : List Addr), DG (X.blk s H scope (compEnvC scope cl C X.env) fp) tg g (own.map (·.2))) (ht : ∀ (s : Shared) (H : Hp) (C : Addr) (cl : List (Str × Addr)) (fp : List Addr), DTs (X.blk s H scope (compEnvC scope cl C X.env) fp) ifs t)
    (he : ∀ (s : Shared) (H : Hp) (C : Addr) (cl : List (Str × Addr)) (fp : List Addr), DE (X.blk s H scope (compEnvC scope cl C X.env) fp) elt f) (hc : X.calm = true := by rfl) (hs : ∀ x, foldedSetIterable iter X.env x = pure x := by intro _; rfl) :
    DE X (.ListComp elt [⟨tg, iter, ifs, 0⟩] scope pos) (rLcM fi g t f (own.map (·.2))) := pe_imp (pe_lc hc hN hi (blkOk_by ok) hg ht he hs) up_lcM
/-- name = [..] -/
theorem ds_setLc {i : Nat} {y : Str} {py : Pos} {elt tg iter : Expr} {ifs : List Expr} {scope : Scope} (own : List (Str × Nat)) {pos spos : Pos} {fi : RI} {g : RG} {t : RT} {f : RX} (hN : X.N.Nodup)
    (hsw : swapsWith (.ListComp elt [⟨tg, iter, ifs, 0⟩] scope pos) (some (.Name y py)) spos.line X.env = pure true) (hi : DI X tg iter fi) (ok : blkC X.N X.env.scope scope own = true)
    (hg : ∀ (s : Shared) (H : Hp) (C : Addr) (cl : List (Str × Addr)) (fp : List Addr), DG (X.blk s H scope (compEnvC scope cl C X.env) fp) tg g (own.map (·.2))) (ht : ∀ (s : Shared) (H : Hp) (C : Addr) (cl : List (Str × Addr)) (fp : List Addr), DTs (X.blk s H scope (compEnvC scope cl C X.env) fp) ifs t)
    (he : ∀ (s : Shared) (H : Hp) (C : Addr) (cl : List (Str × Addr)) (fp : List Addr), DE (X.blk s H scope (compEnvC scope cl C X.env) fp) elt f) (hy : X.N[i]? = some y := by rfl) (hyl : X.env.scope.names.lookup y = some .local := by rfl) (hc : X.calm = true := by rfl) (hs : ∀ x, foldedSetIterable iter X.env x = pure x := by intro _; rfl) :
    DS X (.Assign [.Name y py] (.ListComp elt [⟨tg, iter, ifs, 0⟩] scope pos) spos) (rAsg (rLc fi g t f (own.map (·.2))) (rGN i)) := ps_imp (ps_setLc hc hN hy hyl hsw hi (blkOk_by ok) hg ht he hs) fun D σ H ⟨S, μ, ρ, DD, k, e, h, l⟩ =>
  up_lcF σ H _ ⟨S, μ, ρ, _, k, e, h, fun S1 μ1 H1 v d k1 s1 r1 q1 => l.nx S1 μ1 H1 _ _ k1 s1 ((e.mono s1.same).set r1 i) q1⟩
theorem ds_setLcM {i : Nat} {y : Str} {py : Pos} {elt tg iter : Expr} {ifs : List Expr} {scope : Scope} (own : List (Str × Nat)) {pos spos : Pos} {fi : RI} {g : RG} {t : RT} {f : RX} (hN : X.N.Nodup)
    (hsw : swapsWith (.ListComp elt [⟨tg, iter, ifs, 0⟩] scope pos) (some (.Name y py)) spos.line X.env = pure true) (hi : DI X tg iter fi) (ok : blkC X.N X.env.scope scope own = true)
    (hg : ∀ (s : Shared) (H : Hp) (C : Addr) (cl : List (Str × Addr)) (fp : List Addr), DG (X.blk s H scope (compEnvC scope cl C X.env) fp) tg g (own.map (·.2))) (ht : ∀ (s : Shared) (H : Hp) (C : Addr) (cl : List (Str × Addr)) (fp : List Addr), DTs (X.blk s H scope (compEnvC scope cl C X.env) fp) ifs t)
    (he : ∀ (s : Shared) (H : Hp) (C : Addr) (cl : List (Str × Addr)) (fp : List Addr), DE (X.blk s H scope (compEnvC scope cl C X.env) fp) elt f) (hy : X.N[i]? = some y := by rfl) (hyl : X.env.scope.names.lookup y = some .local := by rfl) (hc : X.calm = true := by rfl) (hs : ∀ x, foldedSetIterable iter X.env x = pure x := by intro _; rfl) :
    DS X (.Assign [.Name y py] (.ListComp elt [⟨tg, iter, ifs, 0⟩] scope pos) spos) (rAsg (rLcM fi g t f (own.map (·.2))) (rGN i)) := ps_imp (ps_setLc hc hN hy hyl hsw hi (blkOk_by ok) hg ht he hs) fun D σ H ⟨S, μ, ρ, DD, k, e, h, l⟩ =>
  up_lcM σ H _ ⟨S, μ, ρ, _, k, e, h, fun S1 μ1 H1 v d k1 s1 r1 q1 => l.nx S1 μ1 H1 _ _ k1 s1 ((e.mono s1.same).set r1 i) q1⟩
end

/-! ### attributes set, lists changed -/
def rFldS (C : Addr) (f : Str) (fo fv : RX) : RS := fun D ρ μ => fv ρ μ fun z μ1 => fo ρ μ1 fun d μ2 => match d with
  | .ref p => (match μ2 p with
    | some (.ins C' fs) => C' = C ∧ fs.length < 1000 ∧ D.nx ρ (updM μ2 p (.ins C (putD f z fs)))
    | _ => False)
  | _ => False
section
variable {K : PySem.W.Frag} {X : Cx} {C : Addr} {f : Str} {o value : Expr} {fo fv : RX} {pos pos' : Pos}
theorem ds_fld (ho : DE X o fo) (hv : DE X value fv) (c : Cls X.K C) (n : NoAttr X.K C f) (hs : swapsWith value (some (.Attribute o f pos')) pos.line X.env = pure false := by rfl) : DS X (.Assign [.Attribute o f pos'] value pos) (rFldS C f fo fv) := ps_imp (ps_fld ho hv hs) fun D σ H ⟨S, μ, ρ, DD, k, e, h, l⟩ => by
  refine ⟨S, μ, ρ, _, k, e, h, fun S1 μ1 H1 v d k1 s1 r1 h1 => ?_⟩
  refine ⟨S1, μ1, ρ, _, k1, e.mono s1.same, h1, fun S2 μ2 H2 w d2 k2 s2 r2 h2 => ?_⟩
  cases d2 with
  | ref p =>
    cases r2.toRef
    have h2 : (match μ2 p with | some (.ins C' fs) => C' = C ∧ fs.length < 1000 ∧ DD.nx ρ (updM μ2 p (.ins C (putD f d fs))) | _ => False) := h2
    cases q : μ2 p with
    | none => rw [q] at h2; exact h2.elim
    | some m =>
      rw [q] at h2
      cases m with
      | lst _ => exact h2.elim
      | ins C' fs =>
        obtain ⟨rfl, hl, h2⟩ := h2
        obtain ⟨hS, dx, vfs, e1, r3⟩ := k2.mts p _ q
        refine ⟨p, C', dx, vfs, rfl, e1, c, n, by rw [r3.length]; exact hl, ?_⟩
        have k3 : OK X.K S2 (updM μ2 p (.ins C' (putD f d fs))) (upd H2 p (.ins C' dx (putF f v vfs))) := k2.put hS ⟨dx, _, upd_same, r3.put (r1.mono s2.same) f⟩
        have s3 : Stp S2 μ2 H2 S2 (updM μ2 p (.ins C' (putD f d fs))) (upd H2 p (.ins C' dx (putF f v vfs))) := .put q
        exact l.nx _ _ _ _ _ k3 ((s1.trans s2).trans s3) ((e.mono s1.same).mono s2.same) h2
  | _ => exact False.elim h2
/-- xs.append(e) -/
def rMut (fo : RX) (fa : RA) (g : List L3.D → List L3.D → (L3.D → List L3.D → Prop) → Prop) : RX := fun ρ μ R => fo ρ μ fun d μ1 => match d with
  | .ref p => (match μ1 p with
    | some (.lst _) => fa ρ μ1 fun ds μ2 => (match μ2 p with
      | some (.lst xs) => g xs ds fun z ys => R z (updM μ2 p (.lst ys))
      | _ => False)
    | _ => False)
  | _ => False
def gAppend : List L3.D → List L3.D → (L3.D → List L3.D → Prop) → Prop := fun xs ds R => match ds with
  | [d] => xs.length < sizeLine ∧ R .non (xs ++ [d])
  | _ => False
def gPopAt : List L3.D → List L3.D → (L3.D → List L3.D → Prop) → Prop := fun xs ds R => match ds with
  | [.int i] => -(2 ^ 63) ≤ i ∧ i < 2 ^ 63 ∧ (match seqIndex? i xs.length with
    | some k => (match xs[k]? with
      | some d => R d (xs.eraseIdx k)
      | none => False)
    | none => False)
  | _ => False
def SndM (K : PySem.W.Frag) (r : V → List V → Hp → VK → Prop) (g : List L3.D → List L3.D → (L3.D → List L3.D → Prop) → Prop) : Prop :=
  ∀ S μ H p vs xs ws ds (R : L3.D → List L3.D → Prop) (Q : VK), OK K S μ H → H p = some (.lst vs) → Reps K S vs xs → Reps K S ws ds → g xs ds R → (∀ z ys v us, Rep K S v z → Reps K S us ys → R z ys → Q v (upd H p (.lst us))) → r (.ref p) ws H Q
theorem snd_append : SndM K rAppend gAppend := by
  intro S μ H p vs xs ws ds R Q k h r rs q post
  unfold gAppend at q
  split at q
  · obtain ⟨v, rfl, r1⟩ := reps1 rs
    exact ⟨p, vs, v, rfl, rfl, h, by rw [r.length]; exact q.1, post _ _ _ _ .non (r.append (.cons r1 .nil)) q.2⟩
  · exact q.elim
theorem snd_popAt : SndM K rPopAt gPopAt := by
  intro S μ H p vs xs ws ds R Q k h r rs q post
  unfold gPopAt at q
  split at q
  · rename_i i
    obtain ⟨v, rfl, r1⟩ := reps1 rs
    cases r1.toInt
    obtain ⟨q1, q2, q⟩ := q
    cases e1 : seqIndex? i xs.length with
    | none => rw [e1] at q; exact q.elim
    | some j =>
      rw [e1] at q
      dsimp only at q
      cases e2 : xs[j]? with
      | none => rw [e2] at q; exact q.elim
      | some d =>
        rw [e2] at q
        obtain ⟨v, hv, rv⟩ := r.get e2
        exact ⟨p, vs, i, j, v, rfl, rfl, h, q1, q2, by rw [r.length]; exact e1, hv, post _ _ _ _ rv (r.eraseIdx j) q⟩
  · exact q.elim
section
variable {T : String} {name id : Str} {idS : String} {r : V → List V → Hp → VK → Prop} {g : List L3.D → List L3.D → (L3.D → List L3.D → Prop) → Prop} {e : Expr} {es : List Expr} {fa : RA}
theorem up_mut (s : SndM K r g) : ∀ σ H Q, up K (rMut fo fa g) σ H Q → tBM K "list" r (up K fo) (upA K fa) σ H Q := fun σ H Q ⟨S, μ, ρ, R, k, e, h, post⟩ => by
  refine ⟨S, μ, ρ, _, k, e, h, fun S1 μ1 H1 v d k1 s1 r1 h1 => ?_⟩
  cases d with
  | ref p =>
    cases r1.toRef
    have h1 : (match μ1 p with | some (.lst _) => fa ρ μ1 fun ds μ2 => (match μ2 p with | some (.lst xs) => g xs ds fun z ys => R z (updM μ2 p (.lst ys)) | _ => False) | _ => False) := h1
    cases q : μ1 p with
    | none => rw [q] at h1; exact h1.elim
    | some m =>
      rw [q] at h1
      cases m with
      | ins _ _ => exact h1.elim
      | lst xs0 =>
        obtain ⟨_, vs0, e0, _⟩ := k1.mts p _ q
        refine ⟨.inl ⟨rfl, _, .inl (.inl e0)⟩, S1, μ1, ρ, _, k1, e.mono s1.same, h1, fun S2 μ2 H2 ws ds k2 s2 r2 h2 => ?_⟩
        cases q2 : μ2 p with
        | none => rw [q2] at h2; exact h2.elim
        | some m2 =>
          rw [q2] at h2
          cases m2 with
          | ins _ _ => exact h2.elim
          | lst xs =>
            obtain ⟨hS, vs, e3, r3⟩ := k2.mts p _ q2
            refine s S2 μ2 H2 p vs xs ws ds _ Q k2 e3 r3 r2 h2 fun z ys w us rz ry h3 => ?_
            exact post S2 _ _ _ _ (k2.put (m := .lst ys) hS ⟨us, upd_same, ry⟩) ((s1.trans s2).trans (.put q2)) rz h3
  | _ => exact False.elim h1
end
end
end L3

/-! ## L3f -/
set_option Elab.async false
set_option linter.all false
set_option maxRecDepth 100000
set_option maxHeartbeats 4000000
namespace L3
open PySem PySem.Spec PyProof.Rows L2

section
variable {X : Cx} {o e i : Expr} {fo fe fi : RX} {fa : RA} {pos apos : Pos}
theorem de_append (ho : DE X o fo) (ha : DA X [e] fa) (hbase : attributeBase o "append" X.env (eval o X.env) = eval o X.env := by rfl)
    (hfew : ((backTo pos (starEach [e] X.env)).all (fun x => !x.1) && (backToKw pos (keywordEach [] X.env)).all (fun x => x.1.isSome)
      && decide ([e].length + ([] : List Keyword).length + (if ([] : List Keyword).isEmpty then 0 else 1) < 30)) = true := by rfl)
    (hline : (apos.endLine == pos.line) = true := by rfl) (hst : starEach [e] X.env = (false, eval e X.env) :: starEach [] X.env := by rfl) : DE X (.Call (.Attribute o "append" apos) [e] [] pos) (rMut fo fa gAppend) :=
  pe_imp (pe_bm PySem.F.plainAttrs_list PySem.F.slot_list_append PySem.F.type_list_append mt_append ho ha hbase hfew hline hst) (up_mut snd_append)
theorem de_popAt (ho : DE X o fo) (ha : DA X [e] fa) (hbase : attributeBase o "pop" X.env (eval o X.env) = eval o X.env := by rfl)
    (hfew : ((backTo pos (starEach [e] X.env)).all (fun x => !x.1) && (backToKw pos (keywordEach [] X.env)).all (fun x => x.1.isSome)
      && decide ([e].length + ([] : List Keyword).length + (if ([] : List Keyword).isEmpty then 0 else 1) < 30)) = true := by rfl)
    (hline : (apos.endLine == pos.line) = true := by rfl) (hst : starEach [e] X.env = (false, eval e X.env) :: starEach [] X.env := by rfl) : DE X (.Call (.Attribute o "pop" apos) [e] [] pos) (rMut fo fa gPopAt) :=
  pe_imp (pe_bm PySem.F.plainAttrs_list PySem.F.slot_list_pop PySem.F.type_list_pop mt_popAt ho ha hbase hfew hline hst) (up_mut snd_popAt)
/-- o[i] = e -/
def rSetIx (fe fo fi : RX) : RS := fun D ρ μ => fe ρ μ fun v μ1 => fo ρ μ1 fun d μ2 => fi ρ μ2 fun j μ3 => match d, j with
  | .ref p, .int k => (match μ3 p with
    | some (.lst xs) => (match ixN xs.length k with
      | some n => D.nx ρ (updM μ3 p (.lst (xs.set n v)))
      | none => False)
    | _ => False)
  | _, _ => False
theorem ds_setIx (he : DE X e fe) (ho : DE X o fo) (hi : DE X i fi) (hs : swapsWithSole [.Subscript o i apos] e pos.line X.env = pure false := by rfl) (hw : swappedStores [.Subscript o i apos] e X.env = pure none := by rfl)
    (h1 : (assignEach [.Subscript o i apos] X.env).map (·.2) = [assign (.Subscript o i apos) X.env] := by rfl)
    (ha : ∀ v, assign (.Subscript o i apos) X.env v = (do
      let ov ← holding [v] (eval o X.env)
      let iv ← holding [v, ov] (eval i X.env)
      standAt apos
      holding [v, ov, iv] (setItem ov iv v)
      release [v, ov, iv] []) := by intro _; rfl) : DS X (.Assign [.Subscript o i apos] e pos) (rSetIx fe fo fi) := ps_imp (ps_asg he (pg_sub ho hi set_list ha) hs hw h1) fun D σ H ⟨S, μ, ρ, DD, k, e, h, l⟩ => by
  refine ⟨S, μ, ρ, _, k, e, h, fun S1 μ1 H1 v d k1 s1 r1 h1 => ?_⟩
  refine ⟨S1, μ1, ρ, _, k1, e.mono s1.same, h1, fun S2 μ2 H2 w d2 k2 s2 r2 h2 => ?_⟩
  refine ⟨S2, μ2, ρ, _, k2, (e.mono s1.same).mono s2.same, h2, fun S3 μ3 H3 j d3 k3 s3 r3 h3 => ?_⟩
  cases d2 <;> cases d3 <;> first | exact False.elim h3 | skip
  rename_i p z
  cases r2.toRef
  cases r3.toInt
  have h3 : (match μ3 p with | some (.lst xs) => (match ixN xs.length z with | some n => DD.nx ρ (updM μ3 p (.lst (xs.set n d))) | none => False) | _ => False) := h3
  cases q : μ3 p with
  | none => rw [q] at h3; exact h3.elim
  | some m =>
    rw [q] at h3
    cases m with
    | ins _ _ => exact h3.elim
    | lst xs =>
      dsimp only at h3
      cases q2 : ixN xs.length z with
      | none => rw [q2] at h3; exact h3.elim
      | some n =>
        rw [q2] at h3
        obtain ⟨hS, vs, e1, r4⟩ := k3.mts p _ q
        refine ⟨p, vs, z, n, rfl, rfl, e1, by rw [r4.length]; exact q2, ?_⟩
        exact l.nx _ _ _ _ _ (k3.put (m := .lst (xs.set n d)) hS ⟨_, upd_same, r4.set (r1.mono (s2.trans s3).same) n⟩) (((s1.trans s2).trans s3).trans (.put q)) (((e.mono s1.same).mono s2.same).mono s3.same) h3
end

/-! ### a def keeps its promise -/
section
variable {P : Program} {w : World} {K : PySem.W.Frag} {mg : Str → Option Value} {base : Heap}
theorem fnD {x qual : Str} {params : Arguments} {bd : List Stmt} {scope : Scope} {dvs : List V} {kws : List (Str × V)} {f : Addr} {fd : FuncData} {N ps : List Str} {k : Nat} {s : GN} {body : RS} (F : FunD K x qual params bd scope dvs kws f fd) (Sc : FnScope N ps scope)
    (len : ∀ ds μ R, s ds μ R → ds.length = ps.length)
    (hb : ∀ (cdv : Value) (A : Around) (outer : List Env) (s0 : Shared) (H : Hp) (E : XK), Room k (A.deeper (envOfC qual scope s0.heap.objs.size f cdv)) → DSs (cxOf CX0 P w K mg base N qual scope f cdv A outer s0 H E).nox bd body)
    (hv : ∀ ds μ R, s ds μ R → body { nx := fun _ μ' => R .non μ', rt := R } (startD N.length ds) μ) : FnOk P w K mg base CX0 (k + 1) f fd ps (spD K s) := by
  refine F.ok Sc (fun vs H Q E h => ?_) fun cdv A outer s0 H vs Q E hr h => ⟨upS K body, PSs.nox (hb cdv A outer s0 H E hr), ?_⟩
  · obtain ⟨S, μ, ds, R, a, b, c, d⟩ := h
    rw [b.length]
    exact len ds μ R c
  · obtain ⟨S, μ, ds, R, a, b, c, d⟩ := h
    exact ⟨S, μ, _, _, a, repE_start b, hv ds μ R c, ⟨fun S' μ' H' σ' ρ' k' s' e' q' => d S' μ' H' _ _ k' s' .non q', fun S' μ' H' v z k' s' r' q' => d S' μ' H' v z k' s' r' q', fun _ _ _ _ _ _ _ _ q' => False.elim q', fun _ _ _ _ _ _ _ _ q' => False.elim q'⟩⟩
end

/-! ### the law -/
def lawS : GN := fun ds μ R => ∃ ns : List Int, ds = [.scr (ns.map D.int)] ∧ ns.length ≤ 63 ∧ (∀ p, μ p = none) ∧ ∀ μ', R (.bl true) μ'
theorem reps_ints {K : PySem.W.Frag} {S : Hp} : ∀ ns : List Int, Reps K S (ns.map V.int) (ns.map D.int)
  | [] => .nil
  | n :: r => .cons (.int n) (reps_ints r)
def spLaw (K : PySem.W.Frag) : Sp := fun vs H Q _ => ∃ (a : Addr) (ns : List Int), vs = [.ref a] ∧ SqL K H a (ns.map V.int) ∧ ns.length ≤ 63 ∧ ∀ H', Q (.bl true) H'
theorem law_imp {K : PySem.W.Frag} : ∀ vs H Q E, spLaw K vs H Q E → spD K lawS vs H Q E := fun vs H Q E ⟨a, ns, e, h, hl, q⟩ => by
  subst e
  refine ⟨H, fun _ => none, [.scr (ns.map D.int)], fun d _ => d = .bl true, ⟨fun _ _ z => z, fun _ _ z => nomatch z⟩, .cons (.scr h (reps_ints ns)) .nil, ⟨ns, rfl, hl, fun _ => rfl, fun _ => rfl⟩, fun S' μ' H' v d k s r h => ?_⟩
  subst h
  cases r.toBl
  exact q H'
end L3

/-! ## L3g -/
set_option Elab.async false
set_option linter.all false
set_option maxRecDepth 100000
set_option maxHeartbeats 4000000
namespace L3
open PySem PySem.Spec PyProof.Rows L2

/-! ### further rules -/
/-- a module's constant -/
structure ConstOk (K : PySem.W.Frag) (mg : Str → Option Value) (x : Str) (d : D) : Prop where
  ex : ∃ u v, mg x = some u ∧ RelV v u ∧ ∀ S, Rep K S v d
theorem ConstOk.de {X : Cx} {x : Str} {d : D} {pos : Pos} (c : ConstOk X.K X.mg x d) (hg : Gl X x := by rfl) (hd : (x == ("__debug__" : Str)) = false := by decide) : DE X (.Name x pos) (rC d) := by
  obtain ⟨u, v, a, b, r⟩ := c.ex
  exact de_glob hg a b r hd
theorem FnG.raw {P : Program} {w : World} {K : PySem.W.Frag} {mg : Str → Option Value} {base : Heap} {k : Nat} {x : Str} {s : GN} (F : FnG P w K mg base k x s) : ∃ f, FnR P w K mg base CX0 k f (spD K s) ∧ mg x = some (.ref f) ∧ PySem.W.keepIn K (.ref f) = true := by
  obtain ⟨f, fd, ps, a, b, c, d⟩ := F.ex
  have z := a.raw d (dvs := []) .nil
  simp only [List.append_nil] at z
  exact ⟨f, z, b, c⟩
section
variable {X : Cx} {k : Nat} {x : Str} {s : GN} {e : Expr} {es : List Expr} {fa : RA} {fe : RX} {p pos p2 : Pos}
/-- f(*xs) -/
theorem de_callS1 (F : FnG X.prog X.w X.K X.mg X.base k x s) (hr : Room k X.A) (hg : Gl X x) (he : DE X e fe) (hd : (x == ("__debug__" : Str)) = false := by decide)
    (hst : starEach [.Starred e p2] X.env = [(true, eval e X.env)] := by rfl) : DE X (.Call (.Name x p) [.Starred e p2] [] pos) (rCl s (rStar fe rNil)) := by
  obtain ⟨f, a, b, c⟩ := F.raw
  refine pe_imp (StX.pe_callS1 a hr c hg b pass0 he hd hst) fun σ H Q ⟨S, μ, ρ, R, k, e, h, post⟩ => ?_
  refine ⟨S, μ, ρ, _, k, e, h, fun S1 μ1 H1 v1 d1 k1 s1 r1 h1 => ?_⟩
  cases q : seqD (res μ1 d1) with
  | none => rw [q] at h1; exact h1.elim
  | some xs =>
    rw [q] at h1
    obtain ⟨y, vs, e1, h2, r2⟩ := seq_rep k1 r1 q
    have h1 : s (xs ++ []) μ1 R := h1
    rw [List.append_nil] at h1
    exact ⟨y, vs, e1, h2.symm, S1, μ1, xs, R, k1, r2, h1, fun S3 μ3 H3 v d k3 s3 r3 h3 => post S3 μ3 H3 v d k3 (s1.trans s3) r3 h3⟩
end
/-- C(e, ..) where the keyword-only defaults fill up: their data at the end -/
structure MkD (P : Program) (w : World) (K : PySem.W.Frag) (mg : Str → Option Value) (base : Heap) (k : Nat) (x : Str) (C : Addr) (s : GN) (dd : List D) : Prop where
  ex : ∃ f fd ps ds dvs, FnOk P w K mg base CX0 k f fd ps (spD K s) ∧ mg x = some (.ref C) ∧ Mk K C f ∧ Binds K fd ps ds ∧ Vals dvs ds ∧ ∀ S, Reps K S dvs dd
def rMakeD (g : GN) (dd : List D) (fa : RA) : RX := fun ρ μ R => fa ρ μ fun ds μ1 => g (ds ++ dd) μ1 R
section
variable {X : Cx} {k : Nat} {C : Addr} {x : Str} {s : GN} {dd : List D} {e : Expr} {es : List Expr} {fa : RA} {p pos : Pos}
theorem de_makeD (F : MkD X.prog X.w X.K X.mg X.base k x C s dd) (hr : Room (k + 1) X.A) (hg : Gl X x) (ha : DA X (e :: es) fa) (hdb : (x == ("__debug__" : Str)) = false := by decide)
    (he : starEach (e :: es) X.env = (false, eval e X.env) :: starEach es X.env := by rfl) (hpl : (backTo pos (starEach es X.env)).any (·.1) = false := by rfl) : DE X (.Call (.Name x p) (e :: es) [] pos) (rMakeD (gMake C s) dd fa) := by
  obtain ⟨f, fd, ps, ds, dvs, a, b, c, d, v, r⟩ := F.ex
  refine pe_imp (pe_make c a hr hg b d v pass0 ha hdb he hpl) fun σ H Q ⟨S, μ, ρ, R, k, e, h, post⟩ => ?_
  refine ⟨S, μ, ρ, _, k, e, h, fun S1 μ1 H1 vs ds k1 s1 r1 h1 y dx hx hd hn => ?_⟩
  exact make_snd k1 (r1.append (r S1)) h1 (fun S3 μ3 H3 v d k3 s3 r3 h3 => post S3 μ3 H3 v d k3 (s1.trans s3) r3 h3) hx hd hn
end
def rPar3 (i j l : Nat) (fa : RA) : RS := fun D ρ μ => fa ρ μ fun ds μ1 => match ds with
  | [a, b, c] => D.nx (st (st (st ρ i a) j b) l c) μ1
  | _ => False
theorem reps3 {K : PySem.W.Frag} {S : Hp} {xs : List V} {d d2 d3 : D} (r : Reps K S xs [d, d2, d3]) : ∃ v w u, xs = [v, w, u] ∧ Rep K S v d ∧ Rep K S w d2 ∧ Rep K S u d3 := by
  cases r with
  | cons h r =>
    obtain ⟨a, b, rfl, h1, h2⟩ := reps2 r
    exact ⟨_, _, _, rfl, h, h1, h2⟩
theorem ds_par3 {X : Cx} {i j l : Nat} {x y z : Str} {a b c : Expr} {fa : RA} {px py pz pt pos : Pos} {kt k2 pt2} (hN : X.N.Nodup) (ha : DA X [a, b, c] fa) (hij : i ≠ j := by decide) (hil : i ≠ l := by decide) (hjl : j ≠ l := by decide) (hi : X.N[i]? = some x := by rfl) (hj : X.N[j]? = some y := by rfl) (hl : X.N[l]? = some z := by rfl)
    (hx : X.env.scope.names.lookup x = some .local := by rfl) (hy : X.env.scope.names.lookup y = some .local := by rfl) (hz : X.env.scope.names.lookup z = some .local := by rfl) (hc : X.calm = true := by rfl)
    (hw : swappedStores [.Tuple [.Name x px, .Name y py, .Name z pz] kt pt] (.Tuple [a, b, c] k2 pt2) X.env = pure (some [x, y, z]) := by rfl)
    (hs : swapsWithSole [.Tuple [.Name x px, .Name y py, .Name z pz] kt pt] (.Tuple [a, b, c] k2 pt2) pos.line X.env = pure false := by rfl) :
    DS X (.Assign [.Tuple [.Name x px, .Name y py, .Name z pz] kt pt] (.Tuple [a, b, c] k2 pt2) pos) (rPar3 i j l fa) := ps_imp (ps_par3 hc hN hi hj hl hij hil hjl hx hy hz ha hw hs) fun D σ H ⟨S, μ, ρ, DD, k, e, h, q⟩ => by
  refine ⟨S, μ, ρ, _, k, e, h, fun S1 μ1 H1 ws ds k1 s1 r1 q1 => ?_⟩
  unfold rPar3 at q1
  split at q1
  · obtain ⟨u, v, w, rfl, r2, r3, r4⟩ := reps3 r1
    exact ⟨u, v, w, rfl, q.nx S1 μ1 H1 _ _ k1 s1 ((((e.mono s1.same).set r2 i).set r3 j).set r4 l) q1⟩
  · exact q1.elim

/-! ### isinstance of an own class -/
def isiB (K : PySem.W.Frag) (C : Addr) : Bool :=
  PySem.W.plainGet K C Str.empty && (PySem.W.hasDictIn K C && (PySem.W.plainOver K C && (decide (PySem.W.findIn K (.ref C) "__setattr__" = some (some (.builtin "object.__setattr__"))) &&
  (decide (PySem.W.findIn K (.ref C) "__class__" = some (some (.builtin "object.__class__"))) && (decide (PySem.W.specialIn K (.builtin "object.__class__") "__get__" = some (some (.builtin "getset_descriptor.__get__"))) &&
  (decide (PySem.W.takesIn K (.builtin "object.__class__") = some true) && (decide (PySem.W.mroIn K C (.type "object") = some true) && (decide (PySem.W.kitOne K (.ref C) (.ref C) = some true) &&
  (["NoneType", "bool", "int", "str", "tuple", "list"].all fun t => decide (PySem.W.kitOne K (.type t) (.ref C) = some false))))))))))
structure IsiO (K : PySem.W.Frag) (C : Addr) : Prop where
  cls : Cls K C
  ha : PySem.W.findIn K (.ref C) "__class__" = some (some (.builtin "object.__class__"))
  hn : PySem.W.specialIn K (.builtin "object.__class__") "__get__" = some (some (.builtin "getset_descriptor.__get__"))
  ht : PySem.W.takesIn K (.builtin "object.__class__") = some true
  hm : PySem.W.mroIn K C (.type "object") = some true
  own : PySem.W.kitOne K (.ref C) (.ref C) = some true
  oth : ∀ t : String, t ∈ ["NoneType", "bool", "int", "str", "tuple", "list"] → PySem.W.kitOne K (.type t) (.ref C) = some false
theorem isiO_of {K : PySem.W.Frag} {C : Addr} (h : isiB K C = true) : IsiO K C := by
  unfold isiB at h
  simp only [Bool.and_eq_true, decide_eq_true_eq, List.all_eq_true] at h
  obtain ⟨h1, h2, h3, h4, h5, h6, h7, h8, h9, h10⟩ := h
  exact ⟨⟨h1, h2, h3, h4⟩, h5, h6, h7, h8, h9, h10⟩
/-- the answer for data: its own class, or none of the program's -/
def isiC (C : Addr) (μ : MH) (d : D) : Option Bool := match insD μ d with
  | some (C', _) => if C' = C then some true else none
  | none => (match d with
    | .non => some false
    | .bl _ => some false
    | .int _ => some false
    | .str _ => some false
    | .tup _ => some false
    | .lst _ => some false
    | _ => none)
def gIsiO (C : Addr) : G1 := fun d μ R => match isiC C μ d with
  | some b => R (.bl b) μ
  | none => False
section
variable {X : Cx} {C : Addr} {x : Str} {e : Expr} {fe : RX} {p p2 pos : Pos}
theorem isi_rep {K : PySem.W.Frag} {S H : Hp} {μ : MH} {v : V} {d : D} {b : Bool} (F : IsiO K C) (k : OK K S μ H) (r : Rep K S v d) (h : isiC C μ d = some b) : ∃ t, TyX K H v t ∧ PySem.W.kitOne K t (.ref C) = some b := by
  unfold isiC at h
  cases q : insD μ d with
  | some z =>
    obtain ⟨C', fs⟩ := z
    rw [q] at h
    dsimp only at h
    by_cases e : C' = C
    · rw [if_pos e] at h
      cases h
      subst e
      obtain ⟨a, dx, vfs, rfl, h1, _⟩ := insD_rep k r q
      exact ⟨.ref C', .base (.ins h1 F.cls F.ha F.hn F.ht F.hm), F.own⟩
    · rw [if_neg e] at h; cases h
  | none =>
    rw [q] at h
    cases d with
    | non => cases h; cases r.toNon; exact ⟨_, .base .non, F.oth "NoneType" (by simp)⟩
    | bl b => cases h; cases r.toBl; exact ⟨_, .base (.bl _), F.oth "bool" (by simp)⟩
    | int b => cases h; cases r.toInt; exact ⟨_, .base (.int _), F.oth "int" (by simp)⟩
    | str b => cases h; cases r.toStr; exact ⟨_, .base (.str _), F.oth "str" (by simp)⟩
    | tup ds => cases h; obtain ⟨a, vs, rfl, h1, _⟩ := r.toTup; exact ⟨_, sqT_ty (sqT_same k.sub h1), F.oth "tuple" (by simp)⟩
    | lst ds =>
      cases h
      obtain ⟨a, vs, rfl, h1, _⟩ := res_lst (ds := ds) k r rfl
      exact ⟨_, .base (.lst h1), F.oth "list" (by simp)⟩
    | _ => cases h
theorem de_isiO (hm : X.mg "isinstance" = none) (gC : X.mg x = some (.ref C)) (F : IsiO X.K C) (hg : Gl X "isinstance") (hgx : Gl X x) (ha : DE X e fe) (hd : (x == ("__debug__" : Str)) = false := by decide)
    (he : starEach [e, .Name x p2] X.env = (false, eval e X.env) :: starEach [.Name x p2] X.env := by rfl) (he2 : starEach [.Name x p2] X.env = (false, eval (.Name x p2) X.env) :: starEach [] X.env := by rfl) (hpl : (backTo pos (starEach [.Name x p2] X.env)).any (·.1) = false := by rfl) : DE X (.Call (.Name "isinstance" p) [e, .Name x p2] [] pos) (rUn (gIsiO C) fe) :=
  pe_imp (pe_callB call_isi hg hm (by decide +kernel) (pa_cons ha (pa_cons (pe_glob (v := .ref C) hgx gC rfl hd) pa_nil he2) he) (by decide) (by decide) he hpl) fun σ H Q ⟨S, μ, ρ, R, k, e, h, post⟩ => by
    refine ⟨S, μ, ρ, _, k, e, h, fun S1 μ1 H1 v1 d1 k1 s1 r1 h1 => ?_⟩
    unfold gIsiO at h1
    cases q : isiC C μ1 d1 with
    | none => rw [q] at h1; exact h1.elim
    | some b =>
      rw [q] at h1
      obtain ⟨t, h2, h3⟩ := isi_rep F k1 r1 q
      exact ⟨v1, .ref C, t, .ref C, b, rfl, .own C, h2, h3, post S1 μ1 H1 _ _ k1 s1 (.bl b) h1⟩
end
end L3

/-! ## L3h -/
set_option Elab.async false
set_option linter.all false
set_option maxRecDepth 100000
set_option maxHeartbeats 4000000
/-! What the head reads besides: properties' getters, own calls. -/
namespace L3
open PySem PySem.Spec PyProof.Rows L2

/-- the getter of a property -/
def gtA (K : PySem.W.Frag) (C : Addr) (m : Str) : Addr := match PySem.W.recIn K (He.ma K C m) "property" with
  | some (.ref g :: _) => g
  | _ => 0
def propB (K : PySem.W.Frag) (C : Addr) (m : Str) : Bool :=
  decide (PySem.W.findIn K (.ref C) m = some (some (.ref (He.ma K C m))) ∧ PySem.W.specialIn K (.ref (He.ma K C m)) "__get__" = some (some (.builtin "property.__get__")) ∧ PySem.W.takesIn K (.ref (He.ma K C m)) = some true) &&
  (match PySem.W.recIn K (He.ma K C m) "property" with
    | some (.ref _ :: _) => true
    | _ => false)
theorem propB_ok {K : PySem.W.Frag} {C : Addr} {m : Str} (h : propB K C m = true) : PropOf K C m (He.ma K C m) (gtA K C m) := by
  unfold propB at h
  obtain ⟨h1, h2⟩ := Bool.and_eq_true_iff.mp h
  obtain ⟨a, b, c⟩ := of_decide_eq_true h1
  refine ⟨a, b, c, ?_⟩
  unfold gtA
  split at h2
  · rename_i g r e
    exact ⟨r, by rw [e]⟩
  · cases h2
theorem callO_ok {K : PySem.W.Frag} {C : Addr} (m : Meth K C "__call__" (He.ma K C "__call__")) (h : PySem.W.fnIn K (He.ma K C "__call__") = true) : StX.CallO K C (He.ma K C "__call__") := ⟨m.at_, m.fn, h⟩
/-- a def at an address of one's own -/
structure FnX where
  at_ : PySem.W.Frag → Addr
  name : Str
  qual : Str
  params : Arguments
  body : List Stmt
  scope : Scope
abbrev FxV : Type := Option ((Str × Str × Scope) × (Arguments × FuncBody) × (Addr × Addr) × List (Str × Addr) × Value)
def fxOf (fd : FuncData) : FxV := some ((fd.name, fd.qualname, fd.scope), (fd.params, fd.body), (fd.globals, fd.builtins), fd.closure, fd.defaults)
def FnX.obs (K : PySem.W.Frag) (d : FnX) : FxV := (K.lookup (d.at_ K)).bind fun o => match o with
  | ⟨_, _, .func fd, _⟩ => fxOf fd
  | _ => none
def FnX.val (d : FnX) : FxV := some ((d.name, d.qual, d.scope), (d.params, .stmts d.body), (mainGlobals, builtinsNs), [], .none)
def FnX.ok (K : PySem.W.Frag) (d : FnX) : Bool := PySem.W.keepIn K (.ref (d.at_ K)) && ((K.lookup (d.at_ K)).any fun o => match o with
  | ⟨_, _, .func fd, _⟩ => PySem.W.codeIn K fd.code d.qual
  | _ => false)
theorem FnX.funD {K : PySem.W.Frag} {d : FnX} (e : d.obs K = d.val) (c : d.ok K = true) : ∃ fd, FunD K d.name d.qual d.params d.body d.scope [] [] (d.at_ K) fd := by
  have hk := (Bool.and_eq_true_iff.mp c).1
  have hc := (Bool.and_eq_true_iff.mp c).2
  obtain ⟨o, ho, hv⟩ := Option.bind_eq_some_iff.mp e
  rw [ho] at hc
  obtain ⟨oc, od, dt, sl⟩ := o
  cases dt <;> first | (exfalso; cases hv; done) | skip
  rename_i fd
  simp only [Option.any_some] at hc
  have z : fxOf fd = d.val := hv
  unfold fxOf FnX.val at z
  simp only [Option.some.injEq, Prod.mk.injEq] at z
  obtain ⟨⟨z1, z2, z3⟩, ⟨z4, z5⟩, ⟨z6, z7⟩, z8, z9⟩ := z
  refine ⟨fd, ⟨oc, od, fd.defaults, fd.kwdefaults, fd.doc, fd.pyModule, fd.annotations, fd.code, fd.closureTuple, sl, ?_, ho, hc, .inl ⟨rfl, z9⟩, .inl rfl⟩, hk⟩
  cases fd
  simp only at z1 z2 z3 z4 z5 z6 z7 z8 z9
  subst z1 z2 z3 z4 z5 z6 z7 z8 z9
  rfl
/-! ### the hook: facts, defs, checks of one's own, getters -/
abbrev AlX : Type := (Bool × Bool) × He.AlD × List FxV
def obsX (xb : List (PySem.W.Frag → Bool)) (fa : List He.Fa) (fn : List He.DefD) (fx : List FnX) (K : PySem.W.Frag) : AlX := ((xb.all fun b => b K, fx.all fun d => d.ok K), He.obsD fa fn K, fx.map fun d => d.obs K)
def valX (fn : List He.DefD) (fx : List FnX) : AlX := ((true, true), He.valD fn, fx.map FnX.val)
def obsXG (n : Nat) (xb : List (PySem.W.Frag → Bool)) (fa : List He.Fa) (fn : List He.DefD) (fx : List FnX) (g : Addr → Option Obj) : AlX := obsX xb fa fn fx (He.frG g (He.asD g n))
def hookX (n : Nat) (xb : List (PySem.W.Frag → Bool)) (fa : List He.Fa) (fn : List He.DefD) (fx : List FnX) : PySem.W.Hook where
  α := AlX
  obs := fun s => obsXG n xb fa fn fx s.heap.get?
  val := fun _ => valX fn fx
  says := fun _ h => ∃ K : PySem.W.Frag, K.In h ∧ obsX xb fa fn fx K = valX fn fx
  of := fun _ _ e => ⟨_, He.frG_in, e⟩
  keeps := fun _ _ _ ⟨K, hK, c⟩ k => ⟨K, hK.keeps k, c⟩
theorem obsXG_eq {n : Nat} {xb : List (PySem.W.Frag → Bool)} {fa : List He.Fa} {fn : List He.DefD} {fx : List FnX} (s : PySem.W.SharedT) : obsXG n xb fa fn fx (HandSHeadRun.getT s) = (hookX n xb fa fn fx).obs s.abs := by
  have e : HandSHeadRun.getT s = s.abs.heap.get? := funext (HandSHeadRun.getT_eq s)
  rw [e]
  rfl
section
variable {xb : List (PySem.W.Frag → Bool)} {fa : List He.Fa} {fn : List He.DefD} {fx : List FnX} {K : PySem.W.Frag}
theorem says_d (c : obsX xb fa fn fx K = valX fn fx) : He.SaysD fa fn K := congrArg (fun z : AlX => z.2.1) c
theorem says_b (c : obsX xb fa fn fx K = valX fn fx) (i : Nat) {b : PySem.W.Frag → Bool} (h : xb[i]? = some b := by rfl) : b K = true :=
  List.all_eq_true.mp (congrArg (fun z : AlX => z.1.1) c) b (List.mem_of_getElem? h)
theorem says_x (c : obsX xb fa fn fx K = valX fn fx) (i : Nat) {d : FnX} (h : fx[i]? = some d := by rfl) : ∃ fd, FunD K d.name d.qual d.params d.body d.scope [] [] (d.at_ K) fd := by
  have e : (fx.map fun d => d.obs K) = fx.map FnX.val := congrArg (fun z : AlX => z.2.2) c
  have e2 : (fx.map fun d => d.obs K)[i]? = (fx.map FnX.val)[i]? := by rw [e]
  rw [List.getElem?_map, List.getElem?_map, h] at e2
  exact FnX.funD (Option.some.inj e2) (List.all_eq_true.mp (congrArg (fun z : AlX => z.1.2) c) d (List.mem_of_getElem? h))
end
/-- a def that promises nothing -/
theorem FnOk.none {P : Program} {w : World} {K : PySem.W.Frag} {mg : Str → Option Value} {base : Heap} {f : Addr} {fd : FuncData} {ps : List Str} {k : Nat} : FnOk P w K mg base CX0 k f fd ps (spD K fun _ _ _ => False) :=
  ⟨fun _ _ _ _ ⟨_, _, _, _, _, _, h, _⟩ => h.elim, fun _ _ _ _ _ _ _ _ _ _ _ _ _ ⟨_, _, _, _, _, _, h, _⟩ => h.elim⟩
/-- a module's tuple -/
theorem constTup {K : PySem.W.Frag} {mg : Str → Option Value} {x : Str} {vs : List He.Dv} {ds : List D} (g : mg x = some (.ref (He.ga K x))) (h : He.tupB K x vs = true) (r : ∀ S, Reps K S (vs.map (He.Dv.v K)) ds) : ConstOk K mg x (.tup ds) :=
  ⟨.ref (He.ga K x), .ref (He.ga K x), g, rfl, fun S => .tup (He.tupB_ok h S) (r S)⟩
end L3

/-! ## L3i -/
set_option Elab.async false
set_option linter.all false
set_option maxRecDepth 100000
set_option maxHeartbeats 4000000
/-! More readings. -/
namespace L3
open PySem PySem.Spec PyProof.Rows L2
def rChain (g g' : G2) (fa fb fc : RX) : RX := fun ρ μ R => fa ρ μ fun x μ1 => fb ρ μ1 fun y μ2 => g x y μ2 fun d μ3 => match d with
  | .bl b => if b = true then fc ρ μ3 fun z μ4 => g' y z μ4 R else R (.bl false) μ3
  | _ => False
section
variable {K : PySem.W.Frag} {X : Cx} {a b c : Expr} {fa fb fc : RX} {pos : Pos}
theorem up_chain {r r' : R2} {g g' : G2} (s : Snd2 K r g) (s' : Snd2 K r' g') : ∀ σ H Q, up K (rChain g g' fa fb fc) σ H Q → tChain r r' (up K fa) (up K fb) (up K fc) σ H Q := by
  rintro σ H Q ⟨S, μ, ρ, R, k, e, h, post⟩
  refine ⟨S, μ, ρ, _, k, e, h, fun S1 μ1 H1 v1 d1 k1 s1 r1 h1 => ?_⟩
  refine ⟨S1, μ1, ρ, _, k1, e.mono s1.same, h1, fun S2 μ2 H2 v2 d2 k2 s2 r2 h2 => ?_⟩
  refine s S2 μ2 H2 v1 v2 d1 d2 _ _ k2 (r1.mono s2.same) r2 h2 fun S3 μ3 H3 v d k3 s3 r3 h3 => ?_
  cases d with
  | bl b =>
    refine ⟨b, r3.toBl, ?_⟩
    have h3 : (if b = true then fc ρ μ3 fun z μ4 => g' d2 z μ4 R else R (.bl false) μ3) := h3
    have s13 := (s1.trans s2).trans s3
    cases b with
    | true =>
      rw [if_pos rfl] at h3 ⊢
      refine ⟨S3, μ3, ρ, _, k3, e.mono s13.same, h3, fun S4 μ4 H4 v4 d4 k4 s4 r4 h4 => ?_⟩
      exact s' S4 μ4 H4 v2 v4 d2 d4 R Q k4 (r2.mono (s3.trans s4).same) r4 h4 fun S5 μ5 H5 v5 d5 k5 s5 r5 h5 => post S5 μ5 H5 v5 d5 k5 ((s13.trans s4).trans s5) r5 h5
    | false =>
      rw [if_neg Bool.false_ne_true] at h3 ⊢
      exact post S3 μ3 H3 _ _ k3 s13 (.bl _) h3
  | _ => exact False.elim h3
theorem de_chain {op op' : CmpOp} {r r' : R2} {g g' : G2} (ho : OpR X (compareOp op) r) (ho' : OpR X (compareOp op') r') (s : Snd2 X.K r g) (s' : Snd2 X.K r' g') (ha : DE X a fa) (hb : DE X b fb) (hc : DE X c fc)
    (hm : lastMarks [op, op'] [b, c] = false := by with_unfolding_all rfl) : DE X (.Compare a [op, op'] [b, c] pos) (rChain g g' fa fb fc) := pe_imp (pe_chain ho ho' ha hb hc hm) (up_chain s s')
theorem de_chain_le_le (ha : DE X a fa) (hb : DE X b fb) (hc : DE X c fc) (hm : lastMarks [.LtE, .LtE] [b, c] = false := by with_unfolding_all rfl) : DE X (.Compare a [.LtE, .LtE] [b, c] pos) (rChain gLe gLe fa fb fc) :=
  de_chain op_le op_le (snd_I0 fun i j S => .bl _) (snd_I0 fun i j S => .bl _) ha hb hc hm
theorem dt_chain {op op' : CmpOp} {r r' : R2} {g g' : G2} (ho : OpR X (compareOp op) r) (ho' : OpR X (compareOp op') r') (s : Snd2 X.K r g) (s' : Snd2 X.K r' g') (ha : DE X a fa) (hb : DE X b fb) (hc : DE X c fc)
    (hm : lastMarks [op, op'] [b, c] = false := by with_unfolding_all rfl) : DT X (.Compare a [op, op'] [b, c] pos) (rB (rChain g g' fa fb fc)) := pt_imp (pt_chain ho ho' ha hb hc hm) fun σ H Q ⟨S, μ, ρ, R, k, e, h, post⟩ => by
  refine up_chain s s' σ H (fun x H' => ∃ k, x = .bl k ∧ Q k H') ⟨S, μ, ρ, _, k, e, h, fun S1 μ1 H1 v1 d1 k1 s1 r1 h1 => ?_⟩
  cases d1 <;> first | exact False.elim h1 | skip
  cases r1.toBl
  exact ⟨_, rfl, post S1 μ1 H1 _ k1 s1 h1⟩
theorem dt_chain_le_le (ha : DE X a fa) (hb : DE X b fb) (hc : DE X c fc) (hm : lastMarks [.LtE, .LtE] [b, c] = false := by with_unfolding_all rfl) : DT X (.Compare a [.LtE, .LtE] [b, c] pos) (rB (rChain gLe gLe fa fb fc)) :=
  dt_chain op_le op_le (snd_I0 fun i j S => .bl _) (snd_I0 fun i j S => .bl _) ha hb hc hm
end
end L3

/-! ## L3j -/
set_option Elab.async false
set_option linter.all false
set_option maxRecDepth 100000
set_option maxHeartbeats 4000000
/-! Classes whose __init__ takes a star parameter. -/
namespace L3
open PySem PySem.Spec PyProof.Rows L2 StX
def starSp (sp : Sp) : Sp := fun vs H Q E => ∃ ws rest, vs = ws ++ rest ∧ ws.length = ([""] : List Str).length ∧ rest.length ≤ sizeLine ∧ ∀ p, H p = Option.none → sp (ws ++ [V.ref p]) (upd H p (.tup rest)) Q E
/-- the class x, its __init__(self, *v): s speaks of [self, the tuple] -/
structure MkS (P : Program) (w : World) (K : PySem.W.Frag) (mg : Str → Option Value) (base : Heap) (k : Nat) (x : Str) (C : Addr) (s : GN) : Prop where
  ex : ∃ f, FnR P w K mg base CX0 k f (starSp (spD K s)) ∧ mg x = some (.ref C) ∧ Mk K C f
def starG (s : GN) : GN := fun es μ R => match es with
  | d :: r => s [d, .tup r] μ R
  | [] => False
def gMakeS (C : Addr) (s : GN) : GN := fun ds μ R => ds.length ≤ sizeLine ∧ gMake C (starG s) ds μ R
section
variable {P : Program} {w : World} {K : PySem.W.Frag} {mg : Str → Option Value} {base : Heap}
theorem fnS {x qual : Str} {params : Arguments} {bd : List Stmt} {scope : Scope} {f : Addr} {fd : FuncData} {N : List Str} {p1 pv : Str} {k : Nat} {s : GN} {body : RS} (F : FunD K x qual params bd scope [] [] f fd) (Sc : FnScope N [p1, pv] scope)
    (hbind : ∀ (kV doc pm : Value) (an : Option Addr) (cdv ct : Value), (∀ a : Value, bindArgs (PySem.W.fnOf x qual params bd scope .none kV doc pm an cdv ct) ⟨[a], []⟩ = (newTuple [] >>= fun t => pure [(p1, a), (pv, t)])) ∧ (∀ (a r : Value) (rs : List Value), bindArgs (PySem.W.fnOf x qual params bd scope .none kV doc pm an cdv ct) ⟨a :: r :: rs, []⟩ = (newTuple (r :: rs) >>= fun t => pure [(p1, a), (pv, t)])))
    (hb : ∀ (cdv : Value) (A : Around) (outer : List Env) (s0 : Shared) (H : Hp) (E : XK), Room k (A.deeper (envOfC qual scope s0.heap.objs.size f cdv)) → DSs (cxOf CX0 P w K mg base N qual scope f cdv A outer s0 H E).nox bd body)
    (hv : ∀ ds μ R, s ds μ R → body { nx := fun _ μ' => R .non μ', rt := R } (startD N.length ds) μ) : FnR P w K mg base CX0 (k + 1) f (starSp (spD K s)) := by
  obtain ⟨oc, od, dV, kV, doc, pm, an, cdv, ct, osl, rfl, lk, hcd, hD, _⟩ := F.ex
  rcases hD with ⟨_, rfl⟩ | ⟨e, _⟩
  · have q := fn_star (ps := [p1]) (pv := pv) (P := P) (w := w) (mg := mg) (base := base) (sp := spD K s) lk hcd Sc cxUp_none (bind_star1 (B := fun us => bindArgs (PySem.W.fnOf x qual params bd scope .none kV doc pm an cdv ct) ⟨us, []⟩) (hbind kV doc pm an cdv ct).1 (hbind kV doc pm an cdv ct).2)
      (fun A outer s0 H vs Q E hr h => ⟨upS K body, PSs.nox (hb cdv A outer s0 H E hr), by
        obtain ⟨S, μ, ds, R, a, b, c, d⟩ := h
        exact ⟨S, μ, _, _, a, repE_start b, hv ds μ R c, ⟨fun S' μ' H' σ' ρ' k' s' e' q' => d S' μ' H' _ _ k' s' .non q', fun S' μ' H' v z k' s' r' q' => d S' μ' H' v z k' s' r' q', fun _ _ _ _ _ _ _ _ q' => False.elim q', fun _ _ _ _ _ _ _ _ q' => False.elim q'⟩⟩⟩)
    exact q
  · exact absurd rfl e
end
section
variable {K : PySem.W.Frag} {S H : Hp} {μ : MH} {C : Addr} {s : GN}
theorem make_sndS {R : D → MH → Prop} {Q : VK} {vs : List V} {ds : List D} {x dx : Addr} {E : XK} (k : OK K S μ H) (r : Reps K S vs ds) (q : gMakeS C s ds μ R) (post : Pst K S μ H R Q) (hx : H x = none) (hd : H dx = none) (hn : dx ≠ x) :
    starSp (spD K s) (.ref x :: vs) (upd (upd H dx (.own x)) x (.ins C dx [])) (fun v H2 => v = .non ∧ Q (.ref x) H2) E := by
  obtain ⟨hl, q⟩ := q
  obtain ⟨k1, s1⟩ := k.newI (C := C) hx hd hn
  refine ⟨[.ref x], vs, rfl, rfl, by rw [r.length]; exact hl, fun p hp => ?_⟩
  obtain ⟨k0, s0⟩ := k1.alloc (o := .tup vs) hp
  refine ⟨_, _, [.ref x, .tup ds], _, k0, .cons (.ref x) (.cons (.tup (.inl (.inl upd_same)) (r.mono s0.same)) .nil), q x (k.free hx).2, fun S2 μ2 H2 v d k2 s2 r2 h2 => ?_⟩
  obtain ⟨rfl, h2⟩ := h2
  refine ⟨r2.toNon, ?_⟩
  cases e : μ2 x with
  | none => rw [e] at h2; exact h2.elim
  | some m =>
    cases m with
    | lst _ => rw [e] at h2; exact h2.elim
    | ins C' fs =>
      rw [e] at h2
      obtain ⟨_, dx', vfs, e2, r3⟩ := k2.mts x _ e
      obtain ⟨k3, s3⟩ := k2.freeze e e2
      exact post _ _ _ _ _ k3 (((s1.trans s0).trans s2).trans s3) (.ins upd_same (r3.mono s3.same)) h2
end
section
variable {X : Cx} {k : Nat} {C : Addr} {x : Str} {s : GN} {e : Expr} {es : List Expr} {fe : RX} {fa : RA} {p pos sp_ : Pos}
theorem de_makeS (F : MkS X.prog X.w X.K X.mg X.base k x C s) (hr : Room (k + 1) X.A) (hg : Gl X x) (ha : DA X (e :: es) fa) (hdb : (x == ("__debug__" : Str)) = false := by decide)
    (he : starEach (e :: es) X.env = (false, eval e X.env) :: starEach es X.env := by rfl) (hpl : (backTo pos (starEach es X.env)).any (·.1) = false := by rfl) : DE X (.Call (.Name x p) (e :: es) [] pos) (rCl (gMakeS C s) fa) := by
  obtain ⟨f, a, b, c⟩ := F.ex
  refine pe_imp (pe_makeR c a hr hg b pass0 ha hdb he hpl) fun σ H Q ⟨S, μ, ρ, R, k, e, h, post⟩ => ?_
  refine ⟨S, μ, ρ, _, k, e, h, fun S1 μ1 H1 vs ds k1 s1 r1 h1 y dx hx hd hn => ?_⟩
  exact make_sndS k1 r1 h1 (fun S3 μ3 H3 v d k3 s3 r3 h3 => post S3 μ3 H3 v d k3 (s1.trans s3) r3 h3) hx hd hn
theorem pe_makeR0 {CX : CXT} {sp : Sp} {E : XK} {f : Addr} (M : Mk X.K C f) (F : FnR X.prog X.w X.K X.mg X.base CX k f sp) (hr : Room (k + 1) X.A) (hg : Gl X x) (hm : X.mg x = some (.ref C)) (hx : Passes CX X E) (hdb : (x == ("__debug__" : Str)) = false := by decide) :
    PE X (.Call (.Name x p) [] [] pos) (fun σ H Q => ∀ x dx, H x = Option.none → H dx = Option.none → dx ≠ x → sp [V.ref x] (upd (upd H dx (.own x)) x (.ins C dx [])) (fun v H2 => v = .non ∧ Q (.ref x) H2) E) := by
  refine ⟨fun pins s σ H Q I h => ?_⟩
  refine wpAny_Call_Name_kw (ld_glob I hg hm ?_ hdb)
  exact PySem.W.callWith_K0 I.kIn M.kp (run_makeR M F hr hx I .nil h)
theorem de_makeS0 (F : MkS X.prog X.w X.K X.mg X.base k x C s) (hr : Room (k + 1) X.A) (hg : Gl X x) (hdb : (x == ("__debug__" : Str)) = false := by decide) : DE X (.Call (.Name x p) [] [] pos) (rCl (gMakeS C s) rNil) := by
  obtain ⟨f, a, b, c⟩ := F.ex
  refine pe_imp (pe_makeR0 c a hr hg b pass0 hdb) fun σ H Q ⟨S, μ, ρ, R, k, e, h, post⟩ y dx hx hd hn => ?_
  exact make_sndS k .nil h (fun S3 μ3 H3 v d k3 s3 r3 h3 => post S3 μ3 H3 v d k3 s3 r3 h3) hx hd hn
theorem pe_makeR1 {CX : CXT} {sp : Sp} {E : XK} {f : Addr} {te : TE} (M : Mk X.K C f) (F : FnR X.prog X.w X.K X.mg X.base CX k f sp) (hr : Room (k + 1) X.A) (hg : Gl X x) (hm : X.mg x = some (.ref C)) (hx : Passes CX X E) (he : PE X e te) (hdb : (x == ("__debug__" : Str)) = false := by decide)
    (hst : starEach [.Starred e sp_] X.env = [(true, eval e X.env)] := by rfl) :
    PE X (.Call (.Name x p) [.Starred e sp_] [] pos) (fun σ H Q => te σ H fun y H1 => ∃ a xs, y = V.ref a ∧ (SqT X.K H1 a xs ∨ SqL X.K H1 a xs) ∧ ∀ x dx, H1 x = Option.none → H1 dx = Option.none → dx ≠ x → sp (V.ref x :: xs) (upd (upd H1 dx (.own x)) x (.ins C dx [])) (fun v H2 => v = .non ∧ Q (.ref x) H2) E) := by
  refine ⟨fun pins s σ H Q I h => ?_⟩
  refine wpAny_Call_Name_kw (ld_glob I hg hm ?_ hdb)
  refine PySem.W.callWith_S (h₀ := X.base) I.ok.mod.kin M.kp (thn (he.run pins s σ H _ I h) fun v s1 ⟨y, H1, I1, ry, a, xs, ey, hxs, q⟩ => ?_) hst
  subst ey
  obtain rfl : v = Value.ref a := ry
  exact star_any I1 hxs fun us s2 I2 rv => ⟨I2.kIn, run_makeR M F hr hx I2 rv q⟩
theorem de_makeS1 (F : MkS X.prog X.w X.K X.mg X.base k x C s) (hr : Room (k + 1) X.A) (hg : Gl X x) (ha : DE X e fe) (hdb : (x == ("__debug__" : Str)) = false := by decide)
    (hst : starEach [.Starred e sp_] X.env = [(true, eval e X.env)] := by rfl) : DE X (.Call (.Name x p) [.Starred e sp_] [] pos) (rCl (gMakeS C s) (rStar fe rNil)) := by
  obtain ⟨f, a, b, c⟩ := F.ex
  refine pe_imp (pe_makeR1 c a hr hg b pass0 ha hdb hst) fun σ H Q ⟨S, μ, ρ, R, k, e, h, post⟩ => ?_
  refine ⟨S, μ, ρ, _, k, e, h, fun S1 μ1 H1 v d k1 s1 r1 h1 => ?_⟩
  cases e1 : seqD (res μ1 d) with
  | none => rw [e1] at h1; exact h1.elim
  | some ds =>
    rw [e1] at h1
    obtain ⟨a, xs, rfl, h2, r2⟩ := seq_rep k1 r1 e1
    have h1 : gMakeS C s (ds ++ []) μ1 R := h1
    rw [List.append_nil] at h1
    exact ⟨a, xs, rfl, h2.symm, fun y dx hx hd hn => make_sndS k1 r2 h1 (fun S3 μ3 H3 v d k3 s3 r3 h3 => post S3 μ3 H3 v d k3 (s1.trans s3) r3 h3) hx hd hn⟩
end
end L3

/-! ## L3k -/
set_option Elab.async false
set_option linter.all false
set_option maxRecDepth 100000
set_option maxHeartbeats 4000000
/-! zip of two rows, each a list or a tuple. -/
namespace L3
open PySem PySem.Spec PyProof.Rows L2
/-- a list (true) or a tuple (false) at a -/
def SqB (K : PySem.W.Frag) : Bool → Hp → Addr → List V → Prop
  | true, H, a, xs => SqL K H a xs
  | false, H, a, xs => SqT K H a xs
def ItIs (h : Heap) : Bool → Addr → Addr → Nat → Prop
  | true => h.IsListIter
  | false => h.IsTupleIter
def SqIs (h : Heap) : Bool → Addr → Array Value → Prop
  | true => h.IsList
  | false => h.IsTuple
theorem inv_sq {X : Cx} {pins : List (Addr × Obj)} {σ : L2.St} {H : Hp} {s : Shared} {a : Addr} {xs : List V} (I : Inv X pins σ H s) : ∀ (b : Bool), SqB X.K b H a xs → ∃ its : List Value, Vals xs its ∧ SqIs s.heap b a its.toArray
  | true, h => let ⟨its, rv, p, _⟩ := I.list h; ⟨its, rv, p.isList⟩
  | false, h => let ⟨its, rv, p, _⟩ := I.tuple h; ⟨its, rv, p⟩
theorem inj_sq {X : Cx} {pins : List (Addr × Obj)} {σ : L2.St} {H : Hp} {s : Shared} {a : Addr} {xs ys : List V} (I : Inv X pins σ H s) : ∀ (b : Bool), SqB X.K b H a xs → SqB X.K b H a ys → xs = ys
  | true, h, h' => I.list_inj h h'
  | false, h, h' => I.tuple_inj h h'
theorem sq_lt {h : Heap} {a : Addr} {its : Array Value} : ∀ (b : Bool), SqIs h b a its → a < h.objs.size
  | true, p => let ⟨_, e, _⟩ := p; Heap.lt_size e
  | false, p => let ⟨_, e, _⟩ := p; Heap.lt_size e
theorem it_obj {h : Heap} {i l : Addr} {k : Nat} : ∀ (b : Bool), ItIs h b i l k → ∃ o, h.get? i = some o ∧ ∀ v, o.data ≠ .cell v
  | true, ⟨o, e, _, d⟩ => ⟨o, e, fun v q => by rw [d] at q; cases q⟩
  | false, ⟨o, e, _, d⟩ => ⟨o, e, fun v q => by rw [d] at q; cases q⟩
theorem it_at {h h' : Heap} {i l : Addr} {k : Nat} : ∀ (b : Bool), ItIs h b i l k → (∀ o, h.get? i = some o → h'.get? i = some o) → ItIs h' b i l k
  | true, p, e => Heap.IsListIter.at p e
  | false, p, e => Heap.IsTupleIter.at p e
theorem draws_sq {prog : Program} {w : World} {A : Around} (hh : A.handled = none) (it l : Addr) (ne : l ≠ it) (its : Array Value) : ∀ b : Bool, Draws prog w A it [it, l] its.size (fun i v => its[i]? = some v) (fun i h => ItIs h b it l i ∧ SqIs h b l its)
  | true => Draws.list hh it l ne its
  | false => Draws.tuple hh it l ne its
theorem zip_sep {z TI TO i1 i2 a b : Addr} (D : ZipApart z TI TO i1 i2 a b) : ZipSep2 z TI TO i1 i2 [i1, a] [i2, b] := by
  refine ⟨D.TIz, D.TOz, D.TITO, D.TIi1, by simp, ?_, ?_, D.TIi2, by simp, ?_, ?_, ?_, ?_⟩ <;> simp
  · exact ⟨D.i1z.symm, D.l1z.symm⟩
  · exact ⟨D.TOi1, D.l1TO.symm⟩
  · exact ⟨D.i2z.symm, D.l2z.symm⟩
  · exact ⟨D.TOi2, D.l2TO.symm⟩
  · exact ⟨D.i12, D.l2i1.symm⟩
  · exact ⟨D.i12.symm, D.l1i2.symm⟩
/-- the rows at a and b as they stand at each turn, the items in new pairs -/
def ItzB (K : PySem.W.Frag) (ka kb : Bool) (a b : Addr) : It :=
  ⟨fun i H => ∃ (xs ys : List V) (x y : V), SqB K ka H a xs ∧ SqB K kb H b ys ∧ xs[i]? = some x ∧ ys[i]? = some y,
   fun i H v H' => ∃ T x y, v = .ref T ∧ H T = none ∧ H' = upd H T (.tup [x, y]) ∧ (∀ xs, SqB K ka H a xs → xs[i]? = some x) ∧ ∀ ys, SqB K kb H b ys → ys[i]? = some y,
   fun i H => ∃ xs ys : List V, SqB K ka H a xs ∧ SqB K kb H b ys ∧ i ≤ xs.length ∧ i ≤ ys.length ∧ (i = xs.length ∨ i = ys.length)⟩
theorem turn_zipB {P : Program} {w : World} {K : PySem.W.Frag} {elts : List Expr} {kk : Nat} {tpos : Pos} {ka kb : Bool} {a b z TI TO i1 i2 : Addr} (D : ZipApart z TI TO i1 i2 a b) :
    Turn P w K (.Tuple elts kk tpos) (ItzB K ka kb a b) [z, TI, TO, i1, i2] z (fun i h => IsZip h z TI TO .none ∧ IsPair h TI (.ref i1) (.ref i2) ∧ (∃ x y, IsPair h TO x y) ∧ ItIs h ka i1 a i ∧ ItIs h kb i2 b i) := by
  have five : ∀ {c : Addr}, c ∈ [z, TI, TO, i1, i2] → c = z ∨ c = TI ∨ c = TO ∨ c = i1 ∨ c = i2 := fun hc => by simpa using hc
  refine ⟨by simp, ?_, ?_, ?_, ?_, fun A i s Q E st h => wpAny_pyIter_zip st.1 h⟩
  · rintro i h ⟨sz, sI, ⟨x, y, sO⟩, j1, j2⟩ c hc
    rcases five hc with rfl | rfl | rfl | rfl | rfl
    · exact ⟨_, sz, fun v q => nomatch q⟩
    · exact ⟨_, sI, fun v q => nomatch q⟩
    · exact ⟨_, sO, fun v q => nomatch q⟩
    · exact it_obj ka j1
    · exact it_obj kb j2
  · rintro i h h' ⟨sz, sI, ⟨x, y, sO⟩, j1, j2⟩ kp
    exact ⟨kp z (by simp) _ sz, kp TI (by simp) _ sI, ⟨x, y, kp TO (by simp) _ sO⟩, it_at ka j1 fun o q => kp i1 (by simp) o q, it_at kb j2 fun o q => kp i2 (by simp) o q⟩
  · intro X hP hw hK hc i pins s σ H E I hf st hg
    subst hP hw hK
    obtain ⟨sz, sI, ⟨x0, y0, sO⟩, j1, j2⟩ := st
    obtain ⟨xs, ys, x, y, qa, qb, hx, hy⟩ := hg
    obtain ⟨its, rv, p⟩ := inv_sq I ka qa
    obtain ⟨jts, rw', p2⟩ := inv_sq I kb qb
    obtain ⟨u, hu, ru⟩ := rv.get hx
    obtain ⟨u2, hu2, ru2⟩ := rw'.get hy
    have hh : X.A.in1.handled = none := I.ok.hd hc
    have lz : z < s.heap.objs.size := Heap.lt_size sz
    have n1 : i < its.toArray.size := by
      have := (List.getElem?_eq_some_iff.mp hu).1
      simpa using this
    have n2 : i < jts.toArray.size := by
      have := (List.getElem?_eq_some_iff.mp hu2).1
      simpa using this
    refine wpAny_pyNext_zipD2_item (zip_sep D) (draws_sq hh i1 a D.l1i1 its.toArray ka) (draws_sq hh i2 b D.l2i2 jts.toArray kb) sz sI sO ⟨j1, p⟩ ⟨j2, p2⟩ n1 n2 fun w1 w2 h' tk b1 b2 z' o' k1 k2 hT hsz hk => ?_
    have eu : w1 = u := by
      have : its[i]? = some w1 := by simpa using b1
      exact Option.some.inj (this.symm.trans hu)
    have eu2 : w2 = u2 := by
      have : jts[i]? = some w2 := by simpa using b2
      exact Option.some.inj (this.symm.trans hu2)
    subst eu eu2
    refine ⟨_, rfl, wpAny_letOwnedTupleGo_zip (s := { s with heap := h', toks := tk }) z' fun h2 z2 sb => ?_⟩
    have hT2 : h2.get? s.heap.objs.size = some { cls := .type "tuple", data := .seq #[w1, w2] } := by rw [sb.2 _ (Nat.ne_of_gt lz)]; exact hT
    have hk2 : ∀ c o, c ≠ z → c ≠ TO → c ≠ i1 → c ≠ i2 → s.heap.get? c = some o → h2.get? c = some o := fun c o c1 c2 c3 c4 q => by rw [sb.2 _ c1]; exact hk c o c1 c2 c3 c4 q
    have fresh : ObjOk X.prog X.w (upd H s.heap.objs.size (.tup [x, y])) h2 s.heap.objs.size (.tup [x, y]) := ⟨(by decide : 2 ≤ sizeLine), [w1, w2], .cons ru (.cons ru2 .nil), ⟨_, hT2, rfl, _, rfl⟩⟩
    have J : Inv X pins σ (upd H s.heap.objs.size (.tup [x, y])) { s with heap := h2, toks := tk } :=
      I.turnedNew (t' := tk) (ch := [z, TI, TO, i1, i2]) (fun c o hb q => hk2 c o (fun e => hb (by simp [e])) (fun e => hb (by simp [e])) (fun e => hb (by simp [e])) (fun e => hb (by simp [e])) q) hf (Nat.le_refl _) fresh
    refine ⟨.ref s.heap.objs.size, _, J, rfl, ⟨_, x, y, rfl, I.hok.fresh (Nat.le_refl _), rfl, fun l hl => by rw [inj_sq I ka hl qa]; exact hx, fun l hl => by rw [inj_sq I kb hl qb]; exact hy⟩, ⟨z2, hk2 _ _ D.TIz D.TITO D.TIi1 D.TIi2 sI, ⟨w1, w2, ?_⟩, ?_, ?_⟩, fun c hcm => ?_⟩
    · show h2.get? TO = _
      rw [sb.2 _ D.TOz]
      exact o'
    · exact it_at ka k1.1 fun o q => by rw [sb.2 _ D.i1z]; exact q
    · exact it_at kb k2.1 fun o q => by rw [sb.2 _ D.i2z]; exact q
    · have lt : c < s.heap.objs.size := by
        rcases five hcm with rfl | rfl | rfl | rfl | rfl
        · exact lz
        · exact Heap.lt_size sI
        · exact Heap.lt_size sO
        · obtain ⟨_, e, _⟩ := it_obj ka j1; exact Heap.lt_size e
        · obtain ⟨_, e, _⟩ := it_obj kb j2; exact Heap.lt_size e
      rw [upd_ne (Nat.ne_of_lt lt)]
      exact (hf c hcm).1
  · intro X hP hw hK hc i pins s σ H E I hf st hg
    subst hP hw hK
    obtain ⟨sz, sI, ⟨x0, y0, sO⟩, j1, j2⟩ := st
    obtain ⟨xs, ys, qa, qb, l1, l2, hend⟩ := hg
    obtain ⟨its, rv, p⟩ := inv_sq I ka qa
    obtain ⟨jts, rw', p2⟩ := inv_sq I kb qb
    have hh : X.A.in1.handled = none := I.ok.hd hc
    have e1 := rv.length
    have e2 := rw'.length
    refine wpAny_pyNext_zipD2_end (zip_sep D) (draws_sq hh i1 a D.l1i1 its.toArray ka) (draws_sq hh i2 b D.l2i2 jts.toArray kb) sz sI sO ⟨j1, p⟩ ⟨j2, p2⟩ (by simp; omega) (by simp; omega) (by simp; omega) fun h' tk hk => ⟨rfl, ?_⟩
    exact I.turnedL (t' := tk) (ch := [z, TI, TO, i1, i2]) (fun c o hb q => hk c o (fun e => hb (by simp [e])) (fun e => hb (by simp [e])) (fun e => hb (by simp [e])) (fun e => hb (by simp [e])) q) hf
def itO : Bool → Addr → Obj
  | true, l => { cls := .type "list_iterator", data := .fields #[.ref l, .int 0 0] }
  | false, l => { cls := .type "tuple_iterator", data := .fields #[.ref l, .int 0 0] }
theorem begins_sq (l : Addr) (its : Array Value) : ∀ b : Bool, Begins (.ref l) (itO b l) fun h => SqIs h b l its
  | true => begins_list l its
  | false => begins_tuple l its
theorem it_of {h : Heap} {i l : Addr} : ∀ b : Bool, h.get? i = some (itO b l) → ItIs h b i l 0
  | true, e => ⟨_, e, rfl, rfl⟩
  | false, e => ⟨_, e, rfl, rfl⟩
def iZipB (K : PySem.W.Frag) (ta : TA) : TI := fun σ H R => ta σ H fun vs H1 => ∃ a b xs ys ka kb, vs = [.ref a, .ref b] ∧ SqB K ka H1 a xs ∧ SqB K kb H1 b ys ∧ R (ItzB K ka kb a b) H1
theorem pi_zipB {X : Cx} {e e2 : Expr} {ta : TA} {p pos tpos : Pos} {elts : List Expr} {kk : Nat} (hg : Gl X "zip") (hm : X.mg "zip" = none) (ha : PA X [e, e2] ta)
    (hs : starEach [e, e2] X.env = (false, eval e X.env) :: starEach [e2] X.env := by rfl) (hpl : (backTo pos (starEach [e2] X.env)).any (·.1) = false := by rfl) :
    PI X (.Tuple elts kk tpos) (.Call (.Name "zip" p) [e, e2] [] pos) (iZipB X.K ta) := by
  refine ⟨fun pins s σ H R I h => Call_ (ld_blt I hg hm PyProof.Rows.boot_zip (PyProof.Rows.callWith_type1 (thn (ha.run pos pins s σ H _ I h) ?_) hs hpl))⟩
  rintro us s1 ⟨vs, H1, I1, r1, a, b, xs, ys, ka, kb, rfl, qa, qb, q⟩
  cases r1 with
  | cons r rr =>
    cases rr with
    | cons r' rr =>
      cases rr
      cases r
      cases r'
      obtain ⟨its, rv, p1⟩ := inv_sq I1 ka qa
      obtain ⟨jts, rw', p2⟩ := inv_sq I1 kb qb
      refine zip_begins2 (begins_sq a its.toArray ka) (begins_sq b jts.toArray kb) p1 p2 fun h' sz sI sO j1 j2 hsz hk => wpAny_pyIter_zip sz ?_
      refine ⟨s1.heap.objs.size + 4, [s1.heap.objs.size + 4, s1.heap.objs.size + 2, s1.heap.objs.size + 3, s1.heap.objs.size, s1.heap.objs.size + 1], _, _, H1, rfl, (I1.kept (t' := s1.toks) hk), turn_zipB (PySem.W.ktu_apart s1.heap.objs.size a b (sq_lt ka p1) (sq_lt kb p2)), ⟨sz, sI, ⟨_, _, sO⟩, it_of ka j1, it_of kb j2⟩, fun c hcm => ?_, q⟩
      have ge : s1.heap.objs.size ≤ c := by
        have : c = s1.heap.objs.size + 4 ∨ c = s1.heap.objs.size + 2 ∨ c = s1.heap.objs.size + 3 ∨ c = s1.heap.objs.size ∨ c = s1.heap.objs.size + 1 := by simpa using hcm
        rcases this with rfl | rfl | rfl | rfl | rfl <;> simp
      exact I1.fpOk ge (I1.hok.fresh ge)
/-! ### as a reading -/
def rowD : D → Option (List D)
  | .lst ds => some ds
  | .tup ds => some ds
  | _ => none
def zipD : List D → List D → List D
  | x :: xs, y :: ys => .tup [x, y] :: zipD xs ys
  | _, _ => []
theorem zipD_len : ∀ (xs ys : List D), (zipD xs ys).length = min xs.length ys.length
  | [], ys => by simp [zipD]
  | x :: xs, [] => by simp [zipD]
  | x :: xs, y :: ys => by
    show (zipD xs ys).length + 1 = _
    rw [zipD_len xs ys, List.length_cons, List.length_cons]
    omega
theorem zipD_get : ∀ {xs ys : List D} {i : Nat} {d : D}, (zipD xs ys)[i]? = some d → ∃ x y, xs[i]? = some x ∧ ys[i]? = some y ∧ d = .tup [x, y]
  | [], ys, i, d, h => by simp [zipD] at h
  | x :: xs, [], i, d, h => by simp [zipD] at h
  | x :: xs, y :: ys, 0, d, h => ⟨x, y, rfl, rfl, by
    have : some (D.tup [x, y]) = some d := h
    exact (Option.some.inj this).symm⟩
  | x :: xs, y :: ys, i + 1, d, h => by
    have h : (zipD xs ys)[i]? = some d := h
    obtain ⟨u, v, h1, h2, h3⟩ := zipD_get h
    exact ⟨u, v, h1, h2, h3⟩
theorem row_rep {K : PySem.W.Frag} {S : Hp} {v : V} {d : D} {ds : List D} (r : Rep K S v d) (e : rowD d = some ds) : ∃ a vs b, v = .ref a ∧ Reps K S vs ds ∧ ∀ S1 μ1 H1, OK K S1 μ1 H1 → Same S S1 → SqB K b H1 a vs := by
  cases r with
  | lst h r =>
    cases e
    exact ⟨_, _, true, rfl, r, fun S1 μ1 H1 k1 e1 => SqL.of (k1.sub _ _ (e1 _ _ h))⟩
  | tup h r =>
    cases e
    exact ⟨_, _, false, rfl, r, fun S1 μ1 H1 k1 e1 => sqT_same k1.sub (sqT_same e1 h)⟩
  | _ => cases e
def rIZip (fa : RA) : RI := fun ρ μ R => fa ρ μ fun ds μ1 => match ds with
  | [x, y] => (match rowD x, rowD y with
    | some xs, some ys => R (zipD xs ys) tru μ1
    | _, _ => False)
  | _ => False
theorem itok_zip {K : PySem.W.Frag} {S : Hp} {a b : Addr} {ka kb : Bool} {us vs : List V} {xs ys : List D} {C : MH → Prop} (ra : Reps K S us xs) (rb : Reps K S vs ys)
    (ha : ∀ S1 μ1 H1, OK K S1 μ1 H1 → Same S S1 → SqB K ka H1 a us) (hb : ∀ S1 μ1 H1, OK K S1 μ1 H1 → Same S S1 → SqB K kb H1 b vs) : ItOk K S (ItzB K ka kb a b) (zipD xs ys) C := fun S1 μ1 H1 k1 e1 c1 i => by
  have qa := ha S1 μ1 H1 k1 e1
  have qb := hb S1 μ1 H1 k1 e1
  refine ⟨fun d hd => ?_, fun hi => ⟨us, vs, qa, qb, ?_⟩⟩
  · obtain ⟨x, y, h1, h2, rfl⟩ := zipD_get hd
    obtain ⟨u, hu, ru⟩ := ra.get h1
    obtain ⟨v, hv, rv⟩ := rb.get h2
    refine ⟨⟨us, vs, u, v, qa, qb, hu, hv⟩, fun z H' ⟨T, u', v', ez, hT, eH, f1, f2⟩ => ?_⟩
    have eu : u' = u := Option.some.inj ((f1 us qa).symm.trans hu)
    have ev : v' = v := Option.some.inj ((f2 vs qb).symm.trans hv)
    subst ez eH eu ev
    obtain ⟨k2, s2⟩ := k1.alloc (o := .tup [u', v']) hT
    exact ⟨_, k2, s2, .tup (.inl (.inl upd_same)) (.cons ((ru.mono e1).mono s2.same) (.cons ((rv.mono e1).mono s2.same) .nil))⟩
  · rw [zipD_len, ← ra.length, ← rb.length] at hi
    omega
theorem di_zip {X : Cx} {a b : Expr} {fa : RA} {p pos tpos : Pos} {elts : List Expr} {kk : Nat} (hg : Gl X "zip") (hm : X.mg "zip" = none) (ha : DA X [a, b] fa)
    (hs : starEach [a, b] X.env = (false, eval a X.env) :: starEach [b] X.env := by rfl) (hpl : (backTo pos (starEach [b] X.env)).any (·.1) = false := by rfl) : DI X (.Tuple elts kk tpos) (.Call (.Name "zip" p) [a, b] [] pos) (rIZip fa) :=
  pi_imp (pi_zipB hg hm ha hs hpl) fun σ H R ⟨S, μ, ρ, RR, k, e, h, post⟩ => by
    refine ⟨S, μ, ρ, _, k, e, h, fun S1 μ1 H1 ws ds k1 s1 r1 q1 => ?_⟩
    unfold rIZip at q1
    cases r1 with
    | nil => exact False.elim q1
    | cons rx r2 =>
      cases r2 with
      | nil => exact False.elim q1
      | cons ry r3 =>
        cases r3 with
        | cons _ _ => exact False.elim q1
        | nil =>
          rename_i x dx y dy
          dsimp only at q1
          cases e1 : rowD dx with
          | none => rw [e1] at q1; exact False.elim q1
          | some xs =>
            cases e2 : rowD dy with
            | none => rw [e1, e2] at q1; exact False.elim q1
            | some ys =>
              rw [e1, e2] at q1
              obtain ⟨a', us, ka, rfl, ra, fa'⟩ := row_rep rx e1
              obtain ⟨b', vs, kb, rfl, rb, fb'⟩ := row_rep ry e2
              exact ⟨a', b', us, vs, ka, kb, rfl, fa' _ _ _ k1 (fun _ _ h => h), fb' _ _ _ k1 (fun _ _ h => h), post S1 μ1 H1 _ _ tru k1 s1 (itok_zip ra rb fa' fb') q1⟩
end L3

/-! ## NM -/
set_option maxHeartbeats 1000000
set_option linter.all false
/-! Numbers of two parts: lowest terms, sums, products, by their values in Rat. Plain Lean. -/
namespace NM

structure Num where
  x : Int
  y : Int
  d : Int
  deriving DecidableEq

def gz (a b : Int) : Int := ((Int.gcd a b : Nat) : Int)
/-- the program's: sign * v // g -/
def low (x y d : Int) : Num :=
  let g := gz (gz x y) d
  let s : Int := if 0 < d then 1 else -1
  ⟨(s * x).fdiv g, (s * y).fdiv g, (s * d).fdiv g⟩
/-- the law's: v // (+-g) -/
def lowL (x y d : Int) : Num :=
  let g := gz (gz x y) d
  let g2 := if 0 < d then g else 0 - g
  ⟨x.fdiv g2, y.fdiv g2, d.fdiv g2⟩
/-- in lowest terms, d positive -/
def Can (z : Num) : Prop := 0 < z.d ∧ gz (gz z.x z.y) z.d = 1

theorem gz_nn (a b : Int) : 0 ≤ gz a b := Int.natCast_nonneg _
theorem gz_dl (a b : Int) : gz a b ∣ a := Int.gcd_dvd_left ..
theorem gz_dr (a b : Int) : gz a b ∣ b := Int.gcd_dvd_right ..
theorem gz_pos {a b : Int} (h : b ≠ 0) : 0 < gz a b := by
  have : Int.gcd a b ≠ 0 := fun e => h (Int.gcd_eq_zero_iff.mp e).2
  unfold gz; omega
theorem dvd_gz {k a b : Int} (h1 : k ∣ a) (h2 : k ∣ b) : k ∣ gz a b := Int.dvd_coe_gcd h1 h2
theorem g3_x (x y d : Int) : gz (gz x y) d ∣ x := Int.dvd_trans (gz_dl _ _) (gz_dl _ _)
theorem g3_y (x y d : Int) : gz (gz x y) d ∣ y := Int.dvd_trans (gz_dl _ _) (gz_dr _ _)
theorem g3_d (x y d : Int) : gz (gz x y) d ∣ d := gz_dr _ _
theorem fdiv_mul' {g k : Int} (h : g ≠ 0) : (g * k).fdiv g = k := by
  rw [Int.fdiv_eq_ediv_of_dvd (Int.dvd_mul_right ..)]
  exact Int.mul_ediv_cancel_left _ h
/-- low as a quotient: v = k * part -/
theorem low_spec {x y d : Int} (h : d ≠ 0) : ∃ k : Int, k ≠ 0 ∧ x = k * (low x y d).x ∧ y = k * (low x y d).y ∧ d = k * (low x y d).d ∧ 0 < (low x y d).d ∧ k.natAbs = (gz (gz x y) d).natAbs := by
  have hg : 0 < gz (gz x y) d := gz_pos h
  obtain ⟨a, ha⟩ := g3_x x y d
  obtain ⟨b, hb⟩ := g3_y x y d
  obtain ⟨c, hc⟩ := g3_d x y d
  have hgn : gz (gz x y) d ≠ 0 := by omega
  unfold low
  generalize gz (gz x y) d = g at *
  by_cases hd : 0 < d
  · simp only [if_pos hd]
    refine ⟨g, hgn, ?_, ?_, ?_, ?_, rfl⟩
    · rw [Int.one_mul, ha, fdiv_mul' hgn]
    · rw [Int.one_mul, hb, fdiv_mul' hgn]
    · rw [Int.one_mul, hc, fdiv_mul' hgn]
    · rw [Int.one_mul, hc, fdiv_mul' hgn]
      rw [hc] at hd
      exact Int.pos_of_mul_pos_right hd hg
  · simp only [if_neg hd]
    refine ⟨-g, by omega, ?_, ?_, ?_, ?_, by omega⟩
    · rw [ha, show -1 * (g * a) = g * (-a) by grind, fdiv_mul' hgn]; grind
    · rw [hb, show -1 * (g * b) = g * (-b) by grind, fdiv_mul' hgn]; grind
    · rw [hc, show -1 * (g * c) = g * (-c) by grind, fdiv_mul' hgn]; grind
    · rw [hc, show -1 * (g * c) = g * (-c) by grind, fdiv_mul' hgn]
      have : 0 < g * (-c) := by rw [hc] at hd h; grind
      exact Int.pos_of_mul_pos_right this hg
theorem low_can {x y d : Int} (h : d ≠ 0) : Can (low x y d) := by
  obtain ⟨k, hk, ex, ey, ed, hp, hkg⟩ := low_spec (x := x) (y := y) h
  refine ⟨hp, ?_⟩
  generalize low x y d = z at *
  -- k * g' divides all, so it divides g
  have h1 : k * gz (gz z.x z.y) z.d ∣ gz (gz x y) d := by
    refine dvd_gz (dvd_gz ?_ ?_) ?_
    · rw [ex]; exact Int.mul_dvd_mul_left _ (g3_x ..)
    · rw [ey]; exact Int.mul_dvd_mul_left _ (g3_y ..)
    · rw [ed]; exact Int.mul_dvd_mul_left _ (g3_d ..)
  have hg' : 0 < gz (gz z.x z.y) z.d := gz_pos (by omega)
  have h2 := Int.natAbs_dvd_natAbs.mpr h1
  rw [Int.natAbs_mul, ← hkg] at h2
  have hk' : 0 < k.natAbs := by omega
  have h3 : (gz (gz z.x z.y) z.d).natAbs ∣ 1 := by
    obtain ⟨c, hc⟩ := h2
    refine ⟨c, ?_⟩
    have : k.natAbs * 1 = k.natAbs * ((gz (gz z.x z.y) z.d).natAbs * c) := by rw [Nat.mul_one, ← Nat.mul_assoc]; exact hc
    exact Nat.eq_of_mul_eq_mul_left hk' this
  have h4 := Nat.dvd_one.mp h3
  omega
/-- two canonical numbers of one value are one -/
theorem can_ext {a b : Num} (ha : Can a) (hb : Can b) (h1 : a.x * b.d = b.x * a.d) (h2 : a.y * b.d = b.y * a.d) : a = b := by
  obtain ⟨pa, ga⟩ := ha
  obtain ⟨pb, gb⟩ := hb
  -- a.d divides b.d: a.d divides b.d * a.x, b.d * a.y, b.d * a.d
  have key : ∀ (p q : Num), 0 < p.d → gz (gz p.x p.y) p.d = 1 → p.x * q.d = q.x * p.d → p.y * q.d = q.y * p.d → p.d ∣ q.d := by
    intro p q pp gp e1 e2
    have d1 : p.d ∣ p.x * q.d := ⟨q.x, by rw [e1]; exact Int.mul_comm ..⟩
    have d2 : p.d ∣ p.y * q.d := ⟨q.y, by rw [e2]; exact Int.mul_comm ..⟩
    have d3 : p.d ∣ p.d * q.d := ⟨q.d, rfl⟩
    have e : ((Int.gcd (((Int.gcd p.x p.y : Nat) : Int)) p.d : Nat) : Int) = 1 := gp
    have e' : Int.gcd (((Int.gcd p.x p.y : Nat) : Int)) p.d = 1 := by omega
    have m1 : p.d ∣ ((Int.gcd (p.x * q.d) (p.y * q.d) : Nat) : Int) := Int.dvd_coe_gcd d1 d2
    rw [Int.gcd_mul_right] at m1
    have m2 : p.d ∣ ((Int.gcd p.x p.y : Nat) : Int) * q.d := by
      have : (((Int.gcd p.x p.y) * q.d.natAbs : Nat) : Int) = ((Int.gcd p.x p.y : Nat) : Int) * (q.d.natAbs : Int) := by simp
      rw [this] at m1
      rcases Int.natAbs_eq q.d with h | h
      · rw [h]; exact m1
      · rw [h, Int.mul_neg]; exact Int.dvd_neg.mpr m1
    have m3 : p.d ∣ ((Int.gcd (((Int.gcd p.x p.y : Nat) : Int) * q.d) (p.d * q.d) : Nat) : Int) := Int.dvd_coe_gcd m2 d3
    rw [Int.gcd_mul_right, e', Nat.one_mul] at m3
    exact Int.dvd_natAbs.mp m3
  have k1 := key a b pa ga h1 h2
  have k2 := key b a pb gb h1.symm h2.symm
  have ed : a.d = b.d := Int.dvd_antisymm (by omega) (by omega) k1 k2
  have hd : a.d ≠ 0 := by omega
  have ex : a.x = b.x := by
    rw [← ed] at h1
    exact Int.eq_of_mul_eq_mul_right hd h1
  have ey : a.y = b.y := by
    rw [← ed] at h2
    exact Int.eq_of_mul_eq_mul_right hd h2
  cases a; cases b
  simp only at ex ey ed
  subst ex ey ed
  rfl
theorem low_eq {x y d x' y' d' : Int} (h : d ≠ 0) (h' : d' ≠ 0) (h1 : x * d' = x' * d) (h2 : y * d' = y' * d) : low x y d = low x' y' d' := by
  obtain ⟨k, hk, ex, ey, ed, _⟩ := low_spec (x := x) (y := y) h
  obtain ⟨l, hl, fx, fy, fd, _⟩ := low_spec (x := x') (y := y') h'
  refine can_ext (low_can h) (low_can h') ?_ ?_
  · generalize low x y d = z at *
    generalize low x' y' d' = w at *
    have : (k * l) * (z.x * w.d) = (k * l) * (w.x * z.d) := by rw [ex, fd, fx, ed] at h1; grind
    exact Int.eq_of_mul_eq_mul_left (Int.mul_ne_zero hk hl) this
  · generalize low x y d = z at *
    generalize low x' y' d' = w at *
    have : (k * l) * (z.y * w.d) = (k * l) * (w.y * z.d) := by rw [ey, fd, fy, ed] at h2; grind
    exact Int.eq_of_mul_eq_mul_left (Int.mul_ne_zero hk hl) this
theorem low_self {z : Num} (h : Can z) : low z.x z.y z.d = z := by
  have hd : z.d ≠ 0 := by have := h.1; omega
  obtain ⟨k, hk, ex, ey, ed, _⟩ := low_spec (x := z.x) (y := z.y) hd
  refine can_ext (low_can hd) h ?_ ?_ <;> grind
theorem lowL_eq {x y d : Int} (h : d ≠ 0) : lowL x y d = low x y d := by
  have hg : 0 < gz (gz x y) d := gz_pos h
  obtain ⟨a, ha⟩ := g3_x x y d
  obtain ⟨b, hb⟩ := g3_y x y d
  obtain ⟨c, hc⟩ := g3_d x y d
  have hgn : gz (gz x y) d ≠ 0 := by omega
  unfold low lowL
  generalize gz (gz x y) d = g at *
  by_cases hd : 0 < d
  · simp only [if_pos hd, Int.one_mul]
  · simp only [if_neg hd]
    have n : ∀ k : Int, (g * k).fdiv (0 - g) = (-1 * (g * k)).fdiv g := fun k => by
      rw [show g * k = (0 - g) * (-k) by grind, fdiv_mul' (by omega), show -1 * ((0 - g) * -k) = g * (-k) by grind, fdiv_mul' hgn]
    rw [ha, hb, hc, n, n, n]

/-! ### values -/
def re (z : Num) : Rat := (z.x : Rat) / (z.d : Rat)
def im (z : Num) : Rat := (z.y : Rat) / (z.d : Rat)
theorem cast_ne {a : Int} (h : a ≠ 0) : (a : Rat) ≠ 0 := fun e => h (by exact_mod_cast e)
theorem re_low {x y d : Int} (h : d ≠ 0) : re (low x y d) = (x : Rat) / (d : Rat) := by
  obtain ⟨k, hk, ex, ey, ed, hp, _⟩ := low_spec (x := x) (y := y) h
  generalize low x y d = z at *
  unfold re
  have h1 : ((z.d : Int) : Rat) ≠ 0 := cast_ne (by omega)
  have h2 : ((k : Int) : Rat) ≠ 0 := cast_ne hk
  have e1 : (x : Rat) = (k : Rat) * (z.x : Rat) := by rw [ex]; simp [Rat.intCast_mul]
  have e2 : (d : Rat) = (k : Rat) * (z.d : Rat) := by rw [ed]; simp [Rat.intCast_mul]
  rw [e1, e2]
  grind
theorem im_low {x y d : Int} (h : d ≠ 0) : im (low x y d) = (y : Rat) / (d : Rat) := by
  obtain ⟨k, hk, ex, ey, ed, hp, _⟩ := low_spec (x := x) (y := y) h
  generalize low x y d = z at *
  unfold im
  have h1 : ((z.d : Int) : Rat) ≠ 0 := cast_ne (by omega)
  have h2 : ((k : Int) : Rat) ≠ 0 := cast_ne hk
  have e1 : (y : Rat) = (k : Rat) * (z.y : Rat) := by rw [ey]; simp [Rat.intCast_mul]
  have e2 : (d : Rat) = (k : Rat) * (z.d : Rat) := by rw [ed]; simp [Rat.intCast_mul]
  rw [e1, e2]
  grind
theorem ext {a b : Num} (ha : Can a) (hb : Can b) (h1 : re a = re b) (h2 : im a = im b) : a = b := by
  have na : ((a.d : Int) : Rat) ≠ 0 := cast_ne (by have := ha.1; omega)
  have nb : ((b.d : Int) : Rat) ≠ 0 := cast_ne (by have := hb.1; omega)
  unfold re at h1
  unfold im at h2
  refine can_ext ha hb ?_ ?_
  · have : (a.x : Rat) * (b.d : Rat) = (b.x : Rat) * (a.d : Rat) := by grind
    exact_mod_cast this
  · have : (a.y : Rat) * (b.d : Rat) = (b.y : Rat) * (a.d : Rat) := by grind
    exact_mod_cast this

/-! ### the operations -/
def zero : Num := ⟨0, 0, 1⟩
def one : Num := ⟨1, 0, 1⟩
def add (a b : Num) : Num := low (a.x * b.d + b.x * a.d) (a.y * b.d + b.y * a.d) (a.d * b.d)
def opp (a : Num) : Num := ⟨0 - a.x, 0 - a.y, a.d⟩
def mul (a b : Num) : Num := low (a.x * b.x - a.y * b.y) (a.x * b.y + a.y * b.x) (a.d * b.d)
def ovr (a : Num) : Num := ⟨a.x, 0 - a.y, a.d⟩
def inv (a : Num) : Num := low (a.x * a.d) (0 - a.y * a.d) (a.x * a.x + a.y * a.y)
def sub (a b : Num) : Num := add a (opp b)
theorem ne_d {a : Num} (h : Can a) : a.d ≠ 0 := by have := h.1; omega
theorem dd {a b : Num} (ha : Can a) (hb : Can b) : a.d * b.d ≠ 0 := Int.mul_ne_zero (ne_d ha) (ne_d hb)
theorem can_zero : Can zero := ⟨by decide, by decide⟩
theorem can_one : Can one := ⟨by decide, by decide⟩
theorem can_add {a b : Num} (ha : Can a) (hb : Can b) : Can (add a b) := low_can (dd ha hb)
theorem can_mul {a b : Num} (ha : Can a) (hb : Can b) : Can (mul a b) := low_can (dd ha hb)
theorem gz_neg (a b : Int) : gz (0 - a) b = gz a b := by unfold gz; rw [Int.zero_sub, Int.neg_gcd]
theorem gz_neg' (a b : Int) : gz a (0 - b) = gz a b := by unfold gz; rw [Int.zero_sub, Int.gcd_neg]
theorem can_opp {a : Num} (ha : Can a) : Can (opp a) := by
  refine ⟨ha.1, ?_⟩
  show gz (gz (0 - a.x) (0 - a.y)) a.d = 1
  rw [gz_neg, gz_neg']
  exact ha.2
theorem can_ovr {a : Num} (ha : Can a) : Can (ovr a) := by
  refine ⟨ha.1, ?_⟩
  show gz (gz a.x (0 - a.y)) a.d = 1
  rw [gz_neg']
  exact ha.2
theorem can_sub {a b : Num} (ha : Can a) (hb : Can b) : Can (sub a b) := can_add ha (can_opp hb)
theorem sq_nn (a : Int) : 0 ≤ a * a := by
  rcases Int.le_total 0 a with h | h
  · exact Int.mul_nonneg h h
  · have := Int.mul_nonneg (a := -a) (b := -a) (by omega) (by omega)
    rwa [Int.neg_mul_neg] at this
theorem sq_ne {a : Num} (hz : ¬ (a.x = 0 ∧ a.y = 0)) : a.x * a.x + a.y * a.y ≠ 0 := by
  intro h
  have h1 : 0 ≤ a.x * a.x := sq_nn _
  have h2 : 0 ≤ a.y * a.y := sq_nn _
  have e1 : a.x * a.x = 0 := by omega
  have e2 : a.y * a.y = 0 := by omega
  exact hz ⟨by rcases Int.mul_eq_zero.mp e1 with h | h <;> exact h, by rcases Int.mul_eq_zero.mp e2 with h | h <;> exact h⟩
/-- not 0 -/
def NZ (a : Num) : Prop := ¬ (a.x = 0 ∧ a.y = 0)
theorem can_inv {a : Num} (hz : NZ a) : Can (inv a) := low_can (sq_ne hz)
section
variable {a b : Num}
theorem rat_d (h : Can a) : ((a.d : Int) : Rat) ≠ 0 := cast_ne (ne_d h)
theorem re_add (ha : Can a) (hb : Can b) : re (add a b) = re a + re b := by
  unfold add
  rw [re_low (dd ha hb)]
  have n1 := rat_d ha
  have n2 := rat_d hb
  unfold re
  simp only [Rat.intCast_add, Rat.intCast_mul]
  grind
theorem im_add (ha : Can a) (hb : Can b) : im (add a b) = im a + im b := by
  unfold add
  rw [im_low (dd ha hb)]
  have n1 := rat_d ha
  have n2 := rat_d hb
  unfold im
  simp only [Rat.intCast_add, Rat.intCast_mul]
  grind
theorem re_opp : re (opp a) = - re a := by
  unfold re opp
  simp only [Rat.intCast_sub, Int.zero_sub, Rat.intCast_neg]
  grind
theorem im_opp : im (opp a) = - im a := by
  unfold im opp
  simp only [Rat.intCast_sub, Int.zero_sub, Rat.intCast_neg]
  grind
theorem re_sub (ha : Can a) (hb : Can b) : re (sub a b) = re a - re b := by
  unfold sub; rw [re_add ha (can_opp hb), re_opp]; grind
theorem im_sub (ha : Can a) (hb : Can b) : im (sub a b) = im a - im b := by
  unfold sub; rw [im_add ha (can_opp hb), im_opp]; grind
theorem re_mul (ha : Can a) (hb : Can b) : re (mul a b) = re a * re b - im a * im b := by
  unfold mul
  rw [re_low (dd ha hb)]
  have n1 := rat_d ha
  have n2 := rat_d hb
  unfold re im
  simp only [Rat.intCast_sub, Rat.intCast_mul]
  grind
theorem im_mul (ha : Can a) (hb : Can b) : im (mul a b) = re a * im b + im a * re b := by
  unfold mul
  rw [im_low (dd ha hb)]
  have n1 := rat_d ha
  have n2 := rat_d hb
  unfold re im
  simp only [Rat.intCast_add, Rat.intCast_mul]
  grind
theorem re_ovr : re (ovr a) = re a := rfl
theorem im_ovr : im (ovr a) = - im a := by
  unfold im ovr
  simp only [Int.zero_sub, Rat.intCast_neg]
  grind
/-- the square of the size -/
def nrm (a : Num) : Rat := re a * re a + im a * im a
theorem nz_iff (ha : Can a) : NZ a ↔ nrm a ≠ 0 := by
  have n1 := rat_d ha
  unfold NZ nrm re im
  constructor
  · intro h e
    have h2 : ((a.x * a.x + a.y * a.y : Int) : Rat) = 0 := by
      simp only [Rat.intCast_add, Rat.intCast_mul]
      grind
    exact sq_ne h (by exact_mod_cast h2)
  · intro h ⟨e1, e2⟩
    apply h
    rw [e1, e2]
    have z : ((0 : Int) : Rat) = 0 := rfl
    rw [z]
    grind
theorem re_inv (ha : Can a) (hz : NZ a) : re (inv a) = re a / nrm a := by
  unfold inv
  rw [re_low (sq_ne hz)]
  have n1 := rat_d ha
  have n2 : ((a.x * a.x + a.y * a.y : Int) : Rat) ≠ 0 := cast_ne (sq_ne hz)
  simp only [Rat.intCast_add, Rat.intCast_mul] at n2 ⊢
  unfold nrm re im
  grind
theorem im_inv (ha : Can a) (hz : NZ a) : im (inv a) = - im a / nrm a := by
  unfold inv
  rw [im_low (sq_ne hz)]
  have n1 := rat_d ha
  have n2 : ((a.x * a.x + a.y * a.y : Int) : Rat) ≠ 0 := cast_ne (sq_ne hz)
  simp only [Rat.intCast_add, Rat.intCast_mul, Int.zero_sub, Rat.intCast_neg] at n2 ⊢
  unfold nrm re im
  grind
end
theorem re_zero : re zero = 0 := by decide +kernel
theorem im_zero : im zero = 0 := by decide +kernel
theorem re_one : re one = 1 := by decide +kernel
theorem im_one : im one = 0 := by decide +kernel
end NM

/-! ## SP -/
set_option Elab.async false
set_option linter.all false
set_option maxRecDepth 100000
set_option maxHeartbeats 4000000
/-! What each def is worth: specs over data. -/
namespace L3
open PySem NM L2

structure CL where
  Copy : Addr
  Drawing : Addr
  Arm : Addr
  Chain : Addr

def numD (z : Num) : D := .tup [.int z.x, .int z.y, .int z.d]
def c_ZERO : D := .tup [.int 0, .int 0, .int 1]
def c_MAX_TIMES : D := .int 100
def c_ONE : D := .tup [.int 1, .int 0, .int 1]
/-- sizes of a number -/
def Sz (n : Nat) (z : Num) : Prop := Bt n z.x ∧ Bt n z.y ∧ Bt n z.d
theorem Bt.mono {n m : Nat} {i : Int} (h : Bt n i) (l : n ≤ m) : Bt m i := Nat.lt_of_lt_of_le h (Nat.pow_le_pow_right (by decide) l)
theorem Bt.mul {n m : Nat} {i j : Int} (h : Bt n i) (l : Bt m j) : Bt (n + m) (i * j) := wide_lt h l
theorem Bt.add {n : Nat} {i j : Int} (h : Bt n i) (l : Bt n j) : Bt (n + 1) (i + j) := by
  unfold Bt at *
  rw [Nat.pow_succ]
  omega
theorem Bt.sub {n : Nat} {i j : Int} (h : Bt n i) (l : Bt n j) : Bt (n + 1) (i - j) := by
  unfold Bt at *
  rw [Nat.pow_succ]
  omega
theorem Bt.neg {n : Nat} {i : Int} (h : Bt n i) : Bt n (0 - i) := by
  unfold Bt at *
  omega
theorem Bt.le {n : Nat} {i j : Int} (h : Bt n i) (l : j.natAbs ≤ i.natAbs) : Bt n j := Nat.lt_of_le_of_lt l h
theorem Sz.mono {n m : Nat} {z : Num} (h : Sz n z) (l : n ≤ m) : Sz m z := ⟨h.1.mono l, h.2.1.mono l, h.2.2.mono l⟩
theorem low_sz {n : Nat} {x y d : Int} (h : d ≠ 0) (hx : Bt n x) (hy : Bt n y) (hd : Bt n d) : Sz n (low x y d) := by
  obtain ⟨k, hk, ex, ey, ed, _⟩ := low_spec (x := x) (y := y) h
  have le : ∀ a : Int, a.natAbs ≤ (k * a).natAbs := fun a => by
    rw [Int.natAbs_mul]
    exact Nat.le_mul_of_pos_left _ (by omega)
  refine ⟨hx.le ?_, hy.le ?_, hd.le ?_⟩
  · conv => rhs; rw [ex]
    exact le _
  · conv => rhs; rw [ey]
    exact le _
  · conv => rhs; rw [ed]
    exact le _
theorem Sz.add {n m : Nat} {a b : Num} (ha : Can a) (hb : Can b) (h : Sz n a) (l : Sz m b) : Sz (n + m + 1) (NM.add a b) :=
  low_sz (dd ha hb) ((h.1.mul l.2.2).add ((l.1.mul h.2.2).mono (by omega))) ((h.2.1.mul l.2.2).add ((l.2.1.mul h.2.2).mono (by omega))) ((h.2.2.mul l.2.2).mono (by omega))
theorem Sz.mul {n m : Nat} {a b : Num} (ha : Can a) (hb : Can b) (h : Sz n a) (l : Sz m b) : Sz (n + m + 1) (NM.mul a b) :=
  low_sz (dd ha hb) ((h.1.mul l.1).sub (h.2.1.mul l.2.1)) ((h.1.mul l.2.1).add (h.2.1.mul l.1)) ((h.2.2.mul l.2.2).mono (by omega))
theorem Sz.inv {n : Nat} {a : Num} (hz : NZ a) (h : Sz n a) : Sz (n + n + 1) (NM.inv a) :=
  low_sz (sq_ne hz) ((h.1.mul h.2.2).mono (by omega)) ((h.2.1.mul h.2.2).neg.mono (by omega)) ((h.1.mul h.1).add (h.2.1.mul h.2.1))
theorem Sz.ovr {n : Nat} {a : Num} (h : Sz n a) : Sz n (NM.ovr a) := ⟨h.1, h.2.1.neg, h.2.2⟩
theorem Sz.opp {n : Nat} {a : Num} (h : Sz n a) : Sz n (NM.opp a) := ⟨h.1.neg, h.2.1.neg, h.2.2⟩

/-! ### numbers -/
def sp_is_int (Γ : CL) : GN := fun ds μ R => match ds with
  | [.int _] => R (.bl true) μ
  | [.bl _] => R (.bl false) μ
  | [.non] => R (.bl false) μ
  | [.str _] => R (.bl false) μ
  | [.tup _] => R (.bl false) μ
  | [.lst _] => R (.bl false) μ
  | _ => False
def sp_common_divisor (Γ : CL) : GN := fun ds μ R => match ds with
  | [.int a, .int b] => R (.int (gz a b)) μ
  | _ => False
def ratD (n d : Int) : D := .tup [.int (n.fdiv (gz n d)), .int (d.fdiv (gz n d))]
def sp_ratio (Γ : CL) : GN := fun ds μ R => match ds with
  | [.int a, .int b] => b ≠ 0 ∧ Bt big b ∧ R (ratD a b) μ
  | _ => False
def sp_lowest (Γ : CL) : GN := fun ds μ R => match ds with
  | [.int x, .int y, .int d] => d ≠ 0 ∧ Bt big x ∧ Bt big y ∧ Bt big d ∧ R (numD (low x y d)) μ
  | _ => False
/-- data whose kind is known -/
def okD : D → Bool
  | .non => true
  | .bl _ => true
  | .int _ => true
  | .str _ => true
  | .tup _ => true
  | .lst _ => true
  | _ => false
def isNumD : D → Bool
  | .tup [.int x, .int y, .int d] => decide (0 < d) && decide (low x y d = ⟨x, y, d⟩)
  | _ => false
def numOk (d : D) : Prop := okD d = true ∧ ∀ ds, d = .tup ds → ds.all okD = true ∧ ∀ x y z, ds = [.int x, .int y, .int z] → Bt big x ∧ Bt big y ∧ Bt big z
def sp_is_number (Γ : CL) : GN := fun ds μ R => match ds with
  | [d] => numOk d ∧ R (.bl (isNumD d)) μ
  | _ => False
abbrev half : Nat := 2000
def sp_added (Γ : CL) : GN := fun ds μ R => match ds with
  | [.tup [.int x, .int y, .int d], .tup [.int u, .int v, .int w]] => d ≠ 0 ∧ w ≠ 0 ∧ Sz half ⟨x, y, d⟩ ∧ Sz half ⟨u, v, w⟩ ∧ R (numD (add ⟨x, y, d⟩ ⟨u, v, w⟩)) μ
  | _ => False
def sp_multiplied (Γ : CL) : GN := fun ds μ R => match ds with
  | [.tup [.int x, .int y, .int d], .tup [.int u, .int v, .int w]] => d ≠ 0 ∧ w ≠ 0 ∧ Sz half ⟨x, y, d⟩ ∧ Sz half ⟨u, v, w⟩ ∧ R (numD (mul ⟨x, y, d⟩ ⟨u, v, w⟩)) μ
  | _ => False
def sp_less (Γ : CL) : GN := fun ds μ R => match ds with
  | [.tup [.int x, .int y, .int d], .tup [.int u, .int v, .int w]] => d ≠ 0 ∧ w ≠ 0 ∧ Sz half ⟨x, y, d⟩ ∧ Sz half ⟨u, v, w⟩ ∧ R (numD (sub ⟨x, y, d⟩ ⟨u, v, w⟩)) μ
  | _ => False
def sp_opposite (Γ : CL) : GN := fun ds μ R => match ds with
  | [.tup [.int x, .int y, .int d]] => R (numD (opp ⟨x, y, d⟩)) μ
  | _ => False
def sp_turned_over (Γ : CL) : GN := fun ds μ R => match ds with
  | [.tup [.int x, .int y, .int d]] => R (numD (ovr ⟨x, y, d⟩)) μ
  | _ => False
def sp_inverse (Γ : CL) : GN := fun ds μ R => match ds with
  | [.tup [.int x, .int y, .int d]] => NZ ⟨x, y, d⟩ ∧ Sz half ⟨x, y, d⟩ ∧ R (numD (inv ⟨x, y, d⟩)) μ
  | _ => False
/-- the square of the size, a fraction -/
def sizeD (z : Num) : D := ratD (z.x * z.x + z.y * z.y) (z.d * z.d)
def sp_size (Γ : CL) : GN := fun ds μ R => match ds with
  | [.tup [.int x, .int y, .int d]] => d ≠ 0 ∧ Sz half ⟨x, y, d⟩ ∧ R (sizeD ⟨x, y, d⟩) μ
  | _ => False

/-! ### copies -/
def sp_check_spot (Γ : CL) : GN := fun ds μ R => match ds with
  | [.tup [.int x, .int y, .int d]] => Can ⟨x, y, d⟩ ∧ Sz big ⟨x, y, d⟩ ∧ R .non μ
  | _ => False
def sp_check_turn (Γ : CL) : GN := fun ds μ R => match ds with
  | [.tup [.int x, .int y, .int d]] => Can ⟨x, y, d⟩ ∧ NZ ⟨x, y, d⟩ ∧ Sz big ⟨x, y, d⟩ ∧ R .non μ
  | _ => False
/-- a copy -/
structure Cp where
  t : Num
  s : Num
  m : Bool
  deriving DecidableEq
def copyFs (c : Cp) : List (Str × D) := [("turn", numD c.t), ("shift", numD c.s), ("mirrored", .bl c.m), ("key", .tup [numD c.t, numD c.s, .bl c.m])]
def copyD (Γ : CL) (c : Cp) : D := .ins Γ.Copy (copyFs c)
/-- one that can be -/
def Cp.ok (c : Cp) : Prop := Can c.t ∧ NZ c.t ∧ Can c.s
def Cp.sz (n : Nat) (c : Cp) : Prop := Sz n c.t ∧ Sz n c.s
def Cp.at (c : Cp) (z : Num) : Num := add (mul c.t (if c.m then ovr z else z)) c.s
def Cp.comp (a b : Cp) : Cp := ⟨mul b.t (if b.m then ovr a.t else a.t), b.at a.s, a.m != b.m⟩
def Cp.inv (a : Cp) : Cp :=
  let back := NM.inv (if a.m then ovr a.t else a.t)
  ⟨back, opp (mul back (if a.m then ovr a.s else a.s)), a.m⟩
abbrev quart : Nat := 900
def sp_carried (Γ : CL) : GN := fun ds μ R => ∃ c z, ds = [copyD Γ c, numD z] ∧ c.ok ∧ c.sz quart ∧ Can z ∧ Sz quart z ∧ R (numD (c.at z)) μ
def sp_Copy___init (Γ : CL) : GN := fun ds μ R => match ds with
  | [.ref a, .tup [.int x, .int y, .int d], .tup [.int u, .int v, .int w], .bl m] => Can ⟨x, y, d⟩ ∧ NZ ⟨x, y, d⟩ ∧ Can ⟨u, v, w⟩ ∧ Sz big ⟨x, y, d⟩ ∧ Sz big ⟨u, v, w⟩ ∧ μ a = some (.ins Γ.Copy []) ∧ R .non (updM μ a (.ins Γ.Copy (copyFs ⟨⟨x, y, d⟩, ⟨u, v, w⟩, m⟩)))
  | _ => False
def sp_Copy___call (Γ : CL) : GN := sp_carried Γ
def sp_Copy___eq (Γ : CL) : GN := fun ds μ R => ∃ a b, ds = [copyD Γ a, copyD Γ b] ∧ R (.bl (decide (a.t = b.t) && (decide (a.s = b.s) && (a.m == b.m)))) μ
def sp_Copy___rshift (Γ : CL) : GN := fun ds μ R => ∃ a b, ds = [copyD Γ a, copyD Γ b] ∧ a.ok ∧ b.ok ∧ a.sz quart ∧ b.sz quart ∧ R (copyD Γ (a.comp b)) μ
def sp_Copy___invert (Γ : CL) : GN := fun ds μ R => ∃ a, ds = [copyD Γ a] ∧ a.ok ∧ a.sz 400 ∧ R (copyD Γ a.inv) μ
def sp_Copy_growth (Γ : CL) : GN := fun ds μ R => ∃ a : Cp, ds = [copyD Γ a] ∧ a.t.d ≠ 0 ∧ Sz half a.t ∧ R (sizeD a.t) μ
def gD_Copy_mirrored : List D → List D → List D := fun ds zs => ds ++ zs

/-! ### the law's own source of numbers -/
/-- the source: a list of ints, the first not negative, the second too -/
def RL (ds : List D) : Prop := ∃ (s p : Int) (r : List Int), ds = .int s :: .int p :: r.map D.int ∧ 0 ≤ s ∧ s < 2147483648 ∧ 0 ≤ p ∧ ∀ x ∈ r, 0 ≤ x
def sp_law_random (Γ : CL) : GN := fun ds μ R => ∃ (ns : List Int) (salt : Int), ds = [.scr (ns.map D.int), .int salt] ∧ 0 ≤ salt ∧ salt < 1000 ∧ ns.length ≤ 63 ∧ ∀ g xs, μ g = none → RL xs → R (.ref g) (updM μ g (.lst xs))
def sp_law_below (Γ : CL) : GN := fun ds μ R => ∃ g n xs, ds = [.ref g, .int n] ∧ 0 < n ∧ n < 1000 ∧ μ g = some (.lst xs) ∧ RL xs ∧ ∀ r ys, 0 ≤ r → r < n → RL ys → R (.int r) (updM μ g (.lst ys))
/-- a small number in lowest terms -/
def Small (z : Num) : Prop := Can z ∧ Sz 5 z
def sp_law_turn (Γ : CL) : GN := fun ds μ R => ∃ g xs, ds = [.ref g] ∧ μ g = some (.lst xs) ∧ RL xs ∧ ∀ z ys, Small z → NZ z → RL ys → R (numD z) (updM μ g (.lst ys))
def sp_law_spot (Γ : CL) : GN := fun ds μ R => ∃ g xs, ds = [.ref g] ∧ μ g = some (.lst xs) ∧ RL xs ∧ ∀ z ys, Small z → RL ys → R (numD z) (updM μ g (.lst ys))
def toldD (c : Cp) : D := .tup [numD c.t, numD c.s, .bl c.m]
def Cp.small (c : Cp) : Prop := Small c.t ∧ NZ c.t ∧ Small c.s
def sp_law_told (Γ : CL) : GN := fun ds μ R => ∃ g xs, ds = [.ref g] ∧ μ g = some (.lst xs) ∧ RL xs ∧ ∀ c ys, c.small → RL ys → R (toldD c) (updM μ g (.lst ys))
def sp_law_copy (Γ : CL) : GN := fun ds μ R => ∃ c, ds = [toldD c] ∧ c.ok ∧ c.sz big ∧ R (copyD Γ c) μ
def sp_law_common (Γ : CL) : GN := sp_common_divisor Γ
def sp_law_lowest (Γ : CL) : GN := sp_lowest Γ
def sp_law_plus (Γ : CL) : GN := sp_added Γ
def sp_law_minus (Γ : CL) : GN := sp_less Γ
def sp_law_times (Γ : CL) : GN := sp_multiplied Γ
def sp_law_over (Γ : CL) : GN := sp_turned_over Γ
def sp_law_carried (Γ : CL) : GN := fun ds μ R => ∃ c z, ds = [toldD c, numD z] ∧ c.ok ∧ c.sz quart ∧ Can z ∧ Sz quart z ∧ R (numD (c.at z)) μ
mutual
def same : D → D → Bool
  | .non, .non => true
  | .bl a, .bl b => a == b
  | .int a, .int b => a == b
  | .str a, .str b => a == b
  | .tup as, .tup bs => sames as bs
  | .lst as, .lst bs => sames as bs
  | _, _ => false
def sames : List D → List D → Bool
  | [], [] => true
  | a :: as, b :: bs => same a b && sames as bs
  | _, _ => false
end
/-- pure data no deeper than n, no row too long -/
def okq : Nat → D → Bool
  | _, .non => true
  | _, .bl _ => true
  | _, .int _ => true
  | _, .str x => PyData.strOk x
  | n + 1, .tup ds => decide (ds.length ≤ 1000000) && ds.all (okq n)
  | n + 1, .lst ds => decide (ds.length ≤ 1000000) && ds.all (okq n)
  | _, _ => false
def eqSp (n : Nat) : GN := fun ds μ R => match ds with
  | [a, e] => okq n a = true ∧ okq n e = true ∧ R (.bl (same a e)) μ
  | _ => False
def sp_law_equal (Γ : CL) : Nat → GN
  | 0 => fun _ _ _ => False
  | n + 1 => eqSp n
/-! ### spots that are kept -/
def szN (z : Num) : Num := low (z.x * z.x + z.y * z.y) 0 (z.d * z.d)
def lineOf (a b c : Int) : Int × Int × Int := if a ≠ 0 then ((low c b a).d, (low c b a).y, (low c b a).x) else (0, (low c 0 b).d, (low c 0 b).x)
inductive Kp where
  | all
  | none
  | spot (z : Num)
  | line (a b c : Int)
  deriving DecidableEq
def lineK (s w : Num) : Kp := .line (lineOf (w.y * s.d) (0 - w.x * s.d) (w.y * s.x - w.x * s.y)).1 (lineOf (w.y * s.d) (0 - w.x * s.d) (w.y * s.x - w.x * s.y)).2.1 (lineOf (w.y * s.d) (0 - w.x * s.d) (w.y * s.x - w.x * s.y)).2.2
def hlf : Num := ⟨1, 0, 2⟩
def neg1 : Num := ⟨-1, 0, 1⟩
def img : Num := ⟨0, 1, 1⟩
def bothOf (c : Cp) : Num := add (mul c.t (ovr c.s)) c.s
def wayOf (c : Cp) : Num := if c.t = neg1 then img else add one c.t
def keptK (c : Cp) : Kp :=
  if c.m = true then
    if (szN c.t).x = 1 ∧ (szN c.t).d = 1 then
      if bothOf c = zero then lineK (mul c.s hlf) (wayOf c) else .none
    else .spot (mul (bothOf c) (inv (low ((szN c.t).d - (szN c.t).x) 0 (szN c.t).d)))
  else if c.t = one then (if c.s = zero then .all else .none) else .spot (mul c.s (inv (sub one c.t)))
def Kp.D : Kp → L3.D
  | .all => .tup [.str "all"]
  | .none => .tup [.str "none"]
  | .spot z => .tup [.str "spot", numD z]
  | .line a b c => .tup [.str "line", .int a, .int b, .int c]
def lnD (l : Int × Int × Int) : D := .tup [.int l.1, .int l.2.1, .int l.2.2]
def sp_line_of (Γ : CL) : GN := fun ds μ R => ∃ s w, ds = [numD s, numD w] ∧ s.d ≠ 0 ∧ NZ w ∧ Sz half s ∧ Sz half w ∧ R (lnD (lineOf (w.y * s.d) (0 - w.x * s.d) (w.y * s.x - w.x * s.y))) μ
def sp_kept (Γ : CL) : GN := fun ds μ R => ∃ c, ds = [copyD Γ c] ∧ c.ok ∧ c.sz 400 ∧ R (keptK c).D μ
def sp_meeting (Γ : CL) : GN := fun ds μ R => ∃ a b, ds = [copyD Γ a, copyD Γ b] ∧ a.ok ∧ b.ok ∧ a.sz 40 ∧ b.sz 40 ∧ R (keptK (a.comp b.inv)).D μ
/-! ### copies done several times -/
def Cp.id : Cp := ⟨one, zero, false⟩
def Cp.pow (c : Cp) : Nat → Cp
  | 0 => Cp.id
  | n + 1 => (c.pow n).comp c
/-- the first time, of k, that a copy done again and again carries all spots to themselves -/
def fstN (c : Cp) : Nat → Option Nat
  | 0 => none
  | k + 1 => match fstN c k with
    | some j => some j
    | none => if c.pow (k + 1) = Cp.id then some (k + 1) else none
def natD : Option Nat → D
  | some j => .int (j : Int)
  | none => .non
def Cp.stp (c : Cp) (i : Int) : Cp := if i < 0 then c.inv else c
def Cp.zpow (c : Cp) (i : Int) : Cp := (c.stp i).pow i.natAbs
def inIntD : D → Int → Int → Bool
  | .int i, lo, hi => decide (lo ≤ i) && decide (i ≤ hi)
  | _, _, _ => false
def sp_is_int_in (Γ : CL) : GN := fun ds μ R => ∃ d lo hi, ds = [d, .int lo, .int hi] ∧ okD d = true ∧ R (.bl (inIntD d lo hi)) μ
def sp_Copy_again (Γ : CL) : GN := fun ds μ R => ∃ c i, ds = [copyD Γ c, .int i] ∧ c.ok ∧ c.sz 400 ∧ i.natAbs ≤ 100 ∧ (∀ j, j < i.natAbs → ((c.stp i).pow j).sz quart) ∧ (c.stp i).sz quart ∧ R (copyD Γ (c.zpow i)) μ
def sp_order (Γ : CL) : GN := fun ds μ R => ∃ c, ds = [copyD Γ c] ∧ c.ok ∧ (∀ j, 1 ≤ j → j ≤ 4 → (c.pow j).sz 400) ∧ R (natD (fstN c 4)) μ
/-! ### arms and chains -/
structure Am where
  p : Num
  t : Num
  lo : Int
  hi : Int
  m : Bool
  deriving DecidableEq
def c_MAX_REACH_arms : D := .int 1000
def c_MAX_REACH : D := .int 1000
def c_MAX_REACH_chains : D := .int 1000
def c_MAX_ARMS : D := .int 6
def armFs (a : Am) : List (Str × D) := [("pole", numD a.p), ("turn", numD a.t), ("near", .int a.lo), ("far", .int a.hi), ("mirrored", .bl a.m), ("key", .tup [numD a.p, numD a.t, .int a.lo, .int a.hi, .bl a.m])]
def armD (Γ : CL) (a : Am) : D := .ins Γ.Arm (armFs a)
def armTD (a : Am) : D := .tup [numD a.p, numD a.t, .int a.lo, .int a.hi, .bl a.m]
def Am.ok (a : Am) : Prop := Can a.p ∧ Can a.t ∧ NZ a.t ∧ 0 ≤ a.lo ∧ a.lo ≤ a.hi ∧ a.hi ≤ 1000
def Am.sz (n : Nat) (a : Am) : Prop := Sz n a.p ∧ Sz n a.t
def Am.small (a : Am) : Prop := Small a.p ∧ Small a.t ∧ NZ a.t ∧ 0 ≤ a.lo ∧ a.lo ≤ 2 ∧ a.lo ≤ a.hi ∧ a.hi ≤ 101
def aboutC (p t : Num) (m : Bool) : Cp := ⟨t, sub p (mul t (if m then ovr p else p)), m⟩
def Am.eff (a : Am) : Cp := aboutC a.p a.t a.m
def chainFs (Γ : CL) (as : List Am) : List (Str × D) := [("arms", .tup (as.map (armD Γ)))]
def chainD (Γ : CL) (as : List Am) : D := .ins Γ.Chain (chainFs Γ as)
def effFrom : Cp → List Am → Cp
  | c, [] => c
  | c, a :: r => effFrom (c.comp a.eff) r
def effAll (as : List Am) : Cp := effFrom Cp.id as
def aheads : Cp → List Am → List Cp
  | c, [] => [c]
  | c, a :: r => c :: aheads (c.comp a.eff) r
def okA : Cp → List Am → Prop
  | _, [] => True
  | c, a :: r => c.sz quart ∧ a.sz quart ∧ a.eff.sz quart ∧ a.ok ∧ okA (c.comp a.eff) r
def sp_Arm___init (Γ : CL) : GN := fun ds μ R => match ds with
  | [.ref a, .tup [.int x, .int y, .int d], .tup [.int u, .int v, .int w], .int lo, .int hi, .bl m] => Can ⟨x, y, d⟩ ∧ Can ⟨u, v, w⟩ ∧ NZ ⟨u, v, w⟩ ∧ (0 ≤ lo ∧ lo ≤ hi ∧ hi ≤ 1000) ∧ Sz big ⟨x, y, d⟩ ∧ Sz big ⟨u, v, w⟩ ∧ μ a = some (.ins Γ.Arm []) ∧ R .non (updM μ a (.ins Γ.Arm (armFs ⟨⟨x, y, d⟩, ⟨u, v, w⟩, lo, hi, m⟩)))
  | _ => False
def sp_Arm___eq (Γ : CL) : GN := fun ds μ R => ∃ a b, ds = [armD Γ a, armD Γ b] ∧ R (.bl (decide (a = b))) μ
def sp_Chain___init (Γ : CL) : GN := fun ds μ R => match ds with
  | [.ref a, .tup xs] => xs.length ≤ 6 ∧ μ a = some (.ins Γ.Chain []) ∧ R .non (updM μ a (.ins Γ.Chain [("arms", .tup xs)]))
  | _ => False
def sp_Chain___add (Γ : CL) : GN := fun ds μ R => ∃ as bs, ds = [chainD Γ as, chainD Γ bs] ∧ as.length + bs.length ≤ 6 ∧ R (chainD Γ (as ++ bs)) μ
def sp_copy_about (Γ : CL) : GN := fun ds μ R => ∃ p t m, ds = [numD p, numD t, .bl m] ∧ Can p ∧ Can t ∧ NZ t ∧ Sz quart p ∧ Sz quart t ∧ R (copyD Γ (aboutC p t m)) μ
def sp_Arm_effect (Γ : CL) : GN := fun ds μ R => ∃ a, ds = [armD Γ a] ∧ a.ok ∧ a.sz quart ∧ R (copyD Γ a.eff) μ
def sp_copies_ahead (Γ : CL) : GN := fun ds μ R => ∃ as, ds = [.tup (as.map (armD Γ))] ∧ okA Cp.id as ∧ as.length ≤ 6 ∧ R (.lst ((aheads Cp.id as).map (copyD Γ))) μ
def sp_Chain_effect (Γ : CL) : GN := fun ds μ R => ∃ as, ds = [chainD Γ as] ∧ okA Cp.id as ∧ as.length ≤ 6 ∧ R (copyD Γ (effAll as)) μ
def poleK (e : Cp) : Option Num := match keptK e with
  | .none => none
  | .spot z => some z
  | .all => some zero
  | .line a b c => some (low (a * c) (b * c) (a * a + b * b))
def singleK (e : Cp) : Option Am := match poleK e with
  | none => none
  | some z => some ⟨z, e.t, 0, 1000, e.m⟩
def amD (Γ : CL) : Option Am → D
  | none => .non
  | some a => armD Γ a
def sp_single (Γ : CL) : GN := fun ds μ R => ∃ as, ds = [chainD Γ as] ∧ okA Cp.id as ∧ as.length ≤ 6 ∧ (effAll as).ok ∧ (effAll as).sz 200 ∧ R (amD Γ (singleK (effAll as))) μ
def gD_Arm_mirrored : List D → List D → List D := fun ds zs => ds ++ zs
def sp_law_step (Γ : CL) : GN := fun ds μ R => ∃ g n xs, ds = [.ref g, .int n] ∧ 0 < n ∧ n ≤ 10 ∧ μ g = some (.lst xs) ∧ RL xs ∧ ∀ x y ys, -n ≤ x → x ≤ n → -n ≤ y → y ≤ n → RL ys → R (numD ⟨x, y, 1⟩) (updM μ g (.lst ys))
def sp_law_arm_told (Γ : CL) : GN := fun ds μ R => ∃ g xs, ds = [.ref g] ∧ μ g = some (.lst xs) ∧ RL xs ∧ ∀ a ys, a.small → RL ys → R (armTD a) (updM μ g (.lst ys))
def sp_law_arm (Γ : CL) : GN := fun ds μ R => ∃ a, ds = [armTD a] ∧ a.ok ∧ a.sz big ∧ R (armD Γ a) μ
def sp_law_chain (Γ : CL) : GN := fun ds μ R => ∃ as, ds = [.lst (as.map armTD)] ∧ (∀ a ∈ as, a.ok ∧ a.sz big) ∧ as.length ≤ 6 ∧ R (chainD Γ as) μ
/-! ### zones -/
/-- a fraction, told as a number without second part -/
def frD (z : Num) : D := .tup [.int z.x, .int z.d]
structure Rg where
  c : Num
  lo : Num
  hi : Num
  deriving DecidableEq
def rgD (r : Rg) : D := .tup [numD r.c, frD r.lo, frD r.hi]
def zoneOf (c : Cp) (a : Am) : Rg := ⟨c.inv.at a.p, low (a.lo * a.lo * (szN c.t).d) 0 (szN c.t).x, low (a.hi * a.hi * (szN c.t).d) 0 (szN c.t).x⟩
def zonesL : Cp → List Am → List Rg
  | _, [] => []
  | c, a :: r => zoneOf c a :: zonesL (c.comp a.eff) r
def okZ : Cp → List Am → Prop
  | _, [] => True
  | c, a :: r => c.ok ∧ c.sz 150 ∧ a.ok ∧ a.sz 150 ∧ okZ (c.comp a.eff) r
def sp_zones (Γ : CL) : GN := fun ds μ R => ∃ as, ds = [chainD Γ as] ∧ okA Cp.id as ∧ okZ Cp.id as ∧ as.length ≤ 6 ∧ R (.lst ((zonesL Cp.id as).map rgD)) μ
def sp_law_ratio (Γ : CL) : GN := fun ds μ R => match ds with
  | [.int p, .int q] => q ≠ 0 ∧ Bt big p ∧ Bt big q ∧ R (frD (low p 0 q)) μ
  | _ => False
def sp_law_size (Γ : CL) : GN := fun ds μ R => match ds with
  | [.tup [.int x, .int y, .int d]] => d ≠ 0 ∧ Sz half ⟨x, y, d⟩ ∧ R (frD (szN ⟨x, y, d⟩)) μ
  | _ => False
def sp_law_less (Γ : CL) : GN := fun ds μ R => match ds with
  | [.tup [.int a, .int b], .tup [.int c, .int d]] => Bt big a ∧ Bt big b ∧ Bt big c ∧ Bt big d ∧ R (.bl (decide (a * d < c * b))) μ
  | _ => False
def reachB (a : Am) (z : Num) : Bool := !decide ((szN (sub z a.p)).x * 1 < a.lo * a.lo * (szN (sub z a.p)).d) && !decide (a.hi * a.hi * (szN (sub z a.p)).d < (szN (sub z a.p)).x * 1)
def sp_law_reached (Γ : CL) : GN := fun ds μ R => ∃ a z, ds = [armTD a, numD z] ∧ a.ok ∧ Sz quart a.p ∧ Can z ∧ Sz quart z ∧ R (.bl (reachB a z)) μ
def sp_law_about (Γ : CL) : GN := fun ds μ R => ∃ a, ds = [armTD a] ∧ a.ok ∧ a.sz quart ∧ R (toldD a.eff) μ
end L3

/-! ## RB -/
set_option Elab.async false
set_option linter.all false
set_option maxRecDepth 100000
set_option maxHeartbeats 4000000
namespace L3
open PySem NM L2
/-- is_int(value) : 0 value -/
def rd_is_int (Γ : CL) : RS := (rRet (rAndV (rCl gIsi (rCons (rVar 0) (rCons (rC (.ty "int")) rNil))) (rNotV (rCl gIsi (rCons (rVar 0) (rCons (rC (.ty "bool")) rNil))))))
/-- common_divisor(one, other) : 0 one, 1 other -/
def rd_common_divisor (Γ : CL) : RS := (rSeq (rPar 0 1 (rCons (rCl gAbs (rCons (rVar 0) rNil)) (rCons (rCl gAbs (rCons (rVar 1) rNil)) rNil)))
 (rSeq (rWhile (rB (rOp gGt (rVar 1) (rC (.int 0)))) (rPar 0 1 (rCons (rVar 1) (rCons (rOp gMod (rVar 0) (rVar 1)) rNil))))
 (rRet (rVar 0))))
/-- ratio(numerator, denominator) : 0 numerator, 1 denominator, 2 divisor -/
def rd_ratio (Γ : CL) : RS := (rSeq (rAsg (rCl (sp_common_divisor Γ) (rCons (rVar 0) (rCons (rVar 1) rNil))) (rGN 2))
 (rRet (rTup (rCons (rOp gDiv (rVar 0) (rVar 2)) (rCons (rOp gDiv (rVar 1) (rVar 2)) rNil)))))
/-- lowest(x, y, d) : 0 x, 1 y, 2 d, 3 divisor, 4 sign -/
def rd_lowest (Γ : CL) : RS := (rSeq (rAsg (rCl (sp_common_divisor Γ) (rCons (rCl (sp_common_divisor Γ) (rCons (rVar 0) (rCons (rVar 1) rNil))) (rCons (rVar 2) rNil))) (rGN 3))
 (rSeq (rAsg (rIfE (rB (rOp gGt (rVar 2) (rC (.int 0)))) (rC (.int 1)) (rUn (gU fun i => .int (-i)) (rC (.int 1)))) (rGN 4))
 (rRet (rTup (rCons (rOp gDiv (rOp gMul (rVar 4) (rVar 0)) (rVar 3)) (rCons (rOp gDiv (rOp gMul (rVar 4) (rVar 1)) (rVar 3)) (rCons (rOp gDiv (rOp gMul (rVar 4) (rVar 2)) (rVar 3)) rNil)))))))
/-- is_number(value) : 0 value, 1 part -/
def rd_is_number (Γ : CL) : RS := (rSeq (rIf (rOr (rNot (rB (rCl gIsi (rCons (rVar 0) (rCons (rC (.ty "tuple")) rNil))))) (rOr (rB (rOp gNe (rCl gLen (rCons (rVar 0) rNil)) (rC (.int 3)))) (rNot (rB (rCl gAll (rCons (rLc (rITup (rVar 0)) (rGN 1) rTrue (rCl (sp_is_int Γ) (rCons (rVar 1) rNil)) [1]) rNil))))))
 (rRet (rC (.bl false)))
 rNext)
 (rRet (rAndV (rOp gGt (rOp gIx (rVar 0) (rC (.int 2))) (rC (.int 0))) (rOp gEq (rCl (sp_lowest Γ) (rStar (rVar 0) rNil)) (rVar 0)))))
/-- added(one, other) : 0 one, 1 other -/
def rd_added (Γ : CL) : RS := (rRet (rCl (sp_lowest Γ) (rCons (rOp gAdd (rOp gMul (rOp gIx (rVar 0) (rC (.int 0))) (rOp gIx (rVar 1) (rC (.int 2)))) (rOp gMul (rOp gIx (rVar 1) (rC (.int 0))) (rOp gIx (rVar 0) (rC (.int 2))))) (rCons (rOp gAdd (rOp gMul (rOp gIx (rVar 0) (rC (.int 1))) (rOp gIx (rVar 1) (rC (.int 2)))) (rOp gMul (rOp gIx (rVar 1) (rC (.int 1))) (rOp gIx (rVar 0) (rC (.int 2))))) (rCons (rOp gMul (rOp gIx (rVar 0) (rC (.int 2))) (rOp gIx (rVar 1) (rC (.int 2)))) rNil)))))
/-- opposite(one) : 0 one -/
def rd_opposite (Γ : CL) : RS := (rRet (rTup (rCons (rOp gSub (rC (.int 0)) (rOp gIx (rVar 0) (rC (.int 0)))) (rCons (rOp gSub (rC (.int 0)) (rOp gIx (rVar 0) (rC (.int 1)))) (rCons (rOp gIx (rVar 0) (rC (.int 2))) rNil)))))
/-- multiplied(one, other) : 0 one, 1 other, 2 x -/
def rd_multiplied (Γ : CL) : RS := (rSeq (rAsg (rOp gSub (rOp gMul (rOp gIx (rVar 0) (rC (.int 0))) (rOp gIx (rVar 1) (rC (.int 0)))) (rOp gMul (rOp gIx (rVar 0) (rC (.int 1))) (rOp gIx (rVar 1) (rC (.int 1))))) (rGN 2))
 (rRet (rCl (sp_lowest Γ) (rCons (rVar 2) (rCons (rOp gAdd (rOp gMul (rOp gIx (rVar 0) (rC (.int 0))) (rOp gIx (rVar 1) (rC (.int 1)))) (rOp gMul (rOp gIx (rVar 0) (rC (.int 1))) (rOp gIx (rVar 1) (rC (.int 0))))) (rCons (rOp gMul (rOp gIx (rVar 0) (rC (.int 2))) (rOp gIx (rVar 1) (rC (.int 2)))) rNil))))))
/-- turned_over(one) : 0 one -/
def rd_turned_over (Γ : CL) : RS := (rRet (rTup (rCons (rOp gIx (rVar 0) (rC (.int 0))) (rCons (rOp gSub (rC (.int 0)) (rOp gIx (rVar 0) (rC (.int 1)))) (rCons (rOp gIx (rVar 0) (rC (.int 2))) rNil)))))
/-- inverse(one) : 0 one -/
def rd_inverse (Γ : CL) : RS := (rRet (rCl (sp_lowest Γ) (rCons (rOp gMul (rOp gIx (rVar 0) (rC (.int 0))) (rOp gIx (rVar 0) (rC (.int 2)))) (rCons (rOp gSub (rC (.int 0)) (rOp gMul (rOp gIx (rVar 0) (rC (.int 1))) (rOp gIx (rVar 0) (rC (.int 2))))) (rCons (rOp gAdd (rOp gMul (rOp gIx (rVar 0) (rC (.int 0))) (rOp gIx (rVar 0) (rC (.int 0)))) (rOp gMul (rOp gIx (rVar 0) (rC (.int 1))) (rOp gIx (rVar 0) (rC (.int 1))))) rNil)))))
/-- size(one) : 0 one -/
def rd_size (Γ : CL) : RS := (rRet (rCl (sp_ratio Γ) (rCons (rOp gAdd (rOp gMul (rOp gIx (rVar 0) (rC (.int 0))) (rOp gIx (rVar 0) (rC (.int 0)))) (rOp gMul (rOp gIx (rVar 0) (rC (.int 1))) (rOp gIx (rVar 0) (rC (.int 1))))) (rCons (rOp gMul (rOp gIx (rVar 0) (rC (.int 2))) (rOp gIx (rVar 0) (rC (.int 2)))) rNil))))
/-- check_spot(value) : 0 value -/
def rd_check_spot (Γ : CL) : RS := (rIf (rNot (rB (rCl (sp_is_number Γ) (rCons (rVar 0) rNil))))
 rNever
 rNext)
/-- check_turn(value) : 0 value -/
def rd_check_turn (Γ : CL) : RS := (rIf (rOr (rNot (rB (rCl (sp_is_number Γ) (rCons (rVar 0) rNil)))) (rB (rOp gEq (rVar 0) (rC c_ZERO))))
 rNever
 rNext)
/-- carried(copy, spot) : 0 copy, 1 spot -/
def rd_carried (Γ : CL) : RS := (rRet (rCl (sp_added Γ) (rCons (rCl (sp_multiplied Γ) (rCons (rFld Γ.Copy "turn" (rVar 0)) (rCons (rIfE (rB (rFld Γ.Copy "mirrored" (rVar 0))) (rCl (sp_turned_over Γ) (rCons (rVar 1) rNil)) (rVar 1)) rNil))) (rCons (rFld Γ.Copy "shift" (rVar 0)) rNil))))
/-- Copy.__init__(self, turn, shift, mirrored) : 0 self, 1 turn, 2 shift, 3 mirrored -/
def rd_Copy___init (Γ : CL) : RS := (rSeq (rDrop (rCl (sp_check_turn Γ) (rCons (rVar 1) rNil)))
 (rSeq (rDrop (rCl (sp_check_spot Γ) (rCons (rVar 2) rNil)))
 (rSeq (rFldS Γ.Copy "turn" (rVar 0) (rVar 1))
 (rSeq (rFldS Γ.Copy "shift" (rVar 0) (rVar 2))
 (rSeq (rFldS Γ.Copy "mirrored" (rVar 0) (rVar 3))
 (rFldS Γ.Copy "key" (rVar 0) (rTup (rCons (rVar 1) (rCons (rVar 2) (rCons (rVar 3) rNil))))))))))
/-- Copy.__call__(self, spot) : 0 self, 1 spot -/
def rd_Copy___call (Γ : CL) : RS := (rSeq (rDrop (rCl (sp_check_spot Γ) (rCons (rVar 1) rNil)))
 (rRet (rCl (sp_carried Γ) (rCons (rVar 0) (rCons (rVar 1) rNil)))))
/-- Copy.__eq__(self, other) : 0 self, 1 other -/
def rd_Copy___eq (Γ : CL) : RS := (rRet (rAndV (rUn (gIsiO Γ.Copy) (rVar 1)) (rOp gEq (rFld Γ.Copy "key" (rVar 0)) (rFld Γ.Copy "key" (rVar 1)))))
/-- Copy.__rshift__(self, other) : 0 self, 1 other, 2 turn -/
def rd_Copy___rshift (Γ : CL) : RS := (rSeq (rAsg (rIfE (rB (rFld Γ.Copy "mirrored" (rVar 1))) (rCl (sp_turned_over Γ) (rCons (rFld Γ.Copy "turn" (rVar 0)) rNil)) (rFld Γ.Copy "turn" (rVar 0))) (rGN 2))
 (rRet (rMakeK (gMake Γ.Copy (sp_Copy___init Γ)) 2 1 gD_Copy_mirrored (rCons (rCl (sp_multiplied Γ) (rCons (rFld Γ.Copy "turn" (rVar 1)) (rCons (rVar 2) rNil))) (rCons (rCl (sp_carried Γ) (rCons (rVar 1) (rCons (rFld Γ.Copy "shift" (rVar 0)) rNil))) rNil)) (rCons (rOp gNe (rFld Γ.Copy "mirrored" (rVar 0)) (rFld Γ.Copy "mirrored" (rVar 1))) rNil))))
/-- Copy.__invert__(self) : 0 self, 1 back, 2 shift -/
def rd_Copy___invert (Γ : CL) : RS := (rSeq (rAsg (rCl (sp_inverse Γ) (rCons (rIfE (rB (rFld Γ.Copy "mirrored" (rVar 0))) (rCl (sp_turned_over Γ) (rCons (rFld Γ.Copy "turn" (rVar 0)) rNil)) (rFld Γ.Copy "turn" (rVar 0))) rNil)) (rGN 1))
 (rSeq (rAsg (rIfE (rB (rFld Γ.Copy "mirrored" (rVar 0))) (rCl (sp_turned_over Γ) (rCons (rFld Γ.Copy "shift" (rVar 0)) rNil)) (rFld Γ.Copy "shift" (rVar 0))) (rGN 2))
 (rRet (rMakeK (gMake Γ.Copy (sp_Copy___init Γ)) 2 1 gD_Copy_mirrored (rCons (rVar 1) (rCons (rCl (sp_opposite Γ) (rCons (rCl (sp_multiplied Γ) (rCons (rVar 1) (rCons (rVar 2) rNil))) rNil)) rNil)) (rCons (rFld Γ.Copy "mirrored" (rVar 0)) rNil)))))
/-- Copy.growth(self) : 0 self -/
def rd_Copy_growth (Γ : CL) : RS := (rRet (rCl (sp_size Γ) (rCons (rFld Γ.Copy "turn" (rVar 0)) rNil)))
/-- _law_random(_law_script, _law_salt) : 0 _law_script, 1 _law_salt, 2 _law_seed, 3 _law_cell -/
def rd_law_random (Γ : CL) : RS := (rSeq (rAsg (rVar 1) (rGN 2))
 (rSeq (rFor (rILst (rVar 0)) (rGN 3)
 (rAsg (rOp gMod (rOp gAdd (rOp gMul (rVar 2) (rC (.int 31))) (rCl gAbs (rCons (rVar 3) rNil))) (rC (.int 2147483647))) (rGN 2)))
 (rRet (rOp gAddM (rLst (rCons (rVar 2) (rCons (rC (.int 0)) rNil))) (rLc (rILst (rVar 0)) (rGN 3) (rB (rOp gGe (rVar 3) (rOp gPow (rC (.int 10)) (rC (.int 18))))) (rVar 3) [3])))))
/-- _law_below(_law_d, _law_limit) : 0 _law_d, 1 _law_limit, 2 _law_result -/
def rd_law_below (Γ : CL) : RS := (rSeq (rIf (rAnd (rB (rOp gEq (rOp gIx (rVar 0) (rC (.int 1))) (rC (.int 0)))) (rB (rOp gGt (rCl gLen (rCons (rVar 0) rNil)) (rC (.int 2)))))
 (rSetIx (rMut (rVar 0) (rCons (rC (.int 2)) rNil) gPopAt) (rVar 0) (rC (.int 1)))
 rNext)
 (rSeq (rIf (rB (rOp gGt (rOp gIx (rVar 0) (rC (.int 1))) (rC (.int 0))))
 (rSeq (rAsg (rOp gMod (rOp gIx (rVar 0) (rC (.int 1))) (rVar 1)) (rGN 2))
 (rSeq (rSetIx (rOp gDiv (rOp gIx (rVar 0) (rC (.int 1))) (rVar 1)) (rVar 0) (rC (.int 1)))
 (rRet (rVar 2))))
 rNext)
 (rSeq (rSetIx (rOp gMod (rOp gAdd (rOp gMul (rOp gIx (rVar 0) (rC (.int 0))) (rC (.int 48271))) (rC (.int 11))) (rC (.int 2147483647))) (rVar 0) (rC (.int 0)))
 (rRet (rOp gMod (rOp gDiv (rOp gIx (rVar 0) (rC (.int 0))) (rC (.int 64))) (rVar 1))))))
/-- _law_turn(_law_d) : 0 _law_d, 1 _law_some -/
def rd_law_turn (Γ : CL) : RS := (rSeq (rAsg (rLst (rCons (rTup (rCons (rC (.int 1)) (rCons (rC (.int 0)) (rCons (rC (.int 1)) rNil)))) (rCons (rTup (rCons (rOp gSub (rC (.int 0)) (rC (.int 1))) (rCons (rC (.int 0)) (rCons (rC (.int 1)) rNil)))) (rCons (rTup (rCons (rC (.int 0)) (rCons (rC (.int 1)) (rCons (rC (.int 1)) rNil)))) (rCons (rTup (rCons (rC (.int 0)) (rCons (rOp gSub (rC (.int 0)) (rC (.int 1))) (rCons (rC (.int 1)) rNil)))) (rCons (rTup (rCons (rC (.int 2)) (rCons (rC (.int 0)) (rCons (rC (.int 1)) rNil)))) (rCons (rTup (rCons (rC (.int 1)) (rCons (rC (.int 0)) (rCons (rC (.int 2)) rNil)))) (rCons (rTup (rCons (rC (.int 1)) (rCons (rC (.int 1)) (rCons (rC (.int 1)) rNil)))) (rCons (rTup (rCons (rC (.int 3)) (rCons (rC (.int 4)) (rCons (rC (.int 5)) rNil)))) rNil))))))))) (rGN 1))
 (rSeq (rAsg (rOp gAdd (rVar 1) (rLst (rCons (rTup (rCons (rC (.int 0)) (rCons (rC (.int 2)) (rCons (rC (.int 1)) rNil)))) (rCons (rTup (rCons (rOp gSub (rC (.int 0)) (rC (.int 1))) (rCons (rC (.int 0)) (rCons (rC (.int 3)) rNil)))) (rCons (rTup (rCons (rC (.int 1)) (rCons (rOp gSub (rC (.int 0)) (rC (.int 1))) (rCons (rC (.int 2)) rNil)))) (rCons (rTup (rCons (rC (.int 2)) (rCons (rC (.int 1)) (rCons (rC (.int 1)) rNil)))) (rCons (rTup (rCons (rOp gSub (rC (.int 0)) (rC (.int 4))) (rCons (rC (.int 3)) (rCons (rC (.int 5)) rNil)))) rNil))))))) (rGN 1))
 (rRet (rOp gIx (rVar 1) (rCl (sp_law_below Γ) (rCons (rVar 0) (rCons (rC (.int 13)) rNil)))))))
/-- _law_common(_law_one, _law_other) : 0 _law_one, 1 _law_other -/
def rd_law_common (Γ : CL) : RS := (rSeq (rPar 0 1 (rCons (rCl gAbs (rCons (rVar 0) rNil)) (rCons (rCl gAbs (rCons (rVar 1) rNil)) rNil)))
 (rSeq (rWhile (rB (rOp gGt (rVar 1) (rC (.int 0)))) (rPar 0 1 (rCons (rVar 1) (rCons (rOp gMod (rVar 0) (rVar 1)) rNil))))
 (rRet (rVar 0))))
/-- _law_lowest(_law_x, _law_y, _law_q) : 0 _law_x, 1 _law_y, 2 _law_q, 3 _law_common_now -/
def rd_law_lowest (Γ : CL) : RS := (rSeq (rAsg (rCl (sp_law_common Γ) (rCons (rCl (sp_law_common Γ) (rCons (rVar 0) (rCons (rVar 1) rNil))) (rCons (rVar 2) rNil))) (rGN 3))
 (rSeq (rAsg (rIfE (rB (rOp gGt (rVar 2) (rC (.int 0)))) (rVar 3) (rOp gSub (rC (.int 0)) (rVar 3))) (rGN 3))
 (rRet (rTup (rCons (rOp gDiv (rVar 0) (rVar 3)) (rCons (rOp gDiv (rVar 1) (rVar 3)) (rCons (rOp gDiv (rVar 2) (rVar 3)) rNil)))))))
/-- _law_spot(_law_d) : 0 _law_d, 1 _law_below_here -/
def rd_law_spot (Γ : CL) : RS := (rSeq (rAsg (rOp gIx (rLst (rCons (rC (.int 1)) (rCons (rC (.int 1)) (rCons (rC (.int 1)) (rCons (rC (.int 2)) (rCons (rC (.int 3)) (rCons (rC (.int 4)) rNil))))))) (rCl (sp_law_below Γ) (rCons (rVar 0) (rCons (rC (.int 6)) rNil)))) (rGN 1))
 (rRet (rCl (sp_law_lowest Γ) (rCons (rOp gSub (rCl (sp_law_below Γ) (rCons (rVar 0) (rCons (rC (.int 13)) rNil))) (rC (.int 6))) (rCons (rOp gSub (rCl (sp_law_below Γ) (rCons (rVar 0) (rCons (rC (.int 13)) rNil))) (rC (.int 6))) (rCons (rVar 1) rNil))))))
/-- _law_told(_law_d) : 0 _law_d -/
def rd_law_told (Γ : CL) : RS := (rRet (rTup (rCons (rCl (sp_law_turn Γ) (rCons (rVar 0) rNil)) (rCons (rCl (sp_law_spot Γ) (rCons (rVar 0) rNil)) (rCons (rOp gEq (rCl (sp_law_below Γ) (rCons (rVar 0) (rCons (rC (.int 2)) rNil))) (rC (.int 0))) rNil)))))
/-- _law_copy(_law_told_here) : 0 _law_told_here -/
def rd_law_copy (Γ : CL) : RS := (rRet (rMakeK (gMake Γ.Copy (sp_Copy___init Γ)) 2 1 gD_Copy_mirrored (rCons (rOp gIx (rVar 0) (rC (.int 0))) (rCons (rOp gIx (rVar 0) (rC (.int 1))) rNil)) (rCons (rOp gIx (rVar 0) (rC (.int 2))) rNil)))
/-- _law_equal(_law_actual, _law_expected) : 0 _law_actual, 1 _law_expected, 2 _law_k -/
def rd_law_equal (Γ : CL) (m : Nat) : RS := (rSeq (rIf (rB (rOp gIsN (rVar 1) (rC .non)))
 (rRet (rOp gIsN (rVar 0) (rC .non)))
 rNext)
 (rSeq (rIf (rB (rCl gIsi (rCons (rVar 1) (rCons (rC (.ty "bool")) rNil))))
 (rRet (rAndV (rCl gIsi (rCons (rVar 0) (rCons (rC (.ty "bool")) rNil))) (rOp gEq (rVar 0) (rVar 1))))
 rNext)
 (rSeq (rIf (rB (rCl gIsi (rCons (rVar 1) (rCons (rC (.ty "int")) rNil))))
 (rRet (rAndV (rCl gIsi (rCons (rVar 0) (rCons (rC (.ty "int")) rNil))) (rAndV (rNotV (rCl gIsi (rCons (rVar 0) (rCons (rC (.ty "bool")) rNil)))) (rOp gEq (rVar 0) (rVar 1)))))
 rNext)
 (rSeq (rIf (rB (rCl gIsi (rCons (rVar 1) (rCons (rC (.ty "str")) rNil))))
 (rRet (rAndV (rCl gIsi (rCons (rVar 0) (rCons (rC (.ty "str")) rNil))) (rOp gEq (rVar 0) (rVar 1))))
 rNext)
 (rSeq (rIf (rB (rOp gNe (rCl gIsi (rCons (rVar 1) (rCons (rC (.ty "tuple")) rNil))) (rCl gIsi (rCons (rVar 0) (rCons (rC (.ty "tuple")) rNil)))))
 (rRet (rC (.bl false)))
 rNext)
 (rSeq (rIf (rB (rOp gNe (rCl gIsi (rCons (rVar 1) (rCons (rC (.ty "list")) rNil))) (rCl gIsi (rCons (rVar 0) (rCons (rC (.ty "list")) rNil)))))
 (rRet (rC (.bl false)))
 rNext)
 (rSeq (rIf (rB (rOp gNe (rCl gLen (rCons (rVar 0) rNil)) (rCl gLen (rCons (rVar 1) rNil))))
 (rRet (rC (.bl false)))
 rNext)
 (rRet (rCl gAll (rCons (rLc (rIRng1 (rCons (rCl gLen (rCons (rVar 1) rNil)) rNil)) (rGN 2) rTrue (rCl (sp_law_equal Γ m) (rCons (rOp gIx (rVar 0) (rVar 2)) (rCons (rOp gIx (rVar 1) (rVar 2)) rNil))) [2]) rNil))))))))))
/-- _law_plus(_law_one, _law_other) : 0 _law_one, 1 _law_other, 2 _law_x, 3 _law_y -/
def rd_law_plus (Γ : CL) : RS := (rSeq (rAsg (rOp gAdd (rOp gMul (rOp gIx (rVar 0) (rC (.int 0))) (rOp gIx (rVar 1) (rC (.int 2)))) (rOp gMul (rOp gIx (rVar 1) (rC (.int 0))) (rOp gIx (rVar 0) (rC (.int 2))))) (rGN 2))
 (rSeq (rAsg (rOp gAdd (rOp gMul (rOp gIx (rVar 0) (rC (.int 1))) (rOp gIx (rVar 1) (rC (.int 2)))) (rOp gMul (rOp gIx (rVar 1) (rC (.int 1))) (rOp gIx (rVar 0) (rC (.int 2))))) (rGN 3))
 (rRet (rCl (sp_law_lowest Γ) (rCons (rVar 2) (rCons (rVar 3) (rCons (rOp gMul (rOp gIx (rVar 0) (rC (.int 2))) (rOp gIx (rVar 1) (rC (.int 2)))) rNil)))))))
/-- _law_times(_law_one, _law_other) : 0 _law_one, 1 _law_other, 2 _law_x, 3 _law_y -/
def rd_law_times (Γ : CL) : RS := (rSeq (rAsg (rOp gSub (rOp gMul (rOp gIx (rVar 0) (rC (.int 0))) (rOp gIx (rVar 1) (rC (.int 0)))) (rOp gMul (rOp gIx (rVar 0) (rC (.int 1))) (rOp gIx (rVar 1) (rC (.int 1))))) (rGN 2))
 (rSeq (rAsg (rOp gAdd (rOp gMul (rOp gIx (rVar 0) (rC (.int 0))) (rOp gIx (rVar 1) (rC (.int 1)))) (rOp gMul (rOp gIx (rVar 0) (rC (.int 1))) (rOp gIx (rVar 1) (rC (.int 0))))) (rGN 3))
 (rRet (rCl (sp_law_lowest Γ) (rCons (rVar 2) (rCons (rVar 3) (rCons (rOp gMul (rOp gIx (rVar 0) (rC (.int 2))) (rOp gIx (rVar 1) (rC (.int 2)))) rNil)))))))
/-- _law_over(_law_one) : 0 _law_one -/
def rd_law_over (Γ : CL) : RS := (rRet (rTup (rCons (rOp gIx (rVar 0) (rC (.int 0))) (rCons (rOp gSub (rC (.int 0)) (rOp gIx (rVar 0) (rC (.int 1)))) (rCons (rOp gIx (rVar 0) (rC (.int 2))) rNil)))))
/-- _law_carried(_law_told_here, _law_spot_here) : 0 _law_told_here, 1 _law_spot_here -/
def rd_law_carried (Γ : CL) : RS := (rRet (rCl (sp_law_plus Γ) (rCons (rCl (sp_law_times Γ) (rCons (rOp gIx (rVar 0) (rC (.int 0))) (rCons (rIfE (rB (rOp gIx (rVar 0) (rC (.int 2)))) (rCl (sp_law_over Γ) (rCons (rVar 1) rNil)) (rVar 1)) rNil))) (rCons (rOp gIx (rVar 0) (rC (.int 1))) rNil))))
/-- less(one, other) : 0 one, 1 other -/
def rd_less (Γ : CL) : RS := (rRet (rCl (sp_added Γ) (rCons (rVar 0) (rCons (rCl (sp_opposite Γ) (rCons (rVar 1) rNil)) rNil))))
/-- line_of(spot, way) : 0 spot, 1 way, 2 a, 3 b, 4 c, 5 divisor, 6 sign -/
def rd_line_of (Γ : CL) : RS := (rSeq (rPar 2 3 (rCons (rOp gMul (rOp gIx (rVar 1) (rC (.int 1))) (rOp gIx (rVar 0) (rC (.int 2)))) (rCons (rOp gSub (rC (.int 0)) (rOp gMul (rOp gIx (rVar 1) (rC (.int 0))) (rOp gIx (rVar 0) (rC (.int 2))))) rNil)))
 (rSeq (rAsg (rOp gSub (rOp gMul (rOp gIx (rVar 1) (rC (.int 1))) (rOp gIx (rVar 0) (rC (.int 0)))) (rOp gMul (rOp gIx (rVar 1) (rC (.int 0))) (rOp gIx (rVar 0) (rC (.int 1))))) (rGN 4))
 (rSeq (rAsg (rCl (sp_common_divisor Γ) (rCons (rCl (sp_common_divisor Γ) (rCons (rVar 2) (rCons (rVar 3) rNil))) (rCons (rVar 4) rNil))) (rGN 5))
 (rSeq (rAsg (rIfE (rOr (rB (rOp gGt (rVar 2) (rC (.int 0)))) (rAnd (rB (rOp gEq (rVar 2) (rC (.int 0)))) (rB (rOp gGt (rVar 3) (rC (.int 0)))))) (rC (.int 1)) (rUn (gU fun i => .int (-i)) (rC (.int 1)))) (rGN 6))
 (rRet (rTup (rCons (rOp gDiv (rOp gMul (rVar 6) (rVar 2)) (rVar 5)) (rCons (rOp gDiv (rOp gMul (rVar 6) (rVar 3)) (rVar 5)) (rCons (rOp gDiv (rOp gMul (rVar 6) (rVar 4)) (rVar 5)) rNil)))))))))
/-- kept(copy) : 0 copy, 1 both, 2 growth, 3 rest, 4 way -/
def rd_kept (Γ : CL) : RS := (rSeq (rIf (rNot (rB (rFld Γ.Copy "mirrored" (rVar 0))))
 (rSeq (rIf (rB (rOp gEq (rFld Γ.Copy "turn" (rVar 0)) (rC c_ONE)))
 (rRet (rIfE (rB (rOp gEq (rFld Γ.Copy "shift" (rVar 0)) (rC c_ZERO))) (rTup (rCons (rC (.str "all")) rNil)) (rTup (rCons (rC (.str "none")) rNil))))
 rNext)
 (rRet (rTup (rCons (rC (.str "spot")) (rCons (rCl (sp_multiplied Γ) (rCons (rFld Γ.Copy "shift" (rVar 0)) (rCons (rCl (sp_inverse Γ) (rCons (rCl (sp_less Γ) (rCons (rC c_ONE) (rCons (rFld Γ.Copy "turn" (rVar 0)) rNil))) rNil)) rNil))) rNil)))))
 rNext)
 (rSeq (rAsg (rCl (sp_added Γ) (rCons (rCl (sp_multiplied Γ) (rCons (rFld Γ.Copy "turn" (rVar 0)) (rCons (rCl (sp_turned_over Γ) (rCons (rFld Γ.Copy "shift" (rVar 0)) rNil)) rNil))) (rCons (rFld Γ.Copy "shift" (rVar 0)) rNil))) (rGN 1))
 (rSeq (rAsg (rCl (sp_size Γ) (rCons (rFld Γ.Copy "turn" (rVar 0)) rNil)) (rGN 2))
 (rSeq (rIf (rB (rOp gNe (rVar 2) (rTup (rCons (rC (.int 1)) (rCons (rC (.int 1)) rNil)))))
 (rSeq (rAsg (rCl (sp_lowest Γ) (rCons (rOp gSub (rOp gIx (rVar 2) (rC (.int 1))) (rOp gIx (rVar 2) (rC (.int 0)))) (rCons (rC (.int 0)) (rCons (rOp gIx (rVar 2) (rC (.int 1))) rNil)))) (rGN 3))
 (rRet (rTup (rCons (rC (.str "spot")) (rCons (rCl (sp_multiplied Γ) (rCons (rVar 1) (rCons (rCl (sp_inverse Γ) (rCons (rVar 3) rNil)) rNil))) rNil)))))
 rNext)
 (rSeq (rIf (rB (rOp gNe (rVar 1) (rC c_ZERO)))
 (rRet (rTup (rCons (rC (.str "none")) rNil)))
 rNext)
 (rSeq (rAsg (rIfE (rB (rOp gNe (rFld Γ.Copy "turn" (rVar 0)) (rTup (rCons (rUn (gU fun i => .int (-i)) (rC (.int 1))) (rCons (rC (.int 0)) (rCons (rC (.int 1)) rNil)))))) (rCl (sp_added Γ) (rCons (rC c_ONE) (rCons (rFld Γ.Copy "turn" (rVar 0)) rNil))) (rTup (rCons (rC (.int 0)) (rCons (rC (.int 1)) (rCons (rC (.int 1)) rNil))))) (rGN 4))
 (rRet (rTup (rCons (rC (.str "line")) (rStar (rCl (sp_line_of Γ) (rCons (rCl (sp_multiplied Γ) (rCons (rFld Γ.Copy "shift" (rVar 0)) (rCons (rTup (rCons (rC (.int 1)) (rCons (rC (.int 0)) (rCons (rC (.int 2)) rNil)))) rNil))) (rCons (rVar 4) rNil))) rNil))))))))))
/-- _law_minus(_law_one, _law_other) : 0 _law_one, 1 _law_other -/
def rd_law_minus (Γ : CL) : RS := (rRet (rCl (sp_law_plus Γ) (rCons (rVar 0) (rCons (rTup (rCons (rOp gSub (rC (.int 0)) (rOp gIx (rVar 1) (rC (.int 0)))) (rCons (rOp gSub (rC (.int 0)) (rOp gIx (rVar 1) (rC (.int 1)))) (rCons (rOp gIx (rVar 1) (rC (.int 2))) rNil)))) rNil))))
/-- meeting(one, other) : 0 one, 1 other -/
def rd_meeting (Γ : CL) : RS := (rRet (rCl (sp_kept Γ) (rCons (rOp (gOwn2 Γ.Copy (sp_Copy___rshift Γ)) (rVar 0) (rUn (gOwn1 Γ.Copy (sp_Copy___invert Γ)) (rVar 1))) rNil)))
/-- is_int_in(value, low, high) : 0 value, 1 low, 2 high -/
def rd_is_int_in (Γ : CL) : RS := (rRet (rAndV (rCl gIsi (rCons (rVar 0) (rCons (rC (.ty "int")) rNil))) (rAndV (rNotV (rCl gIsi (rCons (rVar 0) (rCons (rC (.ty "bool")) rNil)))) (rChain gLe gLe (rVar 1) (rVar 0) (rVar 2)))))
/-- Copy.again(self, times) : 0 self, 1 times, 2 step, 3 found, 4 turn -/
def rd_Copy_again (Γ : CL) : RS := (rSeq (rIf (rNot (rB (rCl (sp_is_int_in Γ) (rCons (rVar 1) (rCons (rOp gSub (rC (.int 0)) (rC c_MAX_TIMES)) (rCons (rC c_MAX_TIMES) rNil))))))
 rNever
 rNext)
 (rSeq (rAsg (rIfE (rB (rOp gLt (rVar 1) (rC (.int 0)))) (rUn (gOwn1 Γ.Copy (sp_Copy___invert Γ)) (rVar 0)) (rVar 0)) (rGN 2))
 (rSeq (rAsg (rMakeD (gMake Γ.Copy (sp_Copy___init Γ)) [.bl false] (rCons (rC c_ONE) (rCons (rC c_ZERO) rNil))) (rGN 3))
 (rSeq (rFor (rIRng1 (rCons (rCl gAbs (rCons (rVar 1) rNil)) rNil)) (rGN 4)
 (rAsg (rOp (gOwn2 Γ.Copy (sp_Copy___rshift Γ)) (rVar 3) (rVar 2)) (rGN 3)))
 (rRet (rVar 3))))))
/-- order(copy) : 0 copy, 1 found, 2 times -/
def rd_order (Γ : CL) : RS := (rSeq (rAsg (rVar 0) (rGN 1))
 (rSeq (rFor (rIRng2 (rCons (rC (.int 1)) (rCons (rC (.int 5)) rNil))) (rGN 2)
 (rSeq (rIf (rB (rOp gEq (rCl (sp_kept Γ) (rCons (rVar 1) rNil)) (rTup (rCons (rC (.str "all")) rNil))))
 (rRet (rVar 2))
 rNext)
 (rAsg (rOp (gOwn2 Γ.Copy (sp_Copy___rshift Γ)) (rVar 1) (rVar 0)) (rGN 1))))
 (rRet (rC .non))))
/-- _law_step(_law_d, _law_size_now) : 0 _law_d, 1 _law_size_now -/
def rd_law_step (Γ : CL) : RS := (rRet (rTup (rCons (rOp gSub (rCl (sp_law_below Γ) (rCons (rVar 0) (rCons (rOp gAdd (rOp gMul (rC (.int 2)) (rVar 1)) (rC (.int 1))) rNil))) (rVar 1)) (rCons (rOp gSub (rCl (sp_law_below Γ) (rCons (rVar 0) (rCons (rOp gAdd (rOp gMul (rC (.int 2)) (rVar 1)) (rC (.int 1))) rNil))) (rVar 1)) (rCons (rC (.int 1)) rNil)))))
/-- _law_arm_told(_law_d) : 0 _law_d, 1 _law_near, 2 _law_pole -/
def rd_law_arm_told (Γ : CL) : RS := (rSeq (rAsg (rOp gIx (rLst (rCons (rC (.int 0)) (rCons (rC (.int 0)) (rCons (rC (.int 1)) (rCons (rC (.int 2)) rNil))))) (rCl (sp_law_below Γ) (rCons (rVar 0) (rCons (rC (.int 4)) rNil)))) (rGN 1))
 (rSeq (rAsg (rIfE (rB (rOp gGt (rCl (sp_law_below Γ) (rCons (rVar 0) (rCons (rC (.int 3)) rNil))) (rC (.int 0)))) (rCl (sp_law_step Γ) (rCons (rVar 0) (rCons (rC (.int 4)) rNil))) (rCl (sp_law_spot Γ) (rCons (rVar 0) rNil))) (rGN 2))
 (rRet (rTup (rCons (rVar 2) (rCons (rCl (sp_law_turn Γ) (rCons (rVar 0) rNil)) (rCons (rVar 1) (rCons (rOp gAdd (rVar 1) (rOp gIx (rLst (rCons (rC (.int 3)) (rCons (rC (.int 8)) (rCons (rC (.int 20)) (rCons (rC (.int 99)) rNil))))) (rCl (sp_law_below Γ) (rCons (rVar 0) (rCons (rC (.int 4)) rNil))))) (rCons (rOp gEq (rCl (sp_law_below Γ) (rCons (rVar 0) (rCons (rC (.int 3)) rNil))) (rC (.int 0))) rNil)))))))))
/-- Chain.__init__(self, arms) : 0 self, 1 arms -/
def rd_Chain___init (Γ : CL) : RS := (rSeq (rIf (rB (rOp gGt (rCl gLen (rCons (rVar 1) rNil)) (rC c_MAX_ARMS)))
 rNever
 rNext)
 (rFldS Γ.Chain "arms" (rVar 0) (rVar 1)))
/-- Arm.__init__(self, pole, turn, near, far, mirrored) : 0 self, 1 pole, 2 turn, 3 near, 4 far, 5 mirrored -/
def rd_Arm___init (Γ : CL) : RS := (rSeq (rDrop (rCl (sp_check_spot Γ) (rCons (rVar 1) rNil)))
 (rSeq (rDrop (rCl (sp_check_turn Γ) (rCons (rVar 2) rNil)))
 (rSeq (rIf (rOr (rNot (rB (rCl (sp_is_int_in Γ) (rCons (rVar 3) (rCons (rC (.int 0)) (rCons (rC c_MAX_REACH_arms) rNil)))))) (rNot (rB (rCl (sp_is_int_in Γ) (rCons (rVar 4) (rCons (rVar 3) (rCons (rC c_MAX_REACH_arms) rNil)))))))
 rNever
 rNext)
 (rSeq (rFldS Γ.Arm "pole" (rVar 0) (rVar 1))
 (rSeq (rFldS Γ.Arm "turn" (rVar 0) (rVar 2))
 (rSeq (rFldS Γ.Arm "near" (rVar 0) (rVar 3))
 (rSeq (rFldS Γ.Arm "far" (rVar 0) (rVar 4))
 (rSeq (rFldS Γ.Arm "mirrored" (rVar 0) (rVar 5))
 (rFldS Γ.Arm "key" (rVar 0) (rTup (rCons (rVar 1) (rCons (rVar 2) (rCons (rVar 3) (rCons (rVar 4) (rCons (rVar 5) rNil)))))))))))))))
/-- _law_arm(_law_told) : 0 _law_told -/
def rd_law_arm (Γ : CL) : RS := (rRet (rMakeK (gMake Γ.Arm (sp_Arm___init Γ)) 4 1 gD_Arm_mirrored (rCons (rOp gIx (rVar 0) (rC (.int 0))) (rCons (rOp gIx (rVar 0) (rC (.int 1))) (rCons (rOp gIx (rVar 0) (rC (.int 2))) (rCons (rOp gIx (rVar 0) (rC (.int 3))) rNil)))) (rCons (rOp gIx (rVar 0) (rC (.int 4))) rNil)))
/-- Chain.__add__(self, other) : 0 self, 1 other, 2 arms -/
def rd_Chain___add (Γ : CL) : RS := (rSeq (rAsg (rTup (rStar (rFld Γ.Chain "arms" (rVar 0)) (rStar (rFld Γ.Chain "arms" (rVar 1)) rNil))) (rGN 2))
 (rRet (rCl (gMakeS Γ.Chain (sp_Chain___init Γ)) (rStar (rVar 2) rNil))))
/-- _law_chain(_law_tolds) : 0 _law_tolds, 1 _law_chain_here, 2 _law_told -/
def rd_law_chain (Γ : CL) : RS := (rSeq (rAsg (rCl (gMakeS Γ.Chain (sp_Chain___init Γ)) rNil) (rGN 1))
 (rSeq (rFor (rILst (rVar 0)) (rGN 2)
 (rAsg (rOp (gOwn2 Γ.Chain (sp_Chain___add Γ)) (rVar 1) (rCl (gMakeS Γ.Chain (sp_Chain___init Γ)) (rCons (rCl (sp_law_arm Γ) (rCons (rVar 2) rNil)) rNil))) (rGN 1)))
 (rRet (rVar 1))))
/-- copy_about(pole, turn, mirrored) : 0 pole, 1 turn, 2 mirrored, 3 carried -/
def rd_copy_about (Γ : CL) : RS := (rSeq (rAsg (rCl (sp_multiplied Γ) (rCons (rVar 1) (rCons (rIfE (rB (rVar 2)) (rCl (sp_turned_over Γ) (rCons (rVar 0) rNil)) (rVar 0)) rNil))) (rGN 3))
 (rRet (rMakeK (gMake Γ.Copy (sp_Copy___init Γ)) 2 1 gD_Copy_mirrored (rCons (rVar 1) (rCons (rCl (sp_less Γ) (rCons (rVar 0) (rCons (rVar 3) rNil))) rNil)) (rCons (rVar 2) rNil))))
/-- Arm.effect(self) : 0 self -/
def rd_Arm_effect (Γ : CL) : RS := (rRet (rCl (sp_copy_about Γ) (rCons (rFld Γ.Arm "pole" (rVar 0)) (rCons (rFld Γ.Arm "turn" (rVar 0)) (rCons (rFld Γ.Arm "mirrored" (rVar 0)) rNil)))))
/-- copies_ahead(arms) : 0 arms, 1 found, 2 arm -/
def rd_copies_ahead (Γ : CL) : RS := (rSeq (rAsg (rLstM (rCons (rMakeD (gMake Γ.Copy (sp_Copy___init Γ)) [.bl false] (rCons (rC c_ONE) (rCons (rC c_ZERO) rNil))) rNil)) (rGN 1))
 (rSeq (rFor (rITup (rVar 0)) (rGN 2)
 (rDrop (rMut (rVar 1) (rCons (rOp (gOwn2 Γ.Copy (sp_Copy___rshift Γ)) (rOp gIx (rVar 1) (rUn (gU fun i => .int (-i)) (rC (.int 1)))) (rOwn Γ.Arm (sp_Arm_effect Γ) (rVar 2) rNil)) rNil) gAppend)))
 (rRet (rFrz (rVar 1)))))
/-- Chain.effect(self) : 0 self -/
def rd_Chain_effect (Γ : CL) : RS := (rRet (rOp gIx (rCl (sp_copies_ahead Γ) (rCons (rFld Γ.Chain "arms" (rVar 0)) rNil)) (rUn (gU fun i => .int (-i)) (rC (.int 1)))))
/-- single(chain) : 0 chain, 1 copy, 2 found, 3 pole, 4 a, 5 b, 6 c -/
def rd_single (Γ : CL) : RS := (rSeq (rAsg (rOwn Γ.Chain (sp_Chain_effect Γ) (rVar 0) rNil) (rGN 1))
 (rSeq (rAsg (rCl (sp_kept Γ) (rCons (rVar 1) rNil)) (rGN 2))
 (rSeq (rIf (rB (rOp gEq (rOp gIx (rVar 2) (rC (.int 0))) (rC (.str "none"))))
 (rRet (rC .non))
 rNext)
 (rSeq (rIf (rB (rOp gEq (rOp gIx (rVar 2) (rC (.int 0))) (rC (.str "spot"))))
 (rAsg (rOp gIx (rVar 2) (rC (.int 1))) (rGN 3))
 (rIf (rB (rOp gEq (rOp gIx (rVar 2) (rC (.int 0))) (rC (.str "all"))))
 (rAsg (rC c_ZERO) (rGN 3))
 (rSeq (rAsg (rSl (rVar 2) (rPart (rC (.int 1))) rNoPart) (rGTup 3 (rGCons (rGN 4) (rGCons (rGN 5) (rGCons (rGN 6) rGNil)))))
 (rAsg (rCl (sp_lowest Γ) (rCons (rOp gMul (rVar 4) (rVar 6)) (rCons (rOp gMul (rVar 5) (rVar 6)) (rCons (rOp gAdd (rOp gMul (rVar 4) (rVar 4)) (rOp gMul (rVar 5) (rVar 5))) rNil)))) (rGN 3)))))
 (rRet (rMakeK (gMake Γ.Arm (sp_Arm___init Γ)) 4 1 gD_Arm_mirrored (rCons (rVar 3) (rCons (rFld Γ.Copy "turn" (rVar 1)) (rCons (rC (.int 0)) (rCons (rC c_MAX_REACH_chains) rNil)))) (rCons (rFld Γ.Copy "mirrored" (rVar 1)) rNil)))))))
/-- Arm.__eq__(self, other) : 0 self, 1 other -/
def rd_Arm___eq (Γ : CL) : RS := (rRet (rAndV (rUn (gIsiO Γ.Arm) (rVar 1)) (rOp gEq (rFld Γ.Arm "key" (rVar 0)) (rFld Γ.Arm "key" (rVar 1)))))
/-- zones(chain) : 0 chain, 1 found, 2 arm, 3 ahead, 4 growth, 5 ends, 6 reach -/
def rd_zones (Γ : CL) : RS := (rSeq (rAsg (rLstM rNil) (rGN 1))
 (rSeq (rFor (rIZip (rCons (rFld Γ.Chain "arms" (rVar 0)) (rCons (rCl (sp_copies_ahead Γ) (rCons (rFld Γ.Chain "arms" (rVar 0)) rNil)) rNil))) (rGTup 2 (rGCons (rGN 2) (rGCons (rGN 3) rGNil)))
 (rSeq (rAsg (rOwn Γ.Copy (sp_Copy_growth Γ) (rVar 3) rNil) (rGN 4))
 (rSeq (rAsg (rLc (rITup (rTup (rCons (rFld Γ.Arm "near" (rVar 2)) (rCons (rFld Γ.Arm "far" (rVar 2)) rNil)))) (rGN 6) rTrue (rCl (sp_ratio Γ) (rCons (rOp gMul (rOp gMul (rVar 6) (rVar 6)) (rOp gIx (rVar 4) (rC (.int 1)))) (rCons (rOp gIx (rVar 4) (rC (.int 0))) rNil))) [6]) (rGN 5))
 (rDrop (rMut (rVar 1) (rCons (rTup (rCons (rCl (sp_carried Γ) (rCons (rUn (gOwn1 Γ.Copy (sp_Copy___invert Γ)) (rVar 3)) (rCons (rFld Γ.Arm "pole" (rVar 2)) rNil))) (rCons (rOp gIx (rVar 5) (rC (.int 0))) (rCons (rOp gIx (rVar 5) (rC (.int 1))) rNil)))) rNil) gAppend)))))
 (rRet (rFrz (rVar 1)))))
/-- _law_ratio(_law_p, _law_q) : 0 _law_p, 1 _law_q -/
def rd_law_ratio (Γ : CL) : RS := (rRet (rTup (rCons (rOp gIx (rCl (sp_law_lowest Γ) (rCons (rVar 0) (rCons (rC (.int 0)) (rCons (rVar 1) rNil)))) (rC (.int 0))) (rCons (rOp gIx (rCl (sp_law_lowest Γ) (rCons (rVar 0) (rCons (rC (.int 0)) (rCons (rVar 1) rNil)))) (rC (.int 2))) rNil))))
/-- _law_size(_law_one) : 0 _law_one -/
def rd_law_size (Γ : CL) : RS := (rRet (rCl (sp_law_ratio Γ) (rCons (rOp gAdd (rOp gMul (rOp gIx (rVar 0) (rC (.int 0))) (rOp gIx (rVar 0) (rC (.int 0)))) (rOp gMul (rOp gIx (rVar 0) (rC (.int 1))) (rOp gIx (rVar 0) (rC (.int 1))))) (rCons (rOp gMul (rOp gIx (rVar 0) (rC (.int 2))) (rOp gIx (rVar 0) (rC (.int 2)))) rNil))))
/-- _law_less(_law_one, _law_other) : 0 _law_one, 1 _law_other -/
def rd_law_less (Γ : CL) : RS := (rRet (rOp gLt (rOp gMul (rOp gIx (rVar 0) (rC (.int 0))) (rOp gIx (rVar 1) (rC (.int 1)))) (rOp gMul (rOp gIx (rVar 1) (rC (.int 0))) (rOp gIx (rVar 0) (rC (.int 1))))))
/-- _law_reached(_law_told, _law_spot_here) : 0 _law_told, 1 _law_spot_here, 2 _law_distance -/
def rd_law_reached (Γ : CL) : RS := (rSeq (rAsg (rCl (sp_law_size Γ) (rCons (rCl (sp_law_minus Γ) (rCons (rVar 1) (rCons (rOp gIx (rVar 0) (rC (.int 0))) rNil))) rNil)) (rGN 2))
 (rRet (rAndV (rNotV (rCl (sp_law_less Γ) (rCons (rVar 2) (rCons (rTup (rCons (rOp gMul (rOp gIx (rVar 0) (rC (.int 2))) (rOp gIx (rVar 0) (rC (.int 2)))) (rCons (rC (.int 1)) rNil))) rNil)))) (rNotV (rCl (sp_law_less Γ) (rCons (rTup (rCons (rOp gMul (rOp gIx (rVar 0) (rC (.int 3))) (rOp gIx (rVar 0) (rC (.int 3)))) (rCons (rC (.int 1)) rNil))) (rCons (rVar 2) rNil)))))))
/-- _law_about(_law_told) : 0 _law_told, 1 _law_pole, 2 _law_turn_here, 3 _law_near, 4 _law_far, 5 _law_flipped, 6 _law_carried_to -/
def rd_law_about (Γ : CL) : RS := (rSeq (rAsg (rVar 0) (rGTup 5 (rGCons (rGN 1) (rGCons (rGN 2) (rGCons (rGN 3) (rGCons (rGN 4) (rGCons (rGN 5) rGNil)))))))
 (rSeq (rAsg (rCl (sp_law_times Γ) (rCons (rVar 2) (rCons (rIfE (rB (rVar 5)) (rCl (sp_law_over Γ) (rCons (rVar 1) rNil)) (rVar 1)) rNil))) (rGN 6))
 (rRet (rTup (rCons (rVar 2) (rCons (rCl (sp_law_minus Γ) (rCons (rVar 1) (rCons (rVar 6) rNil))) (rCons (rVar 5) rNil)))))))
end L3

/-! ## V1 -/
set_option Elab.async false
set_option linter.all false
set_option maxRecDepth 100000
set_option maxHeartbeats 4000000
namespace L3
open PySem NM L2
abbrev fin (R : D → MH → Prop) : Ed := { nx := fun _ μ' => R .non μ', rt := R }
theorem ite_no {c : Prop} [Decidable c] {a b : Prop} (h : ¬ c) (q : b) : if c then a else b := by
  rw [if_neg h]
  exact q
theorem ite_yes {c : Prop} [Decidable c] {a b : Prop} (h : c) (q : a) : if c then a else b := by
  rw [if_pos h]
  exact q
theorem ln {n : Nat} (h : n ≤ 1000) : (n ≤ sizeLine) = True := eq_true (Nat.le_trans h (by decide))
local macro_rules | `(tactic| walk_at "d") => `(tactic| (try (simp only [rSeq, rAsg, rRet, rRetN, rDrop, rIf, rNext, rPar, rPar3, rCons, rNil, rStar, rCl, rOp, rUn, rVar, rC, rGN, rTup, rLst, rB, rAnd, rOr, rNot, rIfE, rAndV, rOrV, rNotV, rNever, rFld, rOwn, rMeth, rMakeK, rMakeD, rFldS, rFrz, rSetIx, rMut, rILst, rITup, rIRng1, rIRng2, rFor, rLc, rLcM, rTrue, gt, st, gI, gI0, gU, gIx, gEq, gNe, gAdd, gSub, gMul, gDiv, gMod, gPow, gLt, gLe, gGt, gGe, gIsi, gAbs, gLen, gAll, gIsN, gNotN, gOwn1, gOwn2, isNonD, seqD, res, atI_0, atI_1, atI_2, atI_3, atI_4, List.getElem?_cons_zero, List.getElem?_cons_succ, List.length_cons, List.length_nil, decide_eq_true_eq, List.map_cons, List.map_nil, startD, List.cons_append, List.nil_append, List.replicate, Nat.zero_add, numD, if_true, if_false, Bool.false_eq_true, and_self, true_and, ite_true, ite_false, Nat.reduceAdd, Nat.reduceSub, ln, Nat.reduceLeDiff, fin, String.reduceBEq, Bool.not_true, Bool.not_false, pureN, deq_int, deq_tt, deq_t0, deq_bl, List.all_cons, List.all_nil, Bool.and_true, Bool.true_and, Bool.and_eq_true, List.append_nil])))

theorem vc_is_int (Γ : CL) : ∀ ds μ R, sp_is_int Γ ds μ R → rd_is_int Γ (fin R) (startD 1 ds) μ := by
  intro ds μ R h
  unfold sp_is_int at h
  split at h <;> first | exact h.elim | skip
  all_goals (unfold rd_is_int; walk_at "d"; simp only [isiD]; exact ⟨by decide, by simpa [isiD, tyOK] using h⟩)

/-! ### gcd -/
theorem gz_step {a b : Int} (ha : 0 ≤ a) (hb : 0 < b) : gz b (a.fmod b) = gz a b := by
  rw [Int.fmod_eq_emod_of_nonneg _ (by omega)]
  obtain ⟨n, rfl⟩ := Int.eq_ofNat_of_zero_le ha
  obtain ⟨m, rfl⟩ := Int.eq_ofNat_of_zero_le (show 0 ≤ b by omega)
  unfold gz
  rw [show ((n : Int) % (m : Int)) = ((n % m : Nat) : Int) by simp]
  simp only [Int.gcd_natCast_natCast]
  rw [Nat.gcd_comm m (n % m), Nat.gcd_comm n m, ← Nat.gcd_rec]
theorem gz_abs (a b : Int) : gz (if a < 0 then -a else a) (if b < 0 then -b else b) = gz a b := by
  unfold gz
  split <;> split <;> simp
theorem gz_zero {a : Int} (h : 0 ≤ a) : gz a 0 = a := by
  unfold gz
  rw [Int.gcd_zero_right]
  omega
theorem vc_common_divisor (Γ : CL) : ∀ ds μ R, sp_common_divisor Γ ds μ R → rd_common_divisor Γ (fin R) (startD 2 ds) μ := by
  intro ds μ R h
  unfold sp_common_divisor at h
  split at h <;> first | exact h.elim | skip
  rename_i a b
  unfold rd_common_divisor
  walk_at "d"
  rw [← gz_abs a b] at h
  have na : 0 ≤ (if a < 0 then -a else a) := by split <;> omega
  have nb : 0 ≤ (if b < 0 then -b else b) := by split <;> omega
  generalize (if a < 0 then -a else a) = a at *
  generalize (if b < 0 then -b else b) = b at *
  refine ⟨fun ρ μ' => ∃ u v : Int, ρ = [some (.int u), some (.int v)] ∧ 0 ≤ u ∧ 0 ≤ v ∧ gz u v = gz a b ∧ μ' = μ, fun ρ _ => match gt ρ 1 with | some (.int v) => v.toNat | _ => 0, ⟨a, b, rfl, na, nb, rfl, rfl⟩, ?_⟩
  rintro ρ μ' ⟨u, v, rfl, hu, hv, e, rfl⟩
  walk_at "d"
  split
  · rename_i hp
    refine ⟨by omega, ⟨_, _, rfl, hv, ?_, ?_, trivial⟩, ?_⟩
    · rw [Int.fmod_eq_emod_of_nonneg _ hv]; exact Int.emod_nonneg _ (by omega)
    · rw [gz_step hu hp]; exact e
    · rw [Int.fmod_eq_emod_of_nonneg _ hv]
      have := Int.emod_lt_of_pos u hp
      omega
  · rename_i hp
    have : v = 0 := by omega
    subst this
    rw [gz_zero hu] at e
    rw [e]
    exact h
theorem bt_gz {n : Nat} {a b : Int} (h : b ≠ 0) (hb : Bt n b) : Bt n (gz a b) := by
  refine hb.le ?_
  have := Int.natAbs_dvd_natAbs.mpr (gz_dr a b)
  exact Nat.le_of_dvd (by omega) this
theorem gz_ne {a b : Int} (h : b ≠ 0) : gz a b ≠ 0 := by have := gz_pos (a := a) h; omega
theorem vc_ratio (Γ : CL) : ∀ ds μ R, sp_ratio Γ ds μ R → rd_ratio Γ (fin R) (startD 3 ds) μ := by
  intro ds μ R h
  unfold sp_ratio at h
  split at h <;> first | exact h.elim | skip
  obtain ⟨h1, h2, h⟩ := h
  unfold rd_ratio
  walk_at "d"
  simp only [sp_common_divisor]
  walk_at "d"
  exact ⟨⟨gz_ne h1, bt_gz h1 h2⟩, ⟨gz_ne h1, bt_gz h1 h2⟩, h⟩
theorem bt1 : Bt big 1 := Bt.mono (n := 1) (by unfold Bt; decide) (by decide)
theorem btm1 : Bt big (-1) := Bt.mono (n := 1) (by unfold Bt; decide) (by decide)
theorem vc_lowest (Γ : CL) : ∀ ds μ R, sp_lowest Γ ds μ R → rd_lowest Γ (fin R) (startD 5 ds) μ := by
  intro ds μ R h
  unfold sp_lowest at h
  split at h <;> first | exact h.elim | skip
  rename_i x y d
  obtain ⟨h1, hx, hy, hd, h⟩ := h
  unfold rd_lowest
  walk_at "d"
  simp only [sp_common_divisor]
  walk_at "d"
  have g1 := gz_ne (a := gz x y) h1
  have g2 := bt_gz (a := gz x y) h1 hd
  unfold low at h
  simp only [numD] at h
  split <;> rename_i hp
  · simp only [if_pos hp] at h
    exact ⟨⟨bt1, hx⟩, ⟨g1, g2⟩, ⟨bt1, hy⟩, ⟨g1, g2⟩, ⟨bt1, hd⟩, ⟨g1, g2⟩, h⟩
  · simp only [if_neg hp] at h
    exact ⟨⟨btm1, hx⟩, ⟨g1, g2⟩, ⟨btm1, hy⟩, ⟨g1, g2⟩, ⟨btm1, hd⟩, ⟨g1, g2⟩, h⟩
/-- a comprehension whose element and test are functions -/
theorem lcD_map {i : Nat} {f : RX} {ρ : EV} {g : D → D} {R : List D → MH → Prop} {μ : MH} : ∀ (ds acc : List D), (∀ d ∈ ds, ∀ Q : D → MH → Prop, Q (g d) μ → f (st ρ i d) μ Q) → R (acc ++ ds.map g) μ → lcD (rGN i) rTrue f tru ρ ds acc μ R
  | [], acc, _, h => by
    rw [List.map_nil, List.append_nil] at h
    exact ⟨trivial, h⟩
  | d :: r, acc, hf, h => by
    refine ⟨trivial, ?_⟩
    simp only [rGN, rTrue, if_true]
    refine hf d (List.mem_cons_self ..) _ ?_
    refine lcD_map r _ (fun e he => hf e (List.mem_cons_of_mem _ he)) ?_
    rw [List.append_assoc]
    exact h
def isIntD : D → Bool
  | .int _ => true
  | _ => false
theorem sp_is_int_i {Γ : CL} {d : D} {μ : MH} {Q : D → MH → Prop} (h : okD d = true) (q : Q (.bl (isIntD d)) μ) : sp_is_int Γ [d] μ Q := by
  cases d <;> first | exact q | cases h
theorem bools_map {f : D → Bool} : ∀ ds : List D, bools (ds.map fun d => .bl (f d)) = some (ds.map f)
  | [] => rfl
  | d :: r => by
    show (bools (r.map fun d => .bl (f d))).map (f d :: ·) = _
    rw [bools_map r]
    rfl
theorem can_iff {x y d : Int} : (0 < d ∧ low x y d = ⟨x, y, d⟩) ↔ Can ⟨x, y, d⟩ := by
  constructor
  · rintro ⟨h1, h2⟩
    have := low_can (x := x) (y := y) (d := d) (by omega)
    rwa [h2] at this
  · intro h
    exact ⟨h.1, low_self h⟩
theorem deq_num {a b : Num} : deq (numD a) (numD b) = decide (a = b) := by
  unfold numD
  rw [deq_tt, deq_tt, deq_tt, deq_t0, deq_int, deq_int, deq_int]
  by_cases h : a = b
  · subst h
    simp
  · rw [decide_eq_false h]
    obtain ⟨x, y, d⟩ := a
    obtain ⟨u, v, w⟩ := b
    by_cases h1 : x = u <;> by_cases h2 : y = v <;> by_cases h3 : d = w <;> simp_all
theorem all3 {ds : List D} (h : ds.length = 3) : ∃ a b c, ds = [a, b, c] := by
  match ds, h with
  | [a, b, c], _ => exact ⟨a, b, c, rfl⟩
theorem isNum_len {ds : List D} (h : ds.length ≠ 3) : isNumD (.tup ds) = false := by
  unfold isNumD
  split
  · rename_i e
    cases e
    exact absurd rfl h
  · rfl
theorem isNum_ints {a b c : D} (h : [a, b, c].all isIntD = false) : isNumD (.tup [a, b, c]) = false := by
  unfold isNumD
  split
  · rename_i e
    cases e
    cases h
  · rfl
theorem int_of {d : D} (h : isIntD d = true) : ∃ i, d = .int i := by
  cases d <;> first | exact ⟨_, rfl⟩ | cases h
theorem vc_is_number (Γ : CL) : ∀ ds μ R, sp_is_number Γ ds μ R → rd_is_number Γ (fin R) (startD 2 ds) μ := by
  intro ds μ R h
  unfold sp_is_number at h
  split at h <;> first | exact h.elim | skip
  rename_i d
  obtain ⟨⟨ok, h1⟩, h⟩ := h
  unfold rd_is_number
  walk_at "d"
  cases d with
  | tup ds =>
    obtain ⟨ha, hb⟩ := h1 ds rfl
    walk_at "d"
    simp only [isiD]
    refine ⟨by decide, ?_⟩
    walk_at "d"
    split
    · rename_i hl
      have hl' : ds.length ≠ 3 := fun e => by rw [e] at hl; simp at hl
      rw [isNum_len hl'] at h
      exact h
    · rename_i hl
      have hl' : ds.length = 3 := by
        have hl2 : ((ds.length : Int) == 3) = true := by simpa using hl
        have := eq_of_beq hl2
        omega
      obtain ⟨a, b, c, rfl⟩ := all3 hl'
      refine ⟨by show 3 ≤ sizeLine; decide, ?_⟩
      refine lcD_map (g := fun d => .bl (isIntD d)) _ _ (fun e he Q q => ?_) ?_
      · simp only [rms, rm, st, rCl, rCons, rVar, rNil, gt]
        exact sp_is_int_i (List.all_eq_true.mp ha e he) q
      · rw [List.nil_append, bools_map]
        dsimp only
        split
        · rename_i hn
          rw [isNum_ints (by cases q : [a, b, c].all isIntD with | false => rfl | true => (exfalso; simp_all))] at h
          exact h
        · rename_i hn
          have hn' : isIntD a = true ∧ isIntD b = true ∧ isIntD c = true := by simpa using hn
          obtain ⟨x, rfl⟩ := int_of hn'.1
          obtain ⟨y, rfl⟩ := int_of hn'.2.1
          obtain ⟨z, rfl⟩ := int_of hn'.2.2
          obtain ⟨b1, b2, b3⟩ := hb x y z rfl
          walk_at "d"
          split
          · rename_i hp
            simp only [sp_lowest]
            refine ⟨by omega, b1, b2, b3, ?_⟩
            walk_at "d"
            have e := deq_num (a := low x y z) (b := ⟨x, y, z⟩)
            simp only [numD, deq_tt, deq_t0, deq_int] at e
            have e2 : isNumD (.tup [.int x, .int y, .int z]) = decide (low x y z = ⟨x, y, z⟩) := by
              show (decide (0 < z) && _) = _
              rw [decide_eq_true hp, Bool.true_and]
            rw [e2, ← e] at h
            simpa using h
          · rename_i hp
            have e2 : isNumD (.tup [.int x, .int y, .int z]) = false := by
              show (decide (0 < z) && _) = _
              rw [decide_eq_false hp, Bool.false_and]
            rw [e2] at h
            exact h
  | non => walk_at "d"; simp only [isiD]; refine ⟨by decide, ?_⟩; walk_at "d"; exact h
  | int i => walk_at "d"; simp only [isiD]; refine ⟨by decide, ?_⟩; walk_at "d"; exact h
  | bl i => walk_at "d"; simp only [isiD]; refine ⟨by decide, ?_⟩; walk_at "d"; exact h
  | str i => walk_at "d"; simp only [isiD]; refine ⟨by decide, ?_⟩; walk_at "d"; exact h
  | lst i => walk_at "d"; simp only [isiD]; refine ⟨by decide, ?_⟩; walk_at "d"; exact h
  | _ => cases ok
/-! ### sums and products -/
theorem Sz.big {z : Num} (h : Sz half z) : Sz big z := h.mono (by decide)
theorem bb {a b : Int} (h : Bt half a) (l : Bt half b) : Bt big (a * b) := (h.mul l).mono (by decide)
theorem vc_added (Γ : CL) : ∀ ds μ R, sp_added Γ ds μ R → rd_added Γ (fin R) (startD 2 ds) μ := by
  intro ds μ R h
  unfold sp_added at h
  split at h <;> first | exact h.elim | skip
  obtain ⟨h1, h2, ⟨x1, x2, x3⟩, ⟨y1, y2, y3⟩, h⟩ := h
  unfold rd_added
  walk_at "d"
  simp only [sp_lowest]
  have c : ∀ {a b : Int}, Bt half a → Bt half b → CBig a b := fun h l => ⟨h.mono (by decide), l.mono (by decide)⟩
  refine ⟨c x1 y3, c y1 x3, c x2 y3, c y2 x3, c x3 y3, Int.mul_ne_zero h1 h2, ((x1.mul y3).add (y1.mul x3)).mono (by decide), ((x2.mul y3).add (y2.mul x3)).mono (by decide), bb x3 y3, h⟩
theorem vc_multiplied (Γ : CL) : ∀ ds μ R, sp_multiplied Γ ds μ R → rd_multiplied Γ (fin R) (startD 3 ds) μ := by
  intro ds μ R h
  unfold sp_multiplied at h
  split at h <;> first | exact h.elim | skip
  obtain ⟨h1, h2, ⟨x1, x2, x3⟩, ⟨y1, y2, y3⟩, h⟩ := h
  unfold rd_multiplied
  walk_at "d"
  simp only [sp_lowest]
  have c : ∀ {a b : Int}, Bt half a → Bt half b → CBig a b := fun h l => ⟨h.mono (by decide), l.mono (by decide)⟩
  refine ⟨c x1 y1, c x2 y2, c x1 y2, c x2 y1, c x3 y3, Int.mul_ne_zero h1 h2, ((x1.mul y1).sub (x2.mul y2)).mono (by decide), ((x1.mul y2).add (x2.mul y1)).mono (by decide), bb x3 y3, h⟩
theorem vc_opposite (Γ : CL) : ∀ ds μ R, sp_opposite Γ ds μ R → rd_opposite Γ (fin R) (startD 1 ds) μ := by
  intro ds μ R h
  unfold sp_opposite at h
  split at h <;> first | exact h.elim | skip
  unfold rd_opposite
  walk_at "d"
  exact h
theorem vc_turned_over (Γ : CL) : ∀ ds μ R, sp_turned_over Γ ds μ R → rd_turned_over Γ (fin R) (startD 1 ds) μ := by
  intro ds μ R h
  unfold sp_turned_over at h
  split at h <;> first | exact h.elim | skip
  unfold rd_turned_over
  walk_at "d"
  exact h
theorem vc_inverse (Γ : CL) : ∀ ds μ R, sp_inverse Γ ds μ R → rd_inverse Γ (fin R) (startD 1 ds) μ := by
  intro ds μ R h
  unfold sp_inverse at h
  split at h <;> first | exact h.elim | skip
  obtain ⟨h1, ⟨x1, x2, x3⟩, h⟩ := h
  unfold rd_inverse
  walk_at "d"
  simp only [sp_lowest]
  have c : ∀ {a b : Int}, Bt half a → Bt half b → CBig a b := fun h l => ⟨h.mono (by decide), l.mono (by decide)⟩
  exact ⟨c x1 x3, c x2 x3, c x1 x1, c x2 x2, sq_ne h1, bb x1 x3, ((x2.mul x3).neg).mono (by decide), ((x1.mul x1).add (x2.mul x2)).mono (by decide), h⟩
theorem vc_size (Γ : CL) : ∀ ds μ R, sp_size Γ ds μ R → rd_size Γ (fin R) (startD 1 ds) μ := by
  intro ds μ R h
  unfold sp_size at h
  split at h <;> first | exact h.elim | skip
  obtain ⟨h1, ⟨x1, x2, x3⟩, h⟩ := h
  unfold rd_size
  walk_at "d"
  simp only [sp_ratio]
  have c : ∀ {a b : Int}, Bt half a → Bt half b → CBig a b := fun h l => ⟨h.mono (by decide), l.mono (by decide)⟩
  exact ⟨c x1 x1, c x2 x2, c x3 x3, Int.mul_ne_zero h1 h1, bb x3 x3, h⟩
/-! ### spots -/
theorem is_number_i {Γ : CL} {z : Num} {μ : MH} {Q : D → MH → Prop} (h : Can z) (hz : Sz big z) (q : Q (.bl true) μ) : sp_is_number Γ [numD z] μ Q := by
  refine ⟨⟨rfl, fun ds e => ?_⟩, ?_⟩
  · cases e
    exact ⟨rfl, fun x y w e => by cases e; exact hz⟩
  · have : isNumD (numD z) = true := by
      show (decide (0 < z.d) && decide (low z.x z.y z.d = z)) = true
      rw [decide_eq_true h.1, decide_eq_true (low_self h)]
      rfl
    rw [this]
    exact q
theorem vc_check_spot (Γ : CL) : ∀ ds μ R, sp_check_spot Γ ds μ R → rd_check_spot Γ (fin R) (startD 1 ds) μ := by
  intro ds μ R h
  unfold sp_check_spot at h
  split at h <;> first | exact h.elim | skip
  obtain ⟨h1, h2, h⟩ := h
  unfold rd_check_spot
  walk_at "d"
  refine is_number_i (z := ⟨_, _, _⟩) h1 h2 ?_
  walk_at "d"
  exact h
theorem vc_check_turn (Γ : CL) : ∀ ds μ R, sp_check_turn Γ ds μ R → rd_check_turn Γ (fin R) (startD 1 ds) μ := by
  intro ds μ R h
  unfold sp_check_turn at h
  split at h <;> first | exact h.elim | skip
  rename_i x y d
  obtain ⟨h1, hz, h2, h⟩ := h
  unfold rd_check_turn
  walk_at "d"
  refine is_number_i (z := ⟨_, _, _⟩) h1 h2 ?_
  simp only [c_ZERO]
  walk_at "d"
  have : ¬ ((x == 0) = true ∧ (y == 0) = true ∧ (d == 1) = true) := fun ⟨a, b, _⟩ => hz ⟨eq_of_beq a, eq_of_beq b⟩
  rw [if_neg (by simpa using this)]
  exact h
end L3

/-! ## V2 -/
set_option Elab.async false
set_option linter.all false
set_option maxRecDepth 100000
set_option maxHeartbeats 4000000
namespace L3
open PySem NM L2
theorem lk_turn (c : Cp) : (copyFs c).lookup ("turn" : Str) = some (numD c.t) := rfl
theorem lk_shift (c : Cp) : (copyFs c).lookup ("shift" : Str) = some (numD c.s) := rfl
theorem lk_mirrored (c : Cp) : (copyFs c).lookup ("mirrored" : Str) = some (D.bl c.m) := rfl
theorem lk_key (c : Cp) : (copyFs c).lookup ("key" : Str) = some (D.tup [numD c.t, numD c.s, .bl c.m]) := rfl
theorem put_copy (a b d e : D) : putD "key" d (putD "mirrored" e (putD "shift" b (putD "turn" a []))) = [(("turn" : Str), a), ("shift", b), ("mirrored", e), ("key", d)] := rfl
local macro_rules | `(tactic| walk_at "d") => `(tactic| (try (simp only [rSeq, rAsg, rRet, rRetN, rDrop, rIf, rNext, rPar, rPar3, rCons, rNil, rStar, rCl, rOp, rUn, rVar, rC, rGN, rTup, rLst, rB, rAnd, rOr, rNot, rIfE, rAndV, rOrV, rNotV, rNever, rFld, rOwn, rMeth, rMakeK, rMakeD, rFldS, rFrz, rSetIx, rMut, rILst, rITup, rIRng1, rIRng2, rFor, rLc, rLcM, rTrue, gt, st, gI, gI0, gU, gIx, gEq, gNe, gAdd, gSub, gMul, gDiv, gMod, gPow, gLt, gLe, gGt, gGe, gIsi, gAbs, gLen, gAll, gIsN, gNotN, gOwn1, gOwn2, isNonD, seqD, res, atI_0, atI_1, atI_2, atI_3, atI_4, List.getElem?_cons_zero, List.getElem?_cons_succ, List.length_cons, List.length_nil, decide_eq_true_eq, List.map_cons, List.map_nil, startD, List.cons_append, List.nil_append, List.replicate, Nat.zero_add, numD, if_true, if_false, Bool.false_eq_true, and_self, true_and, ite_true, ite_false, Nat.reduceAdd, Nat.reduceSub, ln, Nat.reduceLeDiff, fin, String.reduceBEq, Bool.not_true, Bool.not_false, pureN, deq_int, deq_tt, deq_t0, deq_bl, List.all_cons, List.all_nil, Bool.and_true, Bool.true_and, Bool.and_eq_true, List.append_nil, lk_turn, lk_shift, lk_mirrored, lk_key, insD, updM_same, updM_updM, Option.map_some, Option.map_none])))
/-! ### copies: mathematics -/
theorem NZ_ovr {a : Num} (h : NZ a) : NZ (ovr a) := fun ⟨h1, h2⟩ => h ⟨h1, by have : 0 - a.y = 0 := h2; omega⟩
theorem nrm_mul {a b : Num} (ha : Can a) (hb : Can b) : nrm (mul a b) = nrm a * nrm b := by
  unfold nrm
  rw [re_mul ha hb, im_mul ha hb]
  grind
theorem NZ_mul {a b : Num} (ha : Can a) (hb : Can b) (na : NZ a) (nb : NZ b) : NZ (mul a b) := by
  rw [nz_iff (can_mul ha hb), nrm_mul ha hb]
  rw [nz_iff ha] at na
  rw [nz_iff hb] at nb
  grind
theorem NZ_inv {a : Num} (ha : Can a) (na : NZ a) : NZ (NM.inv a) := by
  rw [nz_iff (can_inv na)]
  have h := (nz_iff ha).mp na
  have e : nrm (NM.inv a) * nrm a = 1 := by
    unfold nrm
    rw [re_inv ha na, im_inv ha na]
    unfold nrm at *
    grind
  grind
def flip (m : Bool) (z : Num) : Num := if m then ovr z else z
theorem can_flip {m : Bool} {z : Num} (h : Can z) : Can (flip m z) := by
  unfold flip; split
  · exact can_ovr h
  · exact h
theorem NZ_flip {m : Bool} {z : Num} (h : NZ z) : NZ (flip m z) := by
  unfold flip; split
  · exact NZ_ovr h
  · exact h
theorem sz_flip {m : Bool} {n : Nat} {z : Num} (h : Sz n z) : Sz n (flip m z) := by
  unfold flip; split
  · exact h.ovr
  · exact h
theorem Cp.at_eq (c : Cp) (z : Num) : c.at z = add (mul c.t (flip c.m z)) c.s := rfl
theorem Cp.can_at {c : Cp} {z : Num} (h : c.ok) (hz : Can z) : Can (c.at z) := can_add (can_mul h.1 (can_flip hz)) h.2.2
theorem Cp.sz_at {c : Cp} {z : Num} {n m : Nat} (h : c.ok) (hz : Can z) (s : c.sz n) (l : Sz m z) : Sz (n + m + 1 + n + 1) (c.at z) :=
  Sz.add (can_mul h.1 (can_flip hz)) h.2.2 (Sz.mul h.1 (can_flip hz) s.1 (sz_flip l)) s.2
theorem Cp.comp_ok {a b : Cp} (ha : a.ok) (hb : b.ok) : (a.comp b).ok := ⟨can_mul hb.1 (can_flip ha.1), NZ_mul hb.1 (can_flip ha.1) hb.2.1 (NZ_flip ha.2.1), Cp.can_at hb ha.2.2⟩
theorem Cp.comp_sz {a b : Cp} {n m : Nat} (ha : a.ok) (hb : b.ok) (sa : a.sz n) (sb : b.sz m) : (a.comp b).sz (m + n + 1 + m + 1) :=
  ⟨(Sz.mul hb.1 (can_flip (m := b.m) ha.1) sb.1 (sz_flip sa.1)).mono (by omega), Cp.sz_at hb ha.2.2 sb sa.2⟩
theorem Cp.inv_ok {a : Cp} (h : a.ok) : a.inv.ok :=
  ⟨can_inv (NZ_flip h.2.1), NZ_inv (can_flip h.1) (NZ_flip h.2.1), can_opp (can_mul (can_inv (NZ_flip h.2.1)) (can_flip h.2.2))⟩
theorem Cp.inv_sz {a : Cp} {n : Nat} (h : a.ok) (s : a.sz n) : a.inv.sz (n + n + 1 + n + 1) :=
  ⟨(Sz.inv (NZ_flip h.2.1) (sz_flip s.1)).mono (by omega), (Sz.mul (can_inv (NZ_flip h.2.1)) (can_flip h.2.2) (Sz.inv (NZ_flip (m := a.m) h.2.1) (sz_flip s.1)) (sz_flip s.2)).opp⟩
theorem Cp.sz.mono {a : Cp} {n m : Nat} (s : a.sz n) (h : n ≤ m) : a.sz m := ⟨s.1.mono h, s.2.mono h⟩
theorem Sz.one : Sz 1 one := ⟨by unfold Bt; decide, by unfold Bt; decide, by unfold Bt; decide⟩

/-! ### copies: the defs -/
theorem vc_carried (Γ : CL) : ∀ ds μ R, sp_carried Γ ds μ R → rd_carried Γ (fin R) (startD 2 ds) μ := by
  rintro ds μ R ⟨⟨t, s, m⟩, z, rfl, ⟨k1, k2, k3⟩, ⟨s1, s2⟩, kz, sz, h⟩
  simp only at k1 k2 k3 s1 s2
  unfold rd_carried copyD
  cases m with
  | false =>
    walk_at "d"
    simp only [sp_multiplied, sp_added]
    exact ⟨ne_d k1, ne_d kz, s1.mono (by decide), sz.mono (by decide), ne_d (can_mul k1 kz), ne_d k3, (Sz.mul k1 kz s1 sz).mono (by decide), s2.mono (by decide), h⟩
  | true =>
    walk_at "d"
    simp only [sp_turned_over, numD, sp_multiplied, sp_added]
    exact ⟨ne_d k1, ne_d (can_ovr kz), s1.mono (by decide), sz.ovr.mono (by decide), ne_d (can_mul k1 (can_ovr kz)), ne_d k3, (Sz.mul k1 (can_ovr kz) s1 sz.ovr).mono (by decide), s2.mono (by decide), h⟩
theorem vc_Copy___init (Γ : CL) : ∀ ds μ R, sp_Copy___init Γ ds μ R → rd_Copy___init Γ (fin R) (startD 4 ds) μ := by
  intro ds μ R h
  unfold sp_Copy___init at h
  split at h <;> first | exact h.elim | skip
  obtain ⟨h1, h2, h3, s1, s2, hm, h⟩ := h
  unfold rd_Copy___init
  walk_at "d"
  simp only [sp_check_turn, sp_check_spot, hm]
  walk_at "d"
  refine ⟨h1, h2, s1, h3, s2, (by show 0 < 1000; decide), (by show 1 < 1000; decide), (by show 2 < 1000; decide), (by show 3 < 1000; decide), ?_⟩
  exact h
theorem make_copy {Γ : CL} {t s : Num} {m : Bool} {μ : MH} {R : D → MH → Prop} (h1 : Can t) (h2 : NZ t) (h3 : Can s) (s1 : Sz big t) (s2 : Sz big s) (h : R (copyD Γ ⟨t, s, m⟩) μ) : gMake Γ.Copy (sp_Copy___init Γ) [numD t, numD s, .bl m] μ R := by
  intro x hx
  refine ⟨h1, h2, h3, s1, s2, updM_same, rfl, ?_⟩
  rw [updM_updM, updM_same]
  show R _ (delM (updM μ x _) x)
  rw [delM_updM hx]
  exact h
theorem vc_Copy___call (Γ : CL) : ∀ ds μ R, sp_Copy___call Γ ds μ R → rd_Copy___call Γ (fin R) (startD 2 ds) μ := by
  rintro ds μ R ⟨c, z, rfl, k, s, kz, sz, h⟩
  unfold rd_Copy___call
  walk_at "d"
  simp only [sp_check_spot]
  exact ⟨kz, sz.mono (by decide), c, z, rfl, k, s, kz, sz, h⟩
theorem deq_num' {a b : Num} {p q : List D} : deq (.tup (numD a :: p)) (.tup (numD b :: q)) = (decide (a = b) && deq (.tup p) (.tup q)) := by
  rw [deq_tt, deq_num]
theorem vc_Copy___eq (Γ : CL) : ∀ ds μ R, sp_Copy___eq Γ ds μ R → rd_Copy___eq Γ (fin R) (startD 2 ds) μ := by
  rintro ds μ R ⟨a, b, rfl, h⟩
  unfold rd_Copy___eq copyD
  simp only [rAndV, rRet, rUn, rVar, gt, startD, List.map_cons, List.map_nil, List.cons_append, gIsiO, isiC, insD, if_true, rOp, rFld, lk_key, true_and, gEq, res, fin]
  refine ⟨rfl, rfl, ?_⟩
  rw [deq_num', deq_num', deq_tt, deq_t0, deq_bl, Bool.and_true]
  exact h
theorem vc_Copy___rshift (Γ : CL) : ∀ ds μ R, sp_Copy___rshift Γ ds μ R → rd_Copy___rshift Γ (fin R) (startD 3 ds) μ := by
  rintro ds μ R ⟨a, b, rfl, ka, kb, sa, sb, h⟩
  unfold rd_Copy___rshift copyD
  have kc := Cp.comp_ok ka kb
  have sc := Cp.comp_sz ka kb sa sb
  obtain ⟨t, s, m⟩ := a
  obtain ⟨t', s', m'⟩ := b
  obtain ⟨a1, a2, a3⟩ := ka
  obtain ⟨b1, b2, b3⟩ := kb
  simp only at a1 a2 a3 b1 b2 b3
  cases m' with
  | false =>
    walk_at "d"
    simp only [sp_multiplied]
    refine ⟨ne_d b1, ne_d a1, sb.1.mono (by decide), sa.1.mono (by decide), ⟨t', s', false⟩, s, rfl, ⟨b1, b2, b3⟩, sb, a3, sa.2, ?_⟩
    exact make_copy kc.1 kc.2.1 kc.2.2 (sc.1.mono (by decide)) (sc.2.mono (by decide)) h
  | true =>
    walk_at "d"
    simp only [sp_turned_over, numD, sp_multiplied]
    refine ⟨ne_d b1, ne_d (can_ovr a1), sb.1.mono (by decide), sa.1.ovr.mono (by decide), ⟨t', s', true⟩, s, rfl, ⟨b1, b2, b3⟩, sb, a3, sa.2, ?_⟩
    exact make_copy kc.1 kc.2.1 kc.2.2 (sc.1.mono (by decide)) (sc.2.mono (by decide)) h
theorem vc_Copy___invert (Γ : CL) : ∀ ds μ R, sp_Copy___invert Γ ds μ R → rd_Copy___invert Γ (fin R) (startD 3 ds) μ := by
  rintro ds μ R ⟨a, rfl, ka, sa, h⟩
  unfold rd_Copy___invert copyD
  have kc := Cp.inv_ok ka
  have sc := Cp.inv_sz ka sa
  obtain ⟨t, s, m⟩ := a
  obtain ⟨a1, a2, a3⟩ := ka
  simp only at a1 a2 a3
  cases m with
  | false =>
    walk_at "d"
    simp only [sp_inverse, numD]
    refine ⟨a2, sa.1.mono (by decide), ?_⟩
    walk_at "d"
    simp only [sp_multiplied, sp_opposite, numD]
    refine ⟨ne_d (can_inv a2), ne_d a3, (Sz.inv a2 sa.1).mono (by decide), sa.2.mono (by decide), ?_⟩
    exact make_copy kc.1 kc.2.1 kc.2.2 (sc.1.mono (by decide)) (sc.2.mono (by decide)) h
  | true =>
    walk_at "d"
    simp only [sp_turned_over, sp_inverse, numD]
    refine ⟨NZ_ovr a2, sa.1.ovr.mono (by decide), ?_⟩
    walk_at "d"
    simp only [sp_turned_over, sp_multiplied, sp_opposite, numD]
    refine ⟨ne_d (can_inv (NZ_ovr a2)), ne_d (can_ovr a3), (Sz.inv (NZ_ovr a2) sa.1.ovr).mono (by decide), sa.2.ovr.mono (by decide), ?_⟩
    exact make_copy kc.1 kc.2.1 kc.2.2 (sc.1.mono (by decide)) (sc.2.mono (by decide)) h
theorem vc_Copy_growth (Γ : CL) : ∀ ds μ R, sp_Copy_growth Γ ds μ R → rd_Copy_growth Γ (fin R) (startD 1 ds) μ := by
  rintro ds μ R ⟨a, rfl, k, s, h⟩
  unfold rd_Copy_growth copyD
  walk_at "d"
  simp only [sp_size]
  exact ⟨k, s, h⟩
end L3

/-! ## V3 -/
set_option Elab.async false
set_option linter.all false
set_option maxRecDepth 100000
set_option maxHeartbeats 4000000
namespace L3
open PySem NM L2
local macro_rules | `(tactic| walk_at "d") => `(tactic| (try (simp only [rSeq, rAsg, rRet, rRetN, rDrop, rIf, rNext, rPar, rPar3, rCons, rNil, rStar, rCl, rOp, rUn, rVar, rC, rGN, rTup, rLst, rB, rAnd, rOr, rNot, rIfE, rAndV, rOrV, rNotV, rNever, rFld, rOwn, rMeth, rMakeK, rMakeD, rFldS, rFrz, rSetIx, rMut, rILst, rITup, rIRng1, rIRng2, rFor, rLc, rLcM, rTrue, gt, st, gI, gI0, gU, gIx, gEq, gNe, gAdd, gSub, gMul, gDiv, gMod, gPow, gLt, gLe, gGt, gGe, gIsi, gAbs, gLen, gAll, gIsN, gNotN, gOwn1, gOwn2, isNonD, seqD, res, atI_0, atI_1, atI_2, atI_3, atI_4, List.getElem?_cons_zero, List.getElem?_cons_succ, List.length_cons, List.length_nil, decide_eq_true_eq, List.map_cons, List.map_nil, startD, List.cons_append, List.nil_append, List.replicate, Nat.zero_add, numD, if_true, if_false, Bool.false_eq_true, and_self, true_and, ite_true, ite_false, Nat.reduceAdd, Nat.reduceSub, ln, Nat.reduceLeDiff, fin, String.reduceBEq, Bool.not_true, Bool.not_false, pureN, deq_int, deq_tt, deq_t0, deq_bl, List.all_cons, List.all_nil, Bool.and_true, Bool.true_and, Bool.and_eq_true, List.append_nil, lk_turn, lk_shift, lk_mirrored, lk_key, insD, updM_same, updM_updM, Option.map_some, Option.map_none])))
theorem fmod_nn {a b : Int} (h : 0 < b) : 0 ≤ a.fmod b := by
  rw [Int.fmod_eq_emod_of_nonneg _ (by omega)]
  exact Int.emod_nonneg _ (by omega)
theorem fmod_lt {a b : Int} (h : 0 < b) : a.fmod b < b := by
  rw [Int.fmod_eq_emod_of_nonneg _ (by omega)]
  exact Int.emod_lt_of_pos _ h
theorem fdiv_nn {a b : Int} (ha : 0 ≤ a) (h : 0 < b) : 0 ≤ a.fdiv b := by
  rw [Int.fdiv_eq_ediv_of_nonneg _ (by omega)]
  exact Int.ediv_nonneg ha (by omega)
theorem bt_small {i : Int} {n : Nat} (h : i.natAbs < 1000) (l : 10 ≤ n) : Bt n i := Bt.mono (n := 10) (by unfold Bt; omega) l
theorem ixN_0 (n : Nat) : ixN (n + 1) 0 = some 0 := by
  unfold ixN
  rw [if_pos (by decide), if_pos (by omega)]
  rfl
theorem ixN_1 (n : Nat) : ixN (n + 1 + 1) 1 = some 1 := by
  unfold ixN
  rw [if_pos (by decide), if_pos (by omega)]
  rfl
theorem pop_2 (a b c : D) (r : List D) (R : D → List D → Prop) (h : R c (a :: b :: r)) : gPopAt (a :: b :: c :: r) [.int 2] R := by
  unfold gPopAt
  refine ⟨by decide, by decide, ?_⟩
  have : seqIndex? 2 (a :: b :: c :: r).length = some 2 := by
    unfold seqIndex?
    simp only [List.length_cons]
    rw [if_neg (show ¬ (2 : Int) < 0 by decide), decide_eq_true (show (0 : Int) ≤ 2 by decide), decide_eq_true (show (2 : Int) < ((r.length + 1 + 1 + 1 : Nat) : Int) by omega)]
    rfl
  rw [this]
  exact h
theorem RL.i {s p : Int} {r : List Int} (h1 : 0 ≤ s) (h2 : s < 2147483648) (h3 : 0 ≤ p) (h4 : ∀ x ∈ r, 0 ≤ x) : RL (.int s :: .int p :: r.map D.int) := ⟨s, p, r, rfl, h1, h2, h3, h4⟩
theorem bt_s {s : Int} (h1 : 0 ≤ s) (h2 : s < 2147483648) : Bt big s := Bt.mono (n := 31) (by unfold Bt; omega) (by decide)
theorem vc_law_below (Γ : CL) : ∀ ds μ R, sp_law_below Γ ds μ R → rd_law_below Γ (fin R) (startD 3 ds) μ := by
  rintro ds μ R ⟨g, n, xs, rfl, n0, n1, hm, ⟨s, p, r, rfl, hs, hs2, hp, hr⟩, h⟩
  unfold rd_law_below
  have cd : ∀ i, CDivX i n := fun i => ⟨by omega, bt_small (by omega) (by decide)⟩
  have cm : CBig s 48271 := ⟨bt_s hs hs2, Bt.mono (n := 31) (by unfold Bt; decide) (by decide)⟩
  have c64 : ∀ i, CDivX i 64 := fun i => ⟨by decide, bt_small (by decide) (by decide)⟩
  have n0' : n ≠ 0 := by omega
  have m1 : 0 ≤ (s * 48271 + 11).fmod 2147483647 := fmod_nn (by decide)
  have m2 : (s * 48271 + 11).fmod 2147483647 < 2147483647 := fmod_lt (by decide)
  by_cases p0 : p = 0
  · subst p0
    cases r with
    | nil =>
      walk_at "d"
      simp only [hm]
      walk_at "d"
      simp only [ixN_0, ixN_1, List.set_cons_zero, List.set_cons_succ]
      walk_at "d"
      exact ⟨cm, by decide, c64 _, n0', h _ _ (fmod_nn n0) (fmod_lt n0) (RL.i (r := []) m1 (by omega) hp (by simp))⟩
    | cons x r =>
      have hx := hr x (List.mem_cons_self ..)
      have hr' : ∀ y ∈ r, 0 ≤ y := fun y hy => hr y (List.mem_cons_of_mem _ hy)
      walk_at "d"
      simp only [hm]
      walk_at "d"
      rw [if_pos (by decide), if_pos (by omega)]
      refine pop_2 _ _ _ _ _ ?_
      simp only [List.length_cons, ixN_0, ixN_1, List.set_cons_zero, List.set_cons_succ]
      walk_at "d"
      split
      · exact ⟨n0', cd _, h _ _ (fmod_nn n0) (fmod_lt n0) (RL.i hs hs2 (fdiv_nn hx n0) hr')⟩
      · exact ⟨cm, by decide, c64 _, n0', h _ _ (fmod_nn n0) (fmod_lt n0) (RL.i m1 (by omega) hx hr')⟩
  · walk_at "d"
    simp only [hm]
    walk_at "d"
    rw [if_neg (by simpa using p0)]
    rw [if_pos (by omega)]
    simp only [ixN_0, ixN_1, List.set_cons_zero, List.set_cons_succ]
    exact ⟨n0', cd _, h _ _ (fmod_nn n0) (fmod_lt n0) (RL.i hs hs2 (fdiv_nn hp n0) hr)⟩

/-! ### random -/
theorem random_loop {D : Ed} {a b : Option L3.D} {μ : MH} : ∀ (ns : List Int) (seed : Int) (c : Option L3.D), 0 ≤ seed → seed < 2147483648 → (∀ s c, 0 ≤ s → s < 2147483648 → D.nx [a, b, some (.int s), c] μ) →
    forD (rGN 3) (rAsg (rOp gMod (rOp gAdd (rOp gMul (rVar 2) (rC (.int 31))) (rCl gAbs (rCons (rVar 3) rNil))) (rC (.int 2147483647))) (rGN 2)) tru D (ns.map L3.D.int) [a, b, some (.int seed), c] μ
  | [], seed, c, h1, h2, h => ⟨trivial, h _ _ h1 h2⟩
  | n :: ns, seed, c, h1, h2, h => by
    refine ⟨trivial, ?_⟩
    walk_at "d"
    refine ⟨⟨bt_s h1 h2, bt_small (by decide) (by decide)⟩, by decide, ?_⟩
    exact random_loop ns _ _ (fmod_nn (by decide)) (Int.lt_trans (fmod_lt (by decide)) (by decide)) h
theorem random_comp {ρ : EV} {μ : MH} {R : List D → MH → Prop} : ∀ (ns : List Int) (acc : List D), R (acc ++ (ns.filter fun n => decide ((1000000000000000000 : Int) ≤ n)).map D.int) μ →
    lcD (rGN 3) (rB (rOp gGe (rVar 3) (rOp gPow (rC (.int 10)) (rC (.int 18))))) (rVar 3) tru [ρ.getD 0 none, ρ.getD 1 none, ρ.getD 2 none, none] (ns.map D.int) acc μ R
  | [], acc, h => ⟨trivial, by simpa using h⟩
  | n :: ns, acc, h => by
    refine ⟨trivial, ?_⟩
    have e : (10 : Int) ^ (18 : Int).toNat = 1000000000000000000 := by decide +kernel
    walk_at "d"
    refine ⟨⟨by decide, by decide, by decide⟩, ?_⟩
    rw [e]
    rw [List.filter_cons] at h
    by_cases q : (1000000000000000000 : Int) ≤ n
    · rw [if_pos (decide_eq_true q)] at h
      rw [if_pos q]
      refine random_comp ns _ ?_
      rw [List.append_assoc]
      exact h
    · rw [if_neg (by simpa using q)] at h
      rw [if_neg q]
      exact random_comp ns _ h
theorem vc_law_random (Γ : CL) : ∀ ds μ R, sp_law_random Γ ds μ R → rd_law_random Γ (fin R) (startD 4 ds) μ := by
  rintro ds μ R ⟨ns, salt, rfl, h1, h2, h3, h⟩
  unfold rd_law_random
  walk_at "d"
  refine random_loop ns salt none h1 (by omega) fun s c s1 s2 => ?_
  simp only [rms, rm]
  refine ⟨Nat.le_trans (by rw [List.length_map]; exact h3) (show 63 ≤ sizeLine by decide), ?_⟩
  refine random_comp (ρ := [some (.scr (ns.map D.int)), some (.int salt), some (.int s), none]) ns [] ?_
  walk_at "d"
  simp only [gAddM, res]
  refine ⟨?_, fun g hg => h g _ hg ⟨s, 0, _, rfl, s1, s2, by decide, fun x hx => ?_⟩⟩
  · rw [List.length_map]
    have := List.length_filter_le (fun n => decide ((1000000000000000000 : Int) ≤ n)) ns
    show 0 + 1 + 1 + _ ≤ 2 ^ 24
    omega
  · have := (List.mem_filter.mp hx).2
    simp only [decide_eq_true_eq] at this
    omega

/-! ### random turns, spots, copies -/
theorem small_i {z : Num} (h1 : 0 < z.d) (h2 : gz (gz z.x z.y) z.d = 1) (h3 : z.x.natAbs < 32) (h4 : z.y.natAbs < 32) (h5 : z.d.natAbs < 32) : Small z := ⟨⟨h1, h2⟩, h3, h4, h5⟩
theorem vc_law_turn (Γ : CL) : ∀ ds μ R, sp_law_turn Γ ds μ R → rd_law_turn Γ (fin R) (startD 2 ds) μ := by
  rintro ds μ R ⟨g, xs, rfl, hm, hx, h⟩
  unfold rd_law_turn
  walk_at "d"
  refine ⟨g, 13, xs, rfl, by decide, by decide, hm, hx, fun r ys r0 r1 hy => ?_⟩
  have hh : ∀ x y d : Int, Small ⟨x, y, d⟩ → NZ ⟨x, y, d⟩ → R (.tup [.int x, .int y, .int d]) (updM μ g (.lst ys)) := fun x y d a b => h _ ys a b hy
  have : r = 0 ∨ r = 1 ∨ r = 2 ∨ r = 3 ∨ r = 4 ∨ r = 5 ∨ r = 6 ∨ r = 7 ∨ r = 8 ∨ r = 9 ∨ r = 10 ∨ r = 11 ∨ r = 12 := by omega
  rcases this with rfl | rfl | rfl | rfl | rfl | rfl | rfl | rfl | rfl | rfl | rfl | rfl | rfl <;> exact hh _ _ _ (small_i (by decide) (by decide) (by decide) (by decide) (by decide)) (by unfold NZ; decide)
theorem vc_law_common (Γ : CL) : ∀ ds μ R, sp_law_common Γ ds μ R → rd_law_common Γ (fin R) (startD 2 ds) μ := vc_common_divisor Γ
theorem vc_law_lowest (Γ : CL) : ∀ ds μ R, sp_law_lowest Γ ds μ R → rd_law_lowest Γ (fin R) (startD 4 ds) μ := by
  intro ds μ R h
  unfold sp_law_lowest sp_lowest at h
  split at h <;> first | exact h.elim | skip
  rename_i x y d
  obtain ⟨h1, hx, hy, hd, h⟩ := h
  unfold rd_law_lowest
  walk_at "d"
  simp only [sp_law_common, sp_common_divisor]
  walk_at "d"
  have g1 := gz_ne (a := gz x y) h1
  have g2 := bt_gz (a := gz x y) h1 hd
  rw [← lowL_eq h1] at h
  unfold lowL at h
  simp only [numD] at h
  split <;> rename_i hp
  · simp only [if_pos hp] at h
    exact ⟨⟨g1, g2⟩, ⟨g1, g2⟩, ⟨g1, g2⟩, h⟩
  · simp only [if_neg hp] at h
    have g1' : 0 - gz (gz x y) d ≠ 0 := by omega
    exact ⟨⟨g1', g2.neg⟩, ⟨g1', g2.neg⟩, ⟨g1', g2.neg⟩, h⟩
theorem vc_law_spot (Γ : CL) : ∀ ds μ R, sp_law_spot Γ ds μ R → rd_law_spot Γ (fin R) (startD 2 ds) μ := by
  rintro ds μ R ⟨g, xs, rfl, hm, hx, h⟩
  unfold rd_law_spot
  walk_at "d"
  refine ⟨g, 6, xs, rfl, by decide, by decide, hm, hx, fun r ys r0 r1 hy => ?_⟩
  have go : ∀ v : Int, 0 < v → v < 5 → sp_law_below Γ [.ref g, .int 13] (updM μ g (.lst ys)) fun d μ1 => rOp gSub (rCl (fun _ μ R => R d μ) rNil) (rC (.int 6)) [] μ1 fun a μ2 => sp_law_below Γ [.ref g, .int 13] μ2 fun d μ3 => rOp gSub (rCl (fun _ μ R => R d μ) rNil) (rC (.int 6)) [] μ3 fun b μ4 => sp_law_lowest Γ [a, b, .int v] μ4 R := by
    intro v v0 v5
    refine ⟨g, 13, ys, rfl, by decide, by decide, updM_same, hy, fun a ys1 a0 a1 hy1 => ?_⟩
    walk_at "d"
    refine ⟨g, 13, ys1, rfl, by decide, by decide, updM_same, hy1, fun b ys2 b0 b1 hy2 => ?_⟩
    walk_at "d"
    have f1 : Bt 5 (a - 6) := by unfold Bt; omega
    have f2 : Bt 5 (b - 6) := by unfold Bt; omega
    have f3 : Bt 5 v := by unfold Bt; omega
    have v0' : v ≠ 0 := by omega
    refine ⟨v0', f1.mono (by decide), f2.mono (by decide), f3.mono (by decide), ?_⟩
    exact h _ ys2 ⟨low_can v0', low_sz v0' f1 f2 f3⟩ hy2
  have : r = 0 ∨ r = 1 ∨ r = 2 ∨ r = 3 ∨ r = 4 ∨ r = 5 := by omega
  rcases this with rfl | rfl | rfl | rfl | rfl | rfl
  · exact go 1 (by decide) (by decide)
  · exact go 1 (by decide) (by decide)
  · exact go 1 (by decide) (by decide)
  · exact go 2 (by decide) (by decide)
  · exact go 3 (by decide) (by decide)
  · exact go 4 (by decide) (by decide)
theorem vc_law_told (Γ : CL) : ∀ ds μ R, sp_law_told Γ ds μ R → rd_law_told Γ (fin R) (startD 1 ds) μ := by
  rintro ds μ R ⟨g, xs, rfl, hm, hx, h⟩
  unfold rd_law_told
  walk_at "d"
  refine ⟨g, xs, rfl, hm, hx, fun t ys tz tn hy => ?_⟩
  refine ⟨g, ys, rfl, updM_same, hy, fun s ys1 sz hy1 => ?_⟩
  refine ⟨g, 2, ys1, rfl, by decide, by decide, updM_same, hy1, fun b ys2 b0 b1 hy2 => ?_⟩
  walk_at "d"
  exact h ⟨t, s, b == 0⟩ ys2 ⟨tz, tn, sz⟩ hy2
theorem vc_law_copy (Γ : CL) : ∀ ds μ R, sp_law_copy Γ ds μ R → rd_law_copy Γ (fin R) (startD 1 ds) μ := by
  rintro ds μ R ⟨c, rfl, ⟨k1, k2, k3⟩, ⟨s1, s2⟩, h⟩
  unfold rd_law_copy toldD
  walk_at "d"
  exact make_copy k1 k2 k3 s1 s2 h
/-! ### the law's own numbers -/
theorem vc_law_plus (Γ : CL) : ∀ ds μ R, sp_law_plus Γ ds μ R → rd_law_plus Γ (fin R) (startD 4 ds) μ := by
  intro ds μ R h
  unfold sp_law_plus sp_added at h
  split at h <;> first | exact h.elim | skip
  obtain ⟨h1, h2, ⟨x1, x2, x3⟩, ⟨y1, y2, y3⟩, h⟩ := h
  unfold rd_law_plus
  walk_at "d"
  simp only [sp_law_lowest, sp_lowest]
  have c : ∀ {a b : Int}, Bt half a → Bt half b → CBig a b := fun h l => ⟨h.mono (by decide), l.mono (by decide)⟩
  refine ⟨c x1 y3, c y1 x3, c x2 y3, c y2 x3, c x3 y3, Int.mul_ne_zero h1 h2, ((x1.mul y3).add (y1.mul x3)).mono (by decide), ((x2.mul y3).add (y2.mul x3)).mono (by decide), bb x3 y3, h⟩
theorem vc_law_times (Γ : CL) : ∀ ds μ R, sp_law_times Γ ds μ R → rd_law_times Γ (fin R) (startD 4 ds) μ := by
  intro ds μ R h
  unfold sp_law_times sp_multiplied at h
  split at h <;> first | exact h.elim | skip
  obtain ⟨h1, h2, ⟨x1, x2, x3⟩, ⟨y1, y2, y3⟩, h⟩ := h
  unfold rd_law_times
  walk_at "d"
  simp only [sp_law_lowest, sp_lowest]
  have c : ∀ {a b : Int}, Bt half a → Bt half b → CBig a b := fun h l => ⟨h.mono (by decide), l.mono (by decide)⟩
  refine ⟨c x1 y1, c x2 y2, c x1 y2, c x2 y1, c x3 y3, Int.mul_ne_zero h1 h2, ((x1.mul y1).sub (x2.mul y2)).mono (by decide), ((x1.mul y2).add (x2.mul y1)).mono (by decide), bb x3 y3, h⟩
theorem vc_law_over (Γ : CL) : ∀ ds μ R, sp_law_over Γ ds μ R → rd_law_over Γ (fin R) (startD 1 ds) μ := vc_turned_over Γ
theorem vc_law_carried (Γ : CL) : ∀ ds μ R, sp_law_carried Γ ds μ R → rd_law_carried Γ (fin R) (startD 2 ds) μ := by
  rintro ds μ R ⟨⟨t, s, m⟩, z, rfl, ⟨k1, k2, k3⟩, ⟨s1, s2⟩, kz, sz, h⟩
  simp only at k1 k2 k3 s1 s2
  unfold rd_law_carried toldD
  cases m with
  | false =>
    walk_at "d"
    simp only [sp_law_times, sp_law_plus, sp_multiplied, sp_added]
    exact ⟨ne_d k1, ne_d kz, s1.mono (by decide), sz.mono (by decide), ne_d (can_mul k1 kz), ne_d k3, (Sz.mul k1 kz s1 sz).mono (by decide), s2.mono (by decide), h⟩
  | true =>
    walk_at "d"
    simp only [sp_law_over, sp_turned_over, numD, sp_law_times, sp_law_plus, sp_multiplied, sp_added]
    exact ⟨ne_d k1, ne_d (can_ovr kz), s1.mono (by decide), sz.ovr.mono (by decide), ne_d (can_mul k1 (can_ovr kz)), ne_d k3, (Sz.mul k1 (can_ovr kz) s1 sz.ovr).mono (by decide), s2.mono (by decide), h⟩

/-! ### what the law holds alike -/
theorem ty_b : (tyOK "bool" = true) = True := eq_true (by decide)
theorem ty_i : (tyOK "int" = true) = True := eq_true (by decide)
theorem ty_s : (tyOK "str" = true) = True := eq_true (by decide)
theorem ty_t : (tyOK "tuple" = true) = True := eq_true (by decide)
theorem ty_l : (tyOK "list" = true) = True := eq_true (by decide)
theorem sames_iff : ∀ {as es : List D}, as.length = es.length → (sames as es = true ↔ ∀ i, i < as.length → same (as.getD i .non) (es.getD i .non) = true)
  | [], [], _ => by simp [sames]
  | [], _ :: _, h => by cases h
  | _ :: _, [], h => by cases h
  | a :: as, e :: es, h => by
    have ih := sames_iff (as := as) (es := es) (by simpa using h)
    unfold sames
    rw [Bool.and_eq_true, ih]
    constructor
    · rintro ⟨h1, h2⟩ i hi
      cases i with
      | zero => exact h1
      | succ i => exact h2 i (by simpa using hi)
    · intro q
      exact ⟨q 0 (by simp), fun i hi => q (i + 1) (by simpa using hi)⟩
theorem sames_len : ∀ {as es : List D}, as.length ≠ es.length → sames as es = false
  | [], [], h => absurd rfl h
  | [], _ :: _, _ => rfl
  | _ :: _, [], _ => rfl
  | a :: as, e :: es, h => by
    unfold sames
    rw [sames_len (as := as) (es := es) (by simpa using h), Bool.and_false]
def eqAt (as es : List D) : D → Bool
  | .int i => same (as.getD i.toNat .non) (es.getD i.toNat .non)
  | _ => false
theorem rangeD_mem : ∀ {n : Nat} {lo : Int} {d : D}, d ∈ rangeD lo n → ∃ i : Nat, i < n ∧ d = .int (lo + i)
  | 0, lo, d, h => by cases h
  | n + 1, lo, d, h => by
    rcases List.mem_cons.mp h with rfl | h
    · exact ⟨0, by omega, by simp⟩
    · obtain ⟨i, hi, rfl⟩ := rangeD_mem h
      exact ⟨i + 1, by omega, by congr 1; omega⟩
theorem mem_rangeD : ∀ {n : Nat} {lo : Int} {i : Nat}, i < n → D.int (lo + i) ∈ rangeD lo n
  | 0, lo, i, h => by omega
  | n + 1, lo, 0, h => by simp [rangeD]
  | n + 1, lo, i + 1, h => by
    refine List.mem_cons_of_mem _ ?_
    have := mem_rangeD (n := n) (lo := lo + 1) (i := i) (by omega)
    rwa [show lo + 1 + (i : Int) = lo + ((i + 1 : Nat) : Int) by omega] at this
theorem sames_all {as es : List D} (h : as.length = es.length) : ((rangeD 0 es.length).map (eqAt as es)).all _root_.id = sames as es := by
  have e : ∀ b c : Bool, (b = true ↔ c = true) → b = c := by decide
  apply e
  rw [sames_iff h, List.all_eq_true]
  constructor
  · intro q i hi
    have := q _ (List.mem_map_of_mem (mem_rangeD (n := es.length) (lo := 0) (i := i) (by omega)))
    simpa [eqAt] using this
  · intro q b hb
    obtain ⟨d, hd, rfl⟩ := List.mem_map.mp hb
    obtain ⟨i, hi, rfl⟩ := rangeD_mem hd
    have := q i (by omega)
    simpa [eqAt] using this
theorem atI_d {as : List D} {i : Nat} (h : i < as.length) : atI as (0 + (i : Int)) = some (as.getD i .non) := by
  rw [Int.zero_add, atI_lit, List.getElem?_eq_getElem h, List.getD_eq_getElem?_getD, List.getElem?_eq_getElem h]
  rfl
theorem all_pure {m : Nat} {as : List D} {i : Nat} (h : as.all (okq m) = true) : okq m (as.getD i .non) = true := by
  rw [List.getD_eq_getElem?_getD]
  cases q : as[i]? with
  | none => cases m <;> rfl
  | some d => exact List.all_eq_true.mp h d (List.mem_of_getElem? q)
/-- the last step, both alike in kind -/
theorem equal_rest (Γ : CL) {m : Nat} {as es : List D} {a e : D} {μ : MH} {R : D → MH → Prop} (ha : as.all (okq m) = true) (he : es.all (okq m) = true) (l1 : as.length ≤ 1000000) (hl : as.length = es.length) (sa : seqD (res μ a) = some as) (se : seqD (res μ e) = some es) (h : R (.bl (sames as es)) μ) :
    rRet (rCl gAll (rCons (rLc (rIRng1 (rCons (rCl gLen (rCons (rVar 1) rNil)) rNil)) (rGN 2) rTrue (rCl (sp_law_equal Γ (m + 1)) (rCons (rOp gIx (rVar 0) (rVar 2)) (rCons (rOp gIx (rVar 1) (rVar 2)) rNil))) [2]) rNil)) (fin R) [some a, some e, none] μ := by
  simp only [rRet, rCl, rCons, rLc, rIRng1, rVar, gt, gLen, List.getElem?_cons_zero, List.getElem?_cons_succ, rNil, se]
  refine ⟨by unfold inR; omega, ?_⟩
  rw [Int.toNat_natCast]
  refine ⟨by rw [rangeD_len]; exact Nat.le_trans (show es.length ≤ 1000000 by omega) (by decide), ?_⟩
  refine lcD_map (g := fun d => .bl (eqAt as es d)) _ _ (fun d hd Q q => ?_) ?_
  · obtain ⟨i, hi, rfl⟩ := rangeD_mem hd
    simp only [rms, rm, st, rCl, rOp, rCons, rVar, rNil, gt, gIx, List.getElem?_cons_zero, List.getElem?_cons_succ, sa, se]
    have e1 := atI_d (as := as) (i := i) (by omega)
    have e2 := atI_d (as := es) (i := i) (by omega)
    rw [e1, e2]
    refine ⟨all_pure ha, all_pure he, ?_⟩
    have : (0 + (i : Int)).toNat = i := by omega
    simp only [eqAt, this] at q
    exact q
  · rw [List.nil_append]
    simp only [gAll, res]
    rw [bools_map]
    show R (.bl (((rangeD 0 es.length).map (eqAt as es)).all _root_.id)) _
    rw [sames_all hl]
    exact h
theorem isi_w {d : D} {T : String} {μ : MH} {R : D → MH → Prop} {b : Bool} (ht : tyOK T = true) (h : isiD T (res μ d) = some b) (q : R (.bl b) μ) : gIsi [d, .ty T] μ R := by
  unfold gIsi
  simp only [h]
  exact ⟨ht, q⟩
def kindD : D → Nat
  | .non => 0
  | .bl _ => 1
  | .int _ => 2
  | .str _ => 3
  | .tup _ => 4
  | .lst _ => 5
  | _ => 6
local macro_rules | `(tactic| walk_at "e") => `(tactic| (simp only [rSeq, rAsg, rRet, rIf, rNext, rCons, rNil, rCl, rOp, rVar, rC, rB, rAndV, rNotV, gt, gIsN, isNonD, res, List.getElem?_cons_zero, List.getElem?_cons_succ, startD, List.map_cons, List.map_nil, List.cons_append, List.nil_append, List.replicate, if_true, if_false, Bool.false_eq_true, ite_true, ite_false, gIsi, isiD, ty_b, ty_i, ty_s, ty_t, ty_l, true_and, String.reduceBEq, Bool.or_true, Bool.or_false, Bool.true_or, Bool.false_or, Bool.or_self, gEq, gNe, gLen, pureN, deq_non, deq_bl, deq_int, deq_str, fin, Bool.not_true, Bool.not_false, seqD, Nat.reduceAdd, Nat.reduceSub, List.length_cons, List.length_nil, bne_self_eq_false, beq_self_eq_true]))
theorem vc_law_equal (Γ : CL) (m : Nat) : ∀ ds μ R, sp_law_equal Γ (m + 1) ds μ R → rd_law_equal Γ m (fin R) (startD 3 ds) μ := by
  intro ds μ R h
  replace h : eqSp m ds μ R := h
  unfold eqSp at h
  split at h <;> first | exact h.elim | skip
  rename_i a e
  obtain ⟨ha, he, h⟩ := h
  unfold rd_law_equal
  have no : ∀ {k : Nat} {d : D}, okq k d = true → kindD d < 6 := by
    intro k d q
    cases d <;> first | (simp only [kindD]; done) | (simp [kindD]; done) | (exfalso; cases k <;> cases q)
  have na := no ha
  have ne := no he
  cases e with
  | ref _ => simp [kindD] at ne
  | ins _ _ => simp [kindD] at ne
  | ty _ => simp [kindD] at ne
  | scr _ => simp [kindD] at ne
  | non =>
    cases a <;> first | (exfalso; simp [kindD] at na; done) | skip
    all_goals (walk_at "e"; exact h)
  | bl b =>
    cases a <;> first | (exfalso; simp [kindD] at na; done) | skip
    all_goals (walk_at "e"; exact h)
  | int b =>
    cases a <;> first | (exfalso; simp [kindD] at na; done) | skip
    all_goals (walk_at "e"; exact h)
  | str b =>
    have he' : PyData.strOk b = true := by cases m <;> exact he
    cases a <;> first | (exfalso; simp [kindD] at na; done) | skip
    case str c =>
      have ha' : PyData.strOk c = true := by cases m <;> exact ha
      walk_at "e"
      exact ⟨ha', he', h⟩
    all_goals (walk_at "e"; exact h)
  | tup es =>
    cases a <;> first | (exfalso; simp [kindD] at na; done) | skip
    case tup as =>
      cases m with
      | zero => cases ha
      | succ m =>
        simp only [okq, Bool.and_eq_true, decide_eq_true_eq] at ha he
        walk_at "e"
        by_cases hl : as.length = es.length
        · rw [if_neg (by simp [hl, PyData.eqv])]
          exact equal_rest Γ (a := .tup as) (e := .tup es) ha.2 he.2 ha.1 hl rfl rfl h
        · rw [if_pos (by simp; omega)]
          have : same (.tup as) (.tup es) = false := sames_len hl
          rw [this] at h
          exact h
    all_goals (walk_at "e"; exact h)
  | lst es =>
    cases a <;> first | (exfalso; simp [kindD] at na; done) | skip
    case lst as =>
      cases m with
      | zero => cases ha
      | succ m =>
        simp only [okq, Bool.and_eq_true, decide_eq_true_eq] at ha he
        walk_at "e"
        by_cases hl : as.length = es.length
        · rw [if_neg (by simp [hl, PyData.eqv])]
          exact equal_rest Γ (a := .lst as) (e := .lst es) ha.2 he.2 ha.1 hl rfl rfl h
        · rw [if_pos (by simp; omega)]
          have : same (.lst as) (.lst es) = false := sames_len hl
          rw [this] at h
          exact h
    all_goals (walk_at "e"; exact h)
end L3

/-! ## CM -/
set_option Elab.async false
set_option linter.all false
set_option maxHeartbeats 4000000
/-! Mathematics of copies. -/
namespace L3
open NM L2
def sg (m : Bool) : Rat := if m then -1 else 1
theorem sg_sq (m : Bool) : sg m * sg m = 1 := by cases m <;> decide +kernel
theorem sg_ne (m m' : Bool) : sg (m != m') = sg m * sg m' := by cases m <;> cases m' <;> decide +kernel
theorem re_flip {m : Bool} {z : Num} : re (flip m z) = re z := by cases m <;> rfl
theorem im_flip {m : Bool} {z : Num} : im (flip m z) = sg m * im z := by
  cases m
  · show im z = 1 * im z
    grind
  · show im (ovr z) = -1 * im z
    rw [im_ovr]
    grind
theorem re_at {c : Cp} {z : Num} (h : c.ok) (hz : Can z) : re (c.at z) = re c.t * re z - im c.t * (sg c.m * im z) + re c.s := by
  rw [Cp.at_eq, re_add (can_mul h.1 (can_flip hz)) h.2.2, re_mul h.1 (can_flip hz), re_flip, im_flip]
theorem im_at {c : Cp} {z : Num} (h : c.ok) (hz : Can z) : im (c.at z) = re c.t * (sg c.m * im z) + im c.t * re z + im c.s := by
  rw [Cp.at_eq, im_add (can_mul h.1 (can_flip hz)) h.2.2, im_mul h.1 (can_flip hz), re_flip, im_flip]
theorem re_ct {a b : Cp} (ha : a.ok) (hb : b.ok) : re (a.comp b).t = re b.t * re a.t - im b.t * (sg b.m * im a.t) := by
  show re (mul b.t (flip b.m a.t)) = _
  rw [re_mul hb.1 (can_flip ha.1), re_flip, im_flip]
theorem im_ct {a b : Cp} (ha : a.ok) (hb : b.ok) : im (a.comp b).t = re b.t * (sg b.m * im a.t) + im b.t * re a.t := by
  show im (mul b.t (flip b.m a.t)) = _
  rw [im_mul hb.1 (can_flip ha.1), re_flip, im_flip]
theorem Cp.comp_at {a b : Cp} {z : Num} (ha : a.ok) (hb : b.ok) (hz : Can z) : (a.comp b).at z = b.at (a.at z) := by
  have hc := Cp.comp_ok ha hb
  have e : (a.comp b).s = b.at a.s := rfl
  have em : (a.comp b).m = (a.m != b.m) := rfl
  refine NM.ext (Cp.can_at hc hz) (Cp.can_at hb (Cp.can_at ha hz)) ?_ ?_
  · rw [re_at hc hz, re_at hb (Cp.can_at ha hz), re_at ha hz, im_at ha hz, e, em, re_ct ha hb, im_ct ha hb, re_at hb ha.2.2, sg_ne]
    have := sg_sq b.m
    grind
  · rw [im_at hc hz, im_at hb (Cp.can_at ha hz), re_at ha hz, im_at ha hz, e, em, re_ct ha hb, im_ct ha hb, im_at hb ha.2.2, sg_ne]
    have := sg_sq b.m
    grind
theorem Cp.ext' {a b : Cp} (h1 : a.t = b.t) (h2 : a.s = b.s) (h3 : a.m = b.m) : a = b := by
  cases a; cases b
  simp only at h1 h2 h3
  rw [h1, h2, h3]
theorem Cp.ext_at {a b : Cp} (ha : a.ok) (hb : b.ok) (h1 : re a.t = re b.t) (h2 : im a.t = im b.t) (h3 : re a.s = re b.s) (h4 : im a.s = im b.s) (h5 : a.m = b.m) : a = b :=
  Cp.ext' (NM.ext ha.1 hb.1 h1 h2) (NM.ext ha.2.2 hb.2.2 h3 h4) h5
theorem Cp.comp_assoc {a b c : Cp} (ha : a.ok) (hb : b.ok) (hc : c.ok) : (a.comp b).comp c = a.comp (b.comp c) := by
  have hab := Cp.comp_ok ha hb
  have hbc := Cp.comp_ok hb hc
  have m1 : (b.comp c).m = (b.m != c.m) := rfl
  refine Cp.ext' (NM.ext (Cp.comp_ok hab hc).1 (Cp.comp_ok ha hbc).1 ?_ ?_) ?_ ?_
  · rw [re_ct hab hc, re_ct ha hbc, re_ct ha hb, im_ct ha hb, re_ct hb hc, im_ct hb hc, m1, sg_ne]
    have := sg_sq c.m
    grind
  · rw [im_ct hab hc, im_ct ha hbc, re_ct ha hb, im_ct ha hb, re_ct hb hc, im_ct hb hc, m1, sg_ne]
    have := sg_sq c.m
    grind
  · show c.at (b.at a.s) = (b.comp c).at a.s
    rw [Cp.comp_at hb hc ha.2.2]
  · show ((a.m != b.m) != c.m) = (a.m != (b.m != c.m))
    cases a.m <;> cases b.m <;> cases c.m <;> rfl
theorem Cp.id_ok : Cp.id.ok := ⟨can_one, by unfold NZ; decide, can_zero⟩
theorem re_ids : re Cp.id.s = 0 := re_zero
theorem im_ids : im Cp.id.s = 0 := im_zero
theorem re_idt : re Cp.id.t = 1 := re_one
theorem im_idt : im Cp.id.t = 0 := im_one
theorem sg_f : sg false = 1 := rfl
theorem Cp.id_at {z : Num} (hz : Can z) : Cp.id.at z = z := by
  refine NM.ext (Cp.can_at Cp.id_ok hz) hz ?_ ?_
  · rw [re_at Cp.id_ok hz, re_idt, im_idt, re_ids]; grind
  · rw [im_at Cp.id_ok hz, re_idt, im_idt, im_ids, show Cp.id.m = false from rfl, sg_f]; grind
theorem Cp.comp_id {a : Cp} (ha : a.ok) : a.comp Cp.id = a := by
  refine Cp.ext' (NM.ext (Cp.comp_ok ha Cp.id_ok).1 ha.1 ?_ ?_) (Cp.id_at ha.2.2) ?_
  · rw [re_ct ha Cp.id_ok, re_idt, im_idt]; grind
  · rw [im_ct ha Cp.id_ok, re_idt, im_idt, show Cp.id.m = false from rfl, sg_f]; grind
  · show (a.m != false) = a.m
    cases a.m <;> rfl
theorem Cp.at_zero {a : Cp} (ha : a.ok) : a.at zero = a.s := by
  refine NM.ext (Cp.can_at ha can_zero) ha.2.2 ?_ ?_
  · rw [re_at ha can_zero, re_zero, im_zero]; grind
  · rw [im_at ha can_zero, re_zero, im_zero]; grind
theorem Cp.id_comp {a : Cp} (ha : a.ok) : Cp.id.comp a = a := by
  refine Cp.ext' (NM.ext (Cp.comp_ok Cp.id_ok ha).1 ha.1 ?_ ?_) (Cp.at_zero ha) ?_
  · rw [re_ct Cp.id_ok ha, re_idt, im_idt]; grind
  · rw [im_ct Cp.id_ok ha, re_idt, im_idt]; grind
  · show (false != a.m) = a.m
    cases a.m <;> rfl
/-! ### coming back -/
theorem nrm_ne {a : Num} (ha : Can a) (na : NZ a) : re a * re a + im a * im a ≠ 0 := (nz_iff ha).mp na
theorem re_it {a : Cp} (ha : a.ok) : re a.inv.t = re a.t / (re a.t * re a.t + im a.t * im a.t) := by
  show re (NM.inv (flip a.m a.t)) = _
  rw [re_inv (can_flip ha.1) (NZ_flip ha.2.1)]
  unfold nrm
  rw [re_flip, im_flip]
  have := sg_sq a.m
  congr 1
  grind
theorem im_it {a : Cp} (ha : a.ok) : im a.inv.t = - (sg a.m * im a.t) / (re a.t * re a.t + im a.t * im a.t) := by
  show im (NM.inv (flip a.m a.t)) = _
  rw [im_inv (can_flip ha.1) (NZ_flip ha.2.1)]
  unfold nrm
  rw [re_flip, im_flip]
  have := sg_sq a.m
  congr 1
  grind
theorem re_is {a : Cp} (ha : a.ok) : re a.inv.s = - (re a.inv.t * re a.s - im a.inv.t * (sg a.m * im a.s)) := by
  show re (opp (mul a.inv.t (flip a.m a.s))) = _
  rw [re_opp, re_mul (Cp.inv_ok ha).1 (can_flip ha.2.2), re_flip, im_flip]
theorem im_is {a : Cp} (ha : a.ok) : im a.inv.s = - (re a.inv.t * (sg a.m * im a.s) + im a.inv.t * re a.s) := by
  show im (opp (mul a.inv.t (flip a.m a.s))) = _
  rw [im_opp, im_mul (Cp.inv_ok ha).1 (can_flip ha.2.2), re_flip, im_flip]
theorem Cp.inv_comp {a : Cp} (ha : a.ok) : a.inv.comp a = Cp.id := by
  have hi := Cp.inv_ok ha
  have hn := nrm_ne ha.1 ha.2.1
  have hs := sg_sq a.m
  have em : a.inv.m = a.m := rfl
  have es : (a.inv.comp a).s = a.at a.inv.s := rfl
  refine Cp.ext' (NM.ext (Cp.comp_ok hi ha).1 can_one ?_ ?_) (NM.ext (Cp.comp_ok hi ha).2.2 can_zero ?_ ?_) ?_
  · rw [re_ct hi ha, re_it ha, im_it ha, re_idt]
    grind
  · rw [im_ct hi ha, re_it ha, im_it ha, im_idt]
    grind
  · rw [es, re_at ha hi.2.2, re_is ha, im_is ha, re_it ha, im_it ha, re_ids]
    grind
  · rw [es, im_at ha hi.2.2, re_is ha, im_is ha, re_it ha, im_it ha, im_ids]
    grind
  · show (a.m != a.m) = false
    cases a.m <;> rfl
theorem Cp.comp_inv {a : Cp} (ha : a.ok) : a.comp a.inv = Cp.id := by
  have hi := Cp.inv_ok ha
  have hn := nrm_ne ha.1 ha.2.1
  have hs := sg_sq a.m
  have em : a.inv.m = a.m := rfl
  have es : (a.comp a.inv).s = a.inv.at a.s := rfl
  refine Cp.ext' (NM.ext (Cp.comp_ok ha hi).1 can_one ?_ ?_) (NM.ext (Cp.comp_ok ha hi).2.2 can_zero ?_ ?_) ?_
  · rw [re_ct ha hi, re_it ha, im_it ha, re_idt, em]
    grind
  · rw [im_ct ha hi, re_it ha, im_it ha, im_idt, em]
    grind
  · rw [es, re_at hi ha.2.2, re_is ha, re_it ha, im_it ha, re_ids, em]
    grind
  · rw [es, im_at hi ha.2.2, im_is ha, re_it ha, im_it ha, im_ids, em]
    grind
  · show (a.m != a.m) = false
    cases a.m <;> rfl
/-! ### sizes -/
theorem gz_0 (a b : Int) : gz (gz a 0) b = gz a b := by
  unfold gz
  rw [Int.gcd_zero_right]
  unfold Int.gcd
  rw [Int.natAbs_natCast]
theorem sizeD_eq {z : Num} (h : z.d ≠ 0) : sizeD z = .tup [.int (szN z).x, .int (szN z).d] := by
  have hp : 0 < z.d * z.d := by
    have := sq_nn z.d
    have := Int.mul_ne_zero h h
    omega
  unfold sizeD szN ratD low
  simp only [if_pos hp, gz_0, Int.one_mul]
theorem can_szN {z : Num} (h : z.d ≠ 0) : Can (szN z) := low_can (Int.mul_ne_zero h h)
theorem re_szN {z : Num} (h : Can z) : re (szN z) = re z * re z + im z * im z := by
  unfold szN
  rw [re_low (Int.mul_ne_zero (ne_d h) (ne_d h))]
  unfold re im
  have := cast_ne (ne_d h)
  push_cast
  grind
theorem im_szN {z : Num} (h : Can z) : im (szN z) = 0 := by
  unfold szN
  rw [im_low (Int.mul_ne_zero (ne_d h) (ne_d h)), show ((0 : Int) : Rat) = 0 from rfl, Rat.div_def, Rat.zero_mul]
theorem szN_y {z : Num} (h : Can z) : (szN z).y = 0 := by
  have e := im_szN h
  unfold im at e
  have := cast_ne (ne_d (can_szN (ne_d h)))
  have e2 : (((szN z).y : Int) : Rat) = 0 := by grind
  exact_mod_cast e2
theorem szN_comp {a b : Cp} (ha : a.ok) (hb : b.ok) : mul (szN a.t) (szN b.t) = szN (a.comp b).t := by
  have hc := (Cp.comp_ok ha hb).1
  have c1 := can_szN (ne_d ha.1)
  have c2 := can_szN (ne_d hb.1)
  refine NM.ext (can_mul c1 c2) (can_szN (ne_d hc)) ?_ ?_
  · rw [re_mul c1 c2, re_szN ha.1, re_szN hb.1, im_szN ha.1, im_szN hb.1, re_szN hc, re_ct ha hb, im_ct ha hb]
    have := sg_sq b.m
    grind
  · rw [im_mul c1 c2, im_szN ha.1, im_szN hb.1, im_szN hc]
    grind
theorem sz_szN {n : Nat} {z : Num} (h : Can z) (s : Sz n z) : Sz (n + n + 1) (szN z) :=
  low_sz (Int.mul_ne_zero (ne_d h) (ne_d h)) ((s.1.mul s.1).add (s.2.1.mul s.2.1)) (by unfold Bt; exact Nat.two_pow_pos _) ((s.2.2.mul s.2.2).mono (by omega))
/-! ### inverses -/
theorem Cp.inv_unique {a b : Cp} (ha : a.ok) (hb : b.ok) (h : a.comp b = Cp.id) : b = a.inv := by
  have e := Cp.comp_assoc (Cp.inv_ok ha) ha hb
  rw [Cp.inv_comp ha, Cp.id_comp hb, h, Cp.comp_id (Cp.inv_ok ha)] at e
  exact e
theorem Cp.inv_inv {a : Cp} (ha : a.ok) : a.inv.inv = a := (Cp.inv_unique (Cp.inv_ok ha) ha (Cp.inv_comp ha)).symm
theorem Cp.inv_of_comp {a b : Cp} (ha : a.ok) (hb : b.ok) : (a.comp b).inv = b.inv.comp a.inv := by
  have ia := Cp.inv_ok ha
  have ib := Cp.inv_ok hb
  refine (Cp.inv_unique (Cp.comp_ok ha hb) (Cp.comp_ok ib ia) ?_).symm
  rw [Cp.comp_assoc ha hb (Cp.comp_ok ib ia), ← Cp.comp_assoc hb ib ia, Cp.comp_inv hb, Cp.id_comp ia, Cp.comp_inv ha]
theorem Cp.id_inv : Cp.id.inv = Cp.id := (Cp.inv_unique Cp.id_ok Cp.id_ok (Cp.comp_id Cp.id_ok)).symm
theorem Cp.inv_at {a : Cp} {z : Num} (ha : a.ok) (hz : Can z) : a.inv.at (a.at z) = z := by
  rw [← Cp.comp_at ha (Cp.inv_ok ha) hz, Cp.comp_inv ha, Cp.id_at hz]
theorem Cp.at_inv {a : Cp} {z : Num} (ha : a.ok) (hz : Can z) : a.at (a.inv.at z) = z := by
  rw [← Cp.comp_at (Cp.inv_ok ha) ha hz, Cp.inv_comp ha, Cp.id_at hz]
theorem szN_pos {z : Num} (h : Can z) (nz : NZ z) : 0 < (szN z).x := by
  have h1 := can_szN (ne_d h)
  have e := re_szN h
  have n := nrm_ne h nz
  have hd := h1.1
  have nn : 0 ≤ z.x * z.x + z.y * z.y := by have := sq_nn z.x; have := sq_nn z.y; omega
  obtain ⟨k, hk, ex, ey, ed, hd0, _⟩ := low_spec (x := z.x * z.x + z.y * z.y) (y := 0) (Int.mul_ne_zero (ne_d h) (ne_d h))
  have hp : 0 < z.d * z.d := by
    have := sq_nn z.d
    have := Int.mul_ne_zero (ne_d h) (ne_d h)
    omega
  have kp : 0 < k := by
    have e2 : z.d * z.d = k * (szN z).d := ed
    rw [e2] at hp
    rcases Int.lt_trichotomy k 0 with q | q | q
    · have := Int.mul_neg_of_neg_of_pos q hd; omega
    · exact absurd q hk
    · exact q
  have nz2 := sq_ne nz
  have e3 : z.x * z.x + z.y * z.y = k * (szN z).x := ex
  rcases Int.lt_trichotomy (szN z).x 0 with q | q | q
  · have := Int.mul_neg_of_pos_of_neg kp q; omega
  · rw [q, Int.mul_zero] at e3; omega
  · exact q
theorem szN_inv {a : Cp} (ha : a.ok) : szN a.inv.t = ⟨(szN a.t).d, 0, (szN a.t).x⟩ := by
  have hi := (Cp.inv_ok ha).1
  have c1 := can_szN (ne_d ha.1)
  have c2 := can_szN (ne_d hi)
  have px := szN_pos ha.1 ha.2.1
  have hn := nrm_ne ha.1 ha.2.1
  have e1 := re_szN ha.1
  have cc : Can ⟨(szN a.t).d, 0, (szN a.t).x⟩ := by
    refine ⟨px, ?_⟩
    have q := c1.2
    rw [szN_y ha.1, gz_0] at q
    show gz (gz (szN a.t).d 0) (szN a.t).x = 1
    rw [gz_0]
    unfold gz at *
    rw [Int.gcd_comm]
    exact q
  have nx := cast_ne (show (szN a.t).x ≠ 0 by omega)
  have nd := cast_ne (ne_d c1)
  refine NM.ext c2 cc ?_ ?_
  · rw [re_szN hi, re_it ha, im_it ha]
    have hs := sg_sq a.m
    have e2 : re (szN a.t) = ((szN a.t).x : Rat) / ((szN a.t).d : Rat) := rfl
    show _ = ((szN a.t).d : Rat) / ((szN a.t).x : Rat)
    have e3 : (re a.t * re a.t + im a.t * im a.t) * ((szN a.t).d : Rat) = ((szN a.t).x : Rat) := by grind
    grind
  · rw [im_szN hi]
    show (0 : Rat) = ((0 : Int) : Rat) / _
    rw [show ((0 : Int) : Rat) = 0 from rfl, Rat.div_def, Rat.zero_mul]
end L3

/-! ## CM2 -/
set_option Elab.async false
set_option linter.all false
set_option maxHeartbeats 4000000
/-! Spots that are kept. -/
namespace L3
open NM L2
theorem gz_comm (a b : Int) : gz a b = gz b a := by unfold gz; rw [Int.gcd_comm]
theorem gz_assoc (a b c : Int) : gz (gz a b) c = gz a (gz b c) := by unfold gz; rw [Int.gcd_assoc]
theorem gz3_rev (a b c : Int) : gz (gz a b) c = gz (gz c b) a := by
  rw [gz_comm (gz a b) c, gz_comm a b, ← gz_assoc]
/-- what the program computes -/
theorem lineOf_eq {a b c : Int} (h : a ≠ 0 ∨ b ≠ 0) :
    (let g := gz (gz a b) c; let s : Int := if 0 < a ∨ (a = 0 ∧ 0 < b) then 1 else -1; ((s * a).fdiv g, (s * b).fdiv g, (s * c).fdiv g)) = lineOf a b c := by
  unfold lineOf low
  by_cases ha : a = 0
  · subst ha
    have hb : b ≠ 0 := by simpa using h
    have e : gz (gz 0 b) c = gz (gz c 0) b := by
      rw [gz_0, gz_comm c b]
      unfold gz
      rw [Int.gcd_comm 0 b, Int.gcd_zero_right]
      unfold Int.gcd
      rw [Int.natAbs_natCast]
    simp only [ne_eq, not_true_eq_false, if_false, e]
    by_cases hp : 0 < b <;> simp [hp]
  · have e : ((0 < a ∨ (a = 0 ∧ 0 < b)) : Prop) = (0 < a) := by simp [ha]
    simp only [ne_eq, ha, not_false_eq_true, if_true, gz3_rev a b c]
    simp
theorem lineOf_spec {a b c : Int} (h : a ≠ 0 ∨ b ≠ 0) : ∃ k : Int, k ≠ 0 ∧ a = k * (lineOf a b c).1 ∧ b = k * (lineOf a b c).2.1 ∧ c = k * (lineOf a b c).2.2 := by
  unfold lineOf
  by_cases ha : a = 0
  · have hb : b ≠ 0 := by simpa [ha] using h
    obtain ⟨k, hk, e1, e2, e3, _⟩ := low_spec (x := c) (y := 0) hb
    rw [if_neg (by simp [ha])]
    exact ⟨k, hk, by rw [ha, Int.mul_zero], e3, e1⟩
  · obtain ⟨k, hk, e1, e2, e3, _⟩ := low_spec (x := c) (y := b) ha
    rw [if_pos ha]
    exact ⟨k, hk, e3, e2, e1⟩
theorem lineOf_norm {a b c : Int} (h : a ≠ 0 ∨ b ≠ 0) : (0 < (lineOf a b c).1 ∨ (lineOf a b c).1 = 0 ∧ 0 < (lineOf a b c).2.1) ∧ gz (gz (lineOf a b c).1 (lineOf a b c).2.1) (lineOf a b c).2.2 = 1 := by
  unfold lineOf
  by_cases ha : a = 0
  · have hb : b ≠ 0 := by simpa [ha] using h
    rw [if_neg (by simp [ha])]
    have q := low_can (x := c) (y := 0) hb
    refine ⟨.inr ⟨rfl, q.1⟩, ?_⟩
    show gz (gz 0 (low c 0 b).d) (low c 0 b).x = 1
    have y0 : (low c 0 b).y = 0 := by
      obtain ⟨k, hk, _, e2, _⟩ := low_spec (x := c) (y := 0) hb
      rcases Int.mul_eq_zero.mp e2.symm with q | q
      · exact absurd q hk
      · exact q
    generalize low c 0 b = z at *
    have q2 := q.2
    rw [y0, gz_0] at q2
    have e : gz (gz 0 z.d) z.x = gz z.x z.d := by
      unfold gz
      rw [Int.gcd_comm 0 z.d, Int.gcd_zero_right]
      unfold Int.gcd
      rw [Int.natAbs_natCast, Nat.gcd_comm]
    rw [e]
    exact q2
  · rw [if_pos ha]
    have q := low_can (x := c) (y := b) ha
    refine ⟨.inl q.1, ?_⟩
    show gz (gz (low c b a).d (low c b a).y) (low c b a).x = 1
    rw [gz3_rev]
    exact q.2
theorem lineOf_uniq {a b c a' b' c' : Int} (h : a ≠ 0 ∨ b ≠ 0) (h' : a' ≠ 0 ∨ b' ≠ 0) (e1 : a * b' = a' * b) (e2 : a * c' = a' * c) (e3 : b * c' = b' * c) : lineOf a b c = lineOf a' b' c' := by
  unfold lineOf
  by_cases ha : a = 0
  · have hb : b ≠ 0 := by simpa [ha] using h
    have ha' : a' = 0 := by
      rw [ha, Int.zero_mul] at e1
      rcases Int.mul_eq_zero.mp e1.symm with q | q
      · exact q
      · exact absurd q hb
    have hb' : b' ≠ 0 := by simpa [ha'] using h'
    rw [if_neg (by simp [ha]), if_neg (by simp [ha'])]
    have := low_eq (x := c) (y := 0) (x' := c') (y' := 0) hb hb' (by grind) (by simp)
    rw [this]
  · have ha' : a' ≠ 0 := by
      intro q
      rw [q, Int.zero_mul] at e1
      rcases Int.mul_eq_zero.mp e1 with z | z
      · exact ha z
      · rw [q] at h'
        simp [z] at h'
    rw [if_pos ha, if_pos ha']
    have := low_eq (x := c) (y := b) (x' := c') (y' := b') ha ha' (by grind) (by grind)
    rw [this]
def keptOn : Kp → Num → Prop
  | .all, _ => True
  | .none, _ => False
  | .spot w, z => z = w
  | .line a b c, z => a * z.x + b * z.y = c * z.d
theorem can_hlf : Can hlf := ⟨by decide, by decide⟩
theorem can_neg1 : Can neg1 := ⟨by decide, by decide⟩
theorem can_img : Can img := ⟨by decide, by decide⟩
theorem re_hlf : re hlf = 1 / 2 := by decide +kernel
theorem im_hlf : im hlf = 0 := by decide +kernel
theorem re_neg1 : re neg1 = -1 := by decide +kernel
theorem im_neg1 : im neg1 = 0 := by decide +kernel
theorem re_img : re img = 0 := by decide +kernel
theorem im_img : im img = 1 := by decide +kernel
theorem num_iff {a b : Num} (ha : Can a) (hb : Can b) : a = b ↔ re a = re b ∧ im a = im b := ⟨fun h => by rw [h]; exact ⟨rfl, rfl⟩, fun h => NM.ext ha hb h.1 h.2⟩
theorem fix_iff {c : Cp} {z : Num} (h : c.ok) (hz : Can z) : c.at z = z ↔ re c.t * re z - im c.t * (sg c.m * im z) + re c.s = re z ∧ re c.t * (sg c.m * im z) + im c.t * re z + im c.s = im z := by
  rw [num_iff (Cp.can_at h hz) hz, re_at h hz, im_at h hz]
/-- a line told by a spot on it and its way -/
theorem lineK_on {s w z : Num} (hs : Can s) (hw : Can w) (nw : NZ w) (hz : Can z) : keptOn (lineK s w) z ↔ im w * re z - re w * im z = im w * re s - re w * im s := by
  have h0 : w.y * s.d ≠ 0 ∨ (0 - w.x * s.d) ≠ 0 := by
    have hd := ne_d hs
    by_cases hy : w.y = 0
    · right
      intro q
      have q2 : w.x * s.d = 0 := by omega
      rcases Int.mul_eq_zero.mp q2 with e | e
      · exact nw ⟨e, hy⟩
      · exact hd e
    · left
      exact Int.mul_ne_zero hy hd
  obtain ⟨k, hk, e1, e2, e3⟩ := lineOf_spec (c := w.y * s.x - w.x * s.y) h0
  show (lineOf _ _ _).1 * z.x + (lineOf _ _ _).2.1 * z.y = (lineOf _ _ _).2.2 * z.d ↔ _
  have a1 : ((lineOf (w.y * s.d) (0 - w.x * s.d) (w.y * s.x - w.x * s.y)).1 * z.x + (lineOf (w.y * s.d) (0 - w.x * s.d) (w.y * s.x - w.x * s.y)).2.1 * z.y = (lineOf (w.y * s.d) (0 - w.x * s.d) (w.y * s.x - w.x * s.y)).2.2 * z.d) ↔ ((w.y * s.d) * z.x + (0 - w.x * s.d) * z.y = (w.y * s.x - w.x * s.y) * z.d) := by
    generalize lineOf (w.y * s.d) (0 - w.x * s.d) (w.y * s.x - w.x * s.y) = l at *
    rw [e1, e2, e3]
    constructor
    · intro q
      have : k * (l.1 * z.x + l.2.1 * z.y) = k * (l.2.2 * z.d) := by rw [q]
      grind
    · intro q
      have : k * (l.1 * z.x + l.2.1 * z.y) = k * (l.2.2 * z.d) := by grind
      exact Int.eq_of_mul_eq_mul_left hk this
  rw [a1]
  have c1 := cast_ne (ne_d hs)
  have c2 := cast_ne (ne_d hw)
  have c3 := cast_ne (ne_d hz)
  have a2 : ((w.y * s.d) * z.x + (0 - w.x * s.d) * z.y = (w.y * s.x - w.x * s.y) * z.d) ↔ (((w.y * s.d) * z.x + (0 - w.x * s.d) * z.y : Int) : Rat) = (((w.y * s.x - w.x * s.y) * z.d : Int) : Rat) := ⟨fun q => by rw [q], fun q => by exact_mod_cast q⟩
  rw [a2]
  unfold re im
  push_cast
  generalize ((w.x : Int) : Rat) = wx at *
  generalize ((w.y : Int) : Rat) = wy at *
  generalize ((w.d : Int) : Rat) = wd at *
  generalize ((s.x : Int) : Rat) = sx at *
  generalize ((s.y : Int) : Rat) = sy at *
  generalize ((s.d : Int) : Rat) = sd at *
  generalize ((z.x : Int) : Rat) = zx at *
  generalize ((z.y : Int) : Rat) = zy at *
  generalize ((z.d : Int) : Rat) = zd at *
  constructor
  · intro q
    grind
  · intro q
    grind
theorem NZ_way {c : Cp} (h : c.ok) : NZ (wayOf c) ∧ Can (wayOf c) := by
  unfold wayOf
  by_cases e : c.t = neg1
  · rw [if_pos e]
    exact ⟨by unfold NZ; decide, can_img⟩
  · rw [if_neg e]
    have k := can_add can_one h.1
    refine ⟨fun ⟨hx, hy⟩ => e ?_, k⟩
    have e1 : re (add one c.t) = 0 := by
      unfold re
      rw [hx, show ((0 : Int) : Rat) = 0 from rfl, Rat.div_def, Rat.zero_mul]
    have e2 : im (add one c.t) = 0 := by
      unfold im
      rw [hy, show ((0 : Int) : Rat) = 0 from rfl, Rat.div_def, Rat.zero_mul]
    rw [re_add can_one h.1, re_one] at e1
    rw [im_add can_one h.1, im_one] at e2
    refine NM.ext h.1 can_neg1 ?_ ?_
    · rw [re_neg1]
      grind
    · rw [im_neg1]
      grind
theorem szN_one {z : Num} (h : Can z) : ((szN z).x = 1 ∧ (szN z).d = 1) ↔ re z * re z + im z * im z = 1 := by
  rw [← re_szN h]
  have k := can_szN (ne_d h)
  constructor
  · rintro ⟨a, b⟩
    unfold re
    rw [a, b]
    decide +kernel
  · intro q
    have : szN z = one := NM.ext k can_one (by rw [q, re_one]) (by rw [im_szN h, im_one])
    rw [this]
    exact ⟨rfl, rfl⟩
theorem re_both {c : Cp} (h : c.ok) : re (bothOf c) = re c.t * re c.s + im c.t * im c.s + re c.s := by
  unfold bothOf
  rw [re_add (can_mul h.1 (can_ovr h.2.2)) h.2.2, re_mul h.1 (can_ovr h.2.2), re_ovr, im_ovr]
  grind
theorem im_both {c : Cp} (h : c.ok) : im (bothOf c) = im c.t * re c.s - re c.t * im c.s + im c.s := by
  unfold bothOf
  rw [im_add (can_mul h.1 (can_ovr h.2.2)) h.2.2, im_mul h.1 (can_ovr h.2.2), re_ovr, im_ovr]
  grind
theorem can_both {c : Cp} (h : c.ok) : Can (bothOf c) := can_add (can_mul h.1 (can_ovr h.2.2)) h.2.2
theorem NZ_sub {c : Cp} (h : c.ok) (e : c.t ≠ one) : NZ (sub one c.t) := fun ⟨hx, hy⟩ => e (by
  have e1 : re (sub one c.t) = 0 := by
    unfold re
    rw [hx, show ((0 : Int) : Rat) = 0 from rfl, Rat.div_def, Rat.zero_mul]
  have e2 : im (sub one c.t) = 0 := by
    unfold im
    rw [hy, show ((0 : Int) : Rat) = 0 from rfl, Rat.div_def, Rat.zero_mul]
  rw [re_sub can_one h.1, re_one] at e1
  rw [im_sub can_one h.1, im_one] at e2
  refine NM.ext h.1 can_one ?_ ?_
  · rw [re_one]
    grind
  · rw [im_one]
    grind)
/-- 1 - |t|² as a number -/
def restOf (c : Cp) : Num := low ((szN c.t).d - (szN c.t).x) 0 (szN c.t).d
theorem can_rest {c : Cp} (h : c.ok) : Can (restOf c) := low_can (ne_d (can_szN (ne_d h.1)))
theorem re_rest {c : Cp} (h : c.ok) : re (restOf c) = 1 - (re c.t * re c.t + im c.t * im c.t) := by
  have k := can_szN (ne_d h.1)
  have e := re_szN h.1
  unfold restOf
  rw [re_low (ne_d k)]
  unfold re at e ⊢
  have := cast_ne (ne_d k)
  push_cast
  grind
theorem im_rest {c : Cp} (h : c.ok) : im (restOf c) = 0 := by
  have k := can_szN (ne_d h.1)
  unfold restOf
  rw [im_low (ne_d k), show ((0 : Int) : Rat) = 0 from rfl, Rat.div_def, Rat.zero_mul]
theorem NZ_rest {c : Cp} (h : c.ok) (e : ¬ (re c.t * re c.t + im c.t * im c.t = 1)) : NZ (restOf c) := fun ⟨hx, hy⟩ => e (by
  have e1 : re (restOf c) = 0 := by
    unfold re
    rw [hx, show ((0 : Int) : Rat) = 0 from rfl, Rat.div_def, Rat.zero_mul]
  rw [re_rest h] at e1
  grind)
theorem can_spotM {c : Cp} (h : c.ok) (e : ¬ (re c.t * re c.t + im c.t * im c.t = 1)) : Can (mul (bothOf c) (inv (restOf c))) := can_mul (can_both h) (can_inv (NZ_rest h e))
theorem can_spotN {c : Cp} (h : c.ok) (e : c.t ≠ one) : Can (mul c.s (inv (sub one c.t))) := can_mul h.2.2 (can_inv (NZ_sub h e))
theorem kept_spec {c : Cp} {z : Num} (h : c.ok) (hz : Can z) : keptOn (keptK c) z ↔ c.at z = z := by
  rw [fix_iff h hz]
  have k1 := can_sub can_one h.1
  unfold keptK
  cases hm : c.m with
  | true =>
    rw [if_pos rfl]
    have sgt : sg true = -1 := rfl
    by_cases e1 : re c.t * re c.t + im c.t * im c.t = 1
    · rw [if_pos ((szN_one h.1).mpr e1)]
      have kb := can_both h
      have b1 := re_both h
      have b2 := im_both h
      by_cases e2 : bothOf c = zero
      · rw [if_pos e2]
        rw [e2, re_zero] at b1
        rw [e2, im_zero] at b2
        obtain ⟨nw, kw⟩ := NZ_way h
        have ks := can_mul h.2.2 can_hlf
        rw [lineK_on ks kw nw hz, re_mul h.2.2 can_hlf, im_mul h.2.2 can_hlf, re_hlf, im_hlf, sgt]
        by_cases e3 : c.t = neg1
        · have : wayOf c = img := by unfold wayOf; rw [if_pos e3]
          rw [this, re_img, im_img]
          have tr : re c.t = -1 := by rw [e3, re_neg1]
          have ti : im c.t = 0 := by rw [e3, im_neg1]
          rw [tr, ti] at b1 b2 ⊢
          constructor
          · intro q
            constructor <;> grind
          · rintro ⟨q1, q2⟩
            grind
        · have : wayOf c = add one c.t := by unfold wayOf; rw [if_neg e3]
          rw [this, re_add can_one h.1, im_add can_one h.1, re_one, im_one]
          have n3 : 1 + re c.t ≠ 0 := by
            intro q
            apply e3
            refine NM.ext h.1 can_neg1 ?_ ?_
            · rw [re_neg1]; grind
            · rw [im_neg1]
              have : im c.t * im c.t = 0 := by grind
              grind
          constructor
          · intro q
            have q2 : (1 + re c.t) * im z - im c.t * re z = im c.s := by grind
            constructor
            · have : (1 + re c.t) * (re c.t * re z - im c.t * (-1 * im z) + re c.s) = (1 + re c.t) * re z := by grind
              grind
            · grind
          · rintro ⟨q1, q2⟩
            grind
      · rw [if_neg e2]
        constructor
        · exact fun q => False.elim q
        · rintro ⟨q1, q2⟩
          rw [sgt] at q1 q2
          refine False.elim (e2 (NM.ext kb can_zero ?_ ?_))
          · rw [b1, re_zero]
            grind
          · rw [b2, im_zero]
            grind
    · rw [if_neg (fun q => e1 ((szN_one h.1).mp q))]
      have ke := can_rest h
      have ne := NZ_rest h e1
      show z = mul (bothOf c) (inv (restOf c)) ↔ _
      rw [num_iff hz (can_spotM h e1), re_mul (can_both h) (can_inv ne), im_mul (can_both h) (can_inv ne), re_inv ke ne, im_inv ke ne]
      unfold nrm
      rw [re_rest h, im_rest h, re_both h, im_both h, sgt]
      have nd : 1 - (re c.t * re c.t + im c.t * im c.t) ≠ 0 := by grind
      generalize re c.t = tr at *
      generalize im c.t = ti at *
      generalize re c.s = sr at *
      generalize im c.s = si at *
      generalize re z = zr at *
      generalize im z = zi at *
      have ed : (1 - (tr * tr + ti * ti)) / ((1 - (tr * tr + ti * ti)) * (1 - (tr * tr + ti * ti)) + 0 * 0) = 1 / (1 - (tr * tr + ti * ti)) := by grind
      have e0 : (-0 : Rat) / ((1 - (tr * tr + ti * ti)) * (1 - (tr * tr + ti * ti)) + 0 * 0) = 0 := by grind
      rw [ed, e0]
      constructor
      · rintro ⟨q1, q2⟩
        have r1 : zr * (1 - (tr * tr + ti * ti)) = tr * sr + ti * si + sr := by grind
        have r2 : zi * (1 - (tr * tr + ti * ti)) = ti * sr - tr * si + si := by grind
        constructor
        · have : (tr * zr - ti * (-1 * zi) + sr) * (1 - (tr * tr + ti * ti)) = zr * (1 - (tr * tr + ti * ti)) := by grind
          grind
        · have : (tr * (-1 * zi) + ti * zr + si) * (1 - (tr * tr + ti * ti)) = zi * (1 - (tr * tr + ti * ti)) := by grind
          grind
      · rintro ⟨q1, q2⟩
        have r1 : zr * (1 - (tr * tr + ti * ti)) = tr * sr + ti * si + sr := by grind
        have r2 : zi * (1 - (tr * tr + ti * ti)) = ti * sr - tr * si + si := by grind
        constructor
        · grind
        · grind
  | false =>
    rw [if_neg (by simp)]
    have sgf : sg false = 1 := rfl
    rw [sgf]
    by_cases e1 : c.t = one
    · rw [if_pos e1, e1, re_one, im_one]
      by_cases e2 : c.s = zero
      · rw [if_pos e2, e2, re_zero, im_zero]
        constructor
        · intro _
          constructor <;> grind
        · exact fun _ => trivial
      · rw [if_neg e2]
        constructor
        · exact fun q => False.elim q
        · rintro ⟨q1, q2⟩
          refine False.elim (e2 (NM.ext h.2.2 can_zero ?_ ?_))
          · rw [re_zero]; grind
          · rw [im_zero]; grind
    · rw [if_neg e1]
      have ne := NZ_sub h e1
      have nn := nrm_ne k1 ne
      show z = mul c.s (inv (sub one c.t)) ↔ _
      rw [num_iff hz (can_spotN h e1), re_mul h.2.2 (can_inv ne), im_mul h.2.2 (can_inv ne), re_inv k1 ne, im_inv k1 ne]
      unfold nrm
      rw [re_sub can_one h.1, im_sub can_one h.1, re_one, im_one] at nn ⊢
      generalize re c.t = tr at *
      generalize im c.t = ti at *
      generalize re c.s = sr at *
      generalize im c.s = si at *
      generalize re z = zr at *
      generalize im z = zi at *
      constructor
      · rintro ⟨q1, q2⟩
        have r1 : zr * ((1 - tr) * (1 - tr) + (0 - ti) * (0 - ti)) = sr * (1 - tr) - si * ti := by grind
        have r2 : zi * ((1 - tr) * (1 - tr) + (0 - ti) * (0 - ti)) = si * (1 - tr) + sr * ti := by grind
        constructor
        · have : (tr * zr - ti * (1 * zi) + sr) * ((1 - tr) * (1 - tr) + (0 - ti) * (0 - ti)) = zr * ((1 - tr) * (1 - tr) + (0 - ti) * (0 - ti)) := by grind
          grind
        · have : (tr * (1 * zi) + ti * zr + si) * ((1 - tr) * (1 - tr) + (0 - ti) * (0 - ti)) = zi * ((1 - tr) * (1 - tr) + (0 - ti) * (0 - ti)) := by grind
          grind
      · rintro ⟨q1, q2⟩
        have r1 : zr * ((1 - tr) * (1 - tr) + (0 - ti) * (0 - ti)) = sr * (1 - tr) - si * ti := by grind
        have r2 : zi * ((1 - tr) * (1 - tr) + (0 - ti) * (0 - ti)) = si * (1 - tr) + sr * ti := by grind
        constructor
        · grind
        · grind
end L3

/-! ## V5 -/
set_option Elab.async false
set_option linter.all false
set_option maxRecDepth 100000
set_option maxHeartbeats 4000000
namespace L3
open PySem NM L2
local macro_rules | `(tactic| walk_at "d") => `(tactic| (try (simp only [rSeq, rAsg, rRet, rRetN, rDrop, rIf, rNext, rPar, rPar3, rCons, rNil, rStar, rCl, rOp, rUn, rVar, rC, rGN, rTup, rLst, rB, rAnd, rOr, rNot, rIfE, rAndV, rOrV, rNotV, rNever, rFld, rOwn, rMeth, rMakeK, rMakeD, rFldS, rFrz, rSetIx, rMut, rILst, rITup, rIRng1, rIRng2, rFor, rLc, rLcM, rTrue, gt, st, gI, gI0, gU, gIx, gEq, gNe, gAdd, gSub, gMul, gDiv, gMod, gPow, gLt, gLe, gGt, gGe, gIsi, gAbs, gLen, gAll, gIsN, gNotN, gOwn1, gOwn2, isNonD, seqD, res, atI_0, atI_1, atI_2, atI_3, atI_4, List.getElem?_cons_zero, List.getElem?_cons_succ, List.length_cons, List.length_nil, decide_eq_true_eq, List.map_cons, List.map_nil, startD, List.cons_append, List.nil_append, List.replicate, Nat.zero_add, numD, if_true, if_false, Bool.false_eq_true, and_self, true_and, ite_true, ite_false, Nat.reduceAdd, Nat.reduceSub, ln, Nat.reduceLeDiff, fin, String.reduceBEq, Bool.not_true, Bool.not_false, pureN, deq_int, deq_tt, deq_t0, deq_bl, List.all_cons, List.all_nil, Bool.and_true, Bool.true_and, Bool.and_eq_true, List.append_nil, lk_turn, lk_shift, lk_mirrored, lk_key, insD, updM_same, updM_updM, Option.map_some, Option.map_none])))
theorem vc_less (Γ : CL) : ∀ ds μ R, sp_less Γ ds μ R → rd_less Γ (fin R) (startD 2 ds) μ := by
  intro ds μ R h
  unfold sp_less at h
  split at h <;> first | exact h.elim | skip
  rename_i x y d u v w
  obtain ⟨h1, h2, s1, s2, h⟩ := h
  unfold rd_less
  walk_at "d"
  simp only [sp_opposite, opp, numD, sp_added]
  exact ⟨h1, h2, s1, s2.opp, h⟩
theorem vc_law_minus (Γ : CL) : ∀ ds μ R, sp_law_minus Γ ds μ R → rd_law_minus Γ (fin R) (startD 2 ds) μ := by
  intro ds μ R h
  unfold sp_law_minus sp_less at h
  split at h <;> first | exact h.elim | skip
  rename_i x y d u v w
  obtain ⟨h1, h2, s1, s2, h⟩ := h
  unfold rd_law_minus
  walk_at "d"
  simp only [sp_law_plus, sp_added]
  exact ⟨h1, h2, s1, s2.opp, h⟩
theorem vc_line_of (Γ : CL) : ∀ ds μ R, sp_line_of Γ ds μ R → rd_line_of Γ (fin R) (startD 7 ds) μ := by
  rintro ds μ R ⟨s, w, rfl, hd, nw, ⟨s1, s2, s3⟩, ⟨w1, w2, w3⟩, h⟩
  unfold rd_line_of
  have c : ∀ {a b : Int}, Bt half a → Bt half b → CBig a b := fun h l => ⟨h.mono (by decide), l.mono (by decide)⟩
  walk_at "d"
  refine ⟨c w2 s3, c w1 s3, c w2 s1, c w1 s2, ?_⟩
  simp only [sp_common_divisor]
  walk_at "d"
  have h0 : w.y * s.d ≠ 0 ∨ (0 - w.x * s.d) ≠ 0 := by
    by_cases hy : w.y = 0
    · right
      intro q
      have q2 : w.x * s.d = 0 := by omega
      rcases Int.mul_eq_zero.mp q2 with e | e
      · exact nw ⟨e, hy⟩
      · exact hd e
    · left
      exact Int.mul_ne_zero hy hd
  have ba : Bt big (w.y * s.d) := (w2.mul s3).mono (by decide)
  have bb' : Bt big (0 - w.x * s.d) := ((w1.mul s3).neg).mono (by decide)
  have bc : Bt big (w.y * s.x - w.x * s.y) := ((w2.mul s1).sub (w1.mul s2)).mono (by decide)
  rw [← lineOf_eq h0] at h
  dsimp only at h
  generalize w.y * s.d = a at *
  generalize 0 - w.x * s.d = b at *
  generalize w.y * s.x - w.x * s.y = e at *
  have g0 : gz (gz a b) e ≠ 0 := by
    intro q
    rw [gz3_rev] at q
    rcases h0 with z | z
    · exact gz_ne (a := gz e b) z q
    · rw [← gz3_rev, gz_comm a b, gz3_rev] at q
      exact gz_ne (a := gz e a) z q
  have gb : Bt big (gz (gz a b) e) := by
    rcases h0 with z | z
    · rw [gz3_rev]
      exact bt_gz z ba
    · rw [gz_comm a b, gz3_rev]
      exact bt_gz z bb'
  have m1 : ∀ {i : Int}, Bt big i → CBig 1 i := fun h => ⟨bt1, h⟩
  have m2 : ∀ {i : Int}, Bt big i → CBig (-1) i := fun h => ⟨btm1, h⟩
  by_cases p1 : 0 < a
  · rw [if_pos (Or.inl p1)] at h
    refine ite_yes p1 ?_
    exact ⟨m1 ba, ⟨g0, gb⟩, m1 bb', ⟨g0, gb⟩, m1 bc, ⟨g0, gb⟩, h⟩
  · refine ite_no p1 ?_
    by_cases p2 : a = 0
    · refine ite_yes (by simpa using p2) ?_
      by_cases p3 : 0 < b
      · rw [if_pos (Or.inr ⟨p2, p3⟩)] at h
        refine ite_yes p3 ?_
        exact ⟨m1 ba, ⟨g0, gb⟩, m1 bb', ⟨g0, gb⟩, m1 bc, ⟨g0, gb⟩, h⟩
      · rw [if_neg (by rintro (q | q); exact p1 q; exact p3 q.2)] at h
        refine ite_no p3 ?_
        exact ⟨m2 ba, ⟨g0, gb⟩, m2 bb', ⟨g0, gb⟩, m2 bc, ⟨g0, gb⟩, h⟩
    · rw [if_neg (by rintro (q | q); exact p1 q; exact p2 q.1)] at h
      refine ite_no (by simpa using p2) ?_
      exact ⟨m2 ba, ⟨g0, gb⟩, m2 bb', ⟨g0, gb⟩, m2 bc, ⟨g0, gb⟩, h⟩
theorem insD_copy {Γ : CL} {μ : MH} {c : Cp} : insD μ (copyD Γ c) = some (Γ.Copy, copyFs c) := rfl
theorem own2_c {Γ : CL} {μ : MH} {s : GN} {R : D → MH → Prop} {a b : Cp} : gOwn2 Γ.Copy s (copyD Γ a) (copyD Γ b) μ R = s [copyD Γ a, copyD Γ b] μ R := propext ⟨fun h => h.2.2, fun h => ⟨rfl, rfl, h⟩⟩
theorem own1_c {Γ : CL} {μ : MH} {s : GN} {R : D → MH → Prop} {a : Cp} : gOwn1 Γ.Copy s (copyD Γ a) μ R = s [copyD Γ a] μ R := propext ⟨fun h => h.2, fun h => ⟨rfl, h⟩⟩
theorem res_num {μ : MH} {z : Num} : res μ (numD z) = numD z := rfl
theorem pure_num {n : Nat} {z : Num} : pureN (n + 1) (numD z) = true := by cases n <;> rfl
theorem gEq_n {a b : Num} {μ : MH} {R : D → MH → Prop} : gEq (numD a) (numD b) μ R = R (.bl (decide (a = b))) μ := by
  unfold gEq
  rw [res_num, res_num, deq_num]
  exact propext ⟨fun h => h.2.2, fun h => ⟨rfl, rfl, h⟩⟩
theorem gNe_n {a b : Num} {μ : MH} {R : D → MH → Prop} : gNe (numD a) (numD b) μ R = R (.bl (!decide (a = b))) μ := by
  unfold gNe
  rw [res_num, res_num, deq_num]
  exact propext ⟨fun h => h.2.2, fun h => ⟨rfl, rfl, h⟩⟩
theorem gNe_ii {a b c d : Int} {μ : MH} {R : D → MH → Prop} : gNe (.tup [.int a, .int b]) (.tup [.int c, .int d]) μ R = R (.bl (!(a == c && b == d))) μ := by
  unfold gNe
  refine propext ⟨fun h => ?_, fun h => ⟨rfl, rfl, ?_⟩⟩
  · have := h.2.2
    simpa [res, deq_tt, deq_t0, deq_int] using this
  · simpa [res, deq_tt, deq_t0, deq_int] using h
theorem cONE : c_ONE = numD one := rfl
theorem cZERO : c_ZERO = numD zero := rfl
section
variable {Γ : CL} {μ : MH} {Q : D → MH → Prop} {a b : Num}
theorem mul_n (ha : Can a) (hb : Can b) (sa : Sz half a) (sb : Sz half b) (q : Q (numD (mul a b)) μ) : sp_multiplied Γ [numD a, numD b] μ Q := ⟨ne_d ha, ne_d hb, sa, sb, q⟩
theorem add_n (ha : Can a) (hb : Can b) (sa : Sz half a) (sb : Sz half b) (q : Q (numD (add a b)) μ) : sp_added Γ [numD a, numD b] μ Q := ⟨ne_d ha, ne_d hb, sa, sb, q⟩
theorem less_n (ha : Can a) (hb : Can b) (sa : Sz half a) (sb : Sz half b) (q : Q (numD (sub a b)) μ) : sp_less Γ [numD a, numD b] μ Q := ⟨ne_d ha, ne_d hb, sa, sb, q⟩
theorem ovr_n (q : Q (numD (ovr a)) μ) : sp_turned_over Γ [numD a] μ Q := q
theorem inv_n (ha : NZ a) (sa : Sz half a) (q : Q (numD (NM.inv a)) μ) : sp_inverse Γ [numD a] μ Q := ⟨ha, sa, q⟩
theorem size_n (ha : Can a) (sa : Sz half a) (q : Q (.tup [.int (szN a).x, .int (szN a).d]) μ) : sp_size Γ [numD a] μ Q := ⟨ne_d ha, sa, by rw [show (⟨a.x, a.y, a.d⟩ : Num) = a from rfl, sizeD_eq (ne_d ha)]; exact q⟩
end
theorem one_sz : Sz 1 one := Sz.one
theorem Cp.inv_sz' {c : Cp} {n : Nat} (h : c.sz n) (m : Nat) (l : n ≤ m) : c.sz m := h.mono l
local macro_rules | `(tactic| walk_at "k") => `(tactic| (try (simp only [rSeq, rAsg, rRet, rRetN, rDrop, rIf, rNext, rPar, rPar3, rCons, rNil, rStar, rCl, rOp, rUn, rVar, rC, rGN, rTup, rLst, rB, rAnd, rOr, rNot, rIfE, rAndV, rOrV, rNotV, rNever, rFld, rOwn, rMeth, rMakeK, rMakeD, rFldS, rFrz, rSetIx, rMut, rILst, rITup, rIRng1, rIRng2, rFor, rLc, rLcM, rTrue, gt, st, gI, gI0, gU, gIx, gEq_n, gNe_n, gNe_ii, cONE, cZERO, gAdd, gSub, gMul, gDiv, gMod, gPow, gLt, gLe, gGt, gGe, gIsi, gAbs, gLen, gAll, gIsN, gNotN, gOwn1, gOwn2, isNonD, seqD, res, atI_0, atI_1, atI_2, atI_3, atI_4, List.getElem?_cons_zero, List.getElem?_cons_succ, List.length_cons, List.length_nil, decide_eq_true_eq, List.map_cons, List.map_nil, startD, List.cons_append, List.nil_append, List.replicate, Nat.zero_add, if_true, if_false, Bool.false_eq_true, and_self, true_and, ite_true, ite_false, Nat.reduceAdd, Nat.reduceSub, ln, Nat.reduceLeDiff, fin, String.reduceBEq, Bool.not_true, Bool.not_false, pureN, deq_int, deq_tt, deq_t0, deq_bl, List.all_cons, List.all_nil, Bool.and_true, Bool.true_and, Bool.and_eq_true, List.append_nil, lk_turn, lk_shift, lk_mirrored, lk_key, insD_copy, updM_same, updM_updM, Option.map_some, Option.map_none])))
theorem vc_kept (Γ : CL) : ∀ ds μ R, sp_kept Γ ds μ R → rd_kept Γ (fin R) (startD 5 ds) μ := by
  rintro ds μ R ⟨c, rfl, kc, sc, h⟩
  unfold rd_kept
  have kt := kc.1
  have ks := kc.2.2
  have st1 : Sz half c.t := sc.1.mono (by decide)
  have ss1 : Sz half c.s := sc.2.mono (by decide)
  walk_at "k"
  unfold keptK at h
  cases hm : c.m with
  | false =>
    rw [hm, if_neg (by simp)] at h
    walk_at "k"
    by_cases e1 : c.t = one
    · rw [if_pos e1] at h
      refine ite_yes e1 ?_
      by_cases e2 : c.s = zero
      · rw [if_pos e2] at h
        exact ite_yes e2 h
      · rw [if_neg e2] at h
        exact ite_no e2 h
    · rw [if_neg e1] at h
      refine ite_no e1 ?_
      have k1 := can_sub can_one kt
      have s1 : Sz 402 (sub one c.t) := (Sz.add can_one (can_opp kt) Sz.one sc.1.opp).mono (by decide)
      refine less_n can_one kt (Sz.one.mono (by decide)) st1 ?_
      refine inv_n (NZ_sub kc e1) (s1.mono (by decide)) ?_
      exact mul_n ks (can_inv (NZ_sub kc e1)) ss1 ((Sz.inv (NZ_sub kc e1) s1).mono (by decide)) h
  | true =>
    rw [hm, if_pos rfl] at h
    walk_at "k"
    refine ovr_n ?_
    have kb := can_both kc
    have sb : Sz 1202 (bothOf c) := (Sz.add (can_mul kt (can_ovr ks)) ks (Sz.mul kt (can_ovr ks) sc.1 sc.2.ovr) sc.2).mono (by decide)
    refine mul_n kt (can_ovr ks) st1 ss1.ovr ?_
    refine add_n (can_mul kt (can_ovr ks)) ks ((Sz.mul kt (can_ovr ks) sc.1 sc.2.ovr).mono (by decide)) ss1 ?_
    refine size_n kt st1 ?_
    have kz := can_szN (ne_d kt)
    have sz := sz_szN kt sc.1
    walk_at "k"
    by_cases e1 : (szN c.t).x = 1 ∧ (szN c.t).d = 1
    · rw [if_pos e1] at h
      refine ite_no (by simp [e1]) ?_
      show (if (!decide (bothOf c = zero)) = true then _ else _)
      by_cases e2 : bothOf c = zero
      · rw [if_pos e2] at h
        refine ite_no (by simp [e2]) ?_
        obtain ⟨nw, kw⟩ := NZ_way kc
        have fin' : ∀ w : Num, wayOf c = w → Sz 402 w → sp_multiplied Γ [numD c.s, D.tup [D.int 1, D.int 0, D.int 2]] μ (fun d μ1 => sp_line_of Γ [d, numD w] μ1 fun d μ1 => match seqD (res μ1 d) with | some xs => xs.length + 1 ≤ sizeLine ∧ R (.tup (.str "line" :: xs)) μ1 | none => False) := by
          intro w ew sw
          subst ew
          refine mul_n (b := hlf) ks can_hlf ss1 (Sz.mono (n := 2) (by unfold Sz Bt; decide) (by decide)) ?_
          refine ⟨_, _, rfl, ne_d (can_mul ks can_hlf), nw, (Sz.mul (n := 400) (m := 2) ks can_hlf sc.2 (by unfold Sz Bt; decide)).mono (by decide), sw.mono (by decide), ?_⟩
          exact ⟨by show 4 ≤ 2 ^ 24; decide, h⟩
        show gNe (numD c.t) (numD neg1) μ _
        rw [gNe_n]
        by_cases e3 : c.t = neg1
        · have ew : wayOf c = img := by unfold wayOf; rw [if_pos e3]
          refine ite_no (by simp [e3]) ?_
          exact fin' img ew (Sz.mono (n := 2) (by unfold Sz Bt; decide) (by decide))
        · have ew : wayOf c = add one c.t := by unfold wayOf; rw [if_neg e3]
          refine ite_yes (by simp [e3]) ?_
          refine add_n can_one kt (Sz.one.mono (by decide)) st1 ?_
          exact fin' _ ew ((Sz.add can_one kt Sz.one sc.1).mono (by decide))
      · rw [if_neg e2] at h
        exact ite_yes (by simp [e2]) h
    · rw [if_neg e1] at h
      refine ite_yes (by simp; omega) ?_
      have nr : ¬ (re c.t * re c.t + im c.t * im c.t = 1) := fun q => e1 ((szN_one kt).mpr q)
      have b1 : Bt 802 ((szN c.t).d - (szN c.t).x) := (sz.2.2.sub sz.1).mono (by decide)
      have b2 : Bt 802 (szN c.t).d := sz.2.2.mono (by decide)
      have sr : Sz 802 (restOf c) := low_sz (ne_d kz) b1 (by unfold Bt; exact Nat.two_pow_pos _) b2
      have ne := NZ_rest kc nr
      refine ⟨ne_d kz, b1.mono (by decide), by unfold Bt; exact Nat.two_pow_pos _, b2.mono (by decide), ?_⟩
      show sp_inverse Γ [numD (restOf c)] μ _
      refine inv_n ne (sr.mono (by decide)) ?_
      refine mul_n kb (can_inv ne) (sb.mono (by decide)) ((Sz.inv ne sr).mono (by decide)) h
theorem vc_meeting (Γ : CL) : ∀ ds μ R, sp_meeting Γ ds μ R → rd_meeting Γ (fin R) (startD 2 ds) μ := by
  rintro ds μ R ⟨a, b, rfl, ka, kb, sa, sb, h⟩
  unfold rd_meeting
  walk_at "k"
  refine ⟨b, rfl, kb, sb.mono (by decide), rfl, ?_⟩
  refine ⟨a, b.inv, rfl, ka, Cp.inv_ok kb, sa.mono (by decide), (Cp.inv_sz kb sb).mono (by decide), ?_⟩
  exact ⟨_, rfl, Cp.comp_ok ka (Cp.inv_ok kb), (Cp.comp_sz ka (Cp.inv_ok kb) sa (Cp.inv_sz kb sb)).mono (by decide), h⟩
end L3

/-! ## LW -/
set_option Elab.async false
set_option linter.all false
set_option maxRecDepth 100000
set_option maxHeartbeats 4000000
namespace L3
open PySem NM L2
theorem rG_nil {ρ : EV} {μ : MH} {Q : EV → MH → Prop} : rGNil [] ρ μ Q = Q ρ μ := propext ⟨fun h => h.2, fun h => ⟨rfl, h⟩⟩
theorem rG_cons {g : RG} {gs : RGs} {d : D} {r : List D} {ρ : EV} {μ : MH} {Q : EV → MH → Prop} : rGCons g gs (d :: r) ρ μ Q = g d ρ μ fun ρ1 μ1 => gs r ρ1 μ1 Q := rfl
theorem rGLst_i {n : Nat} {g : RGs} {ds : List D} {ρ : EV} {μ : MH} {Q : EV → MH → Prop} : rGLst n g (.lst ds) ρ μ Q = (ds.length = n ∧ g ds ρ μ Q) := rfl
local macro_rules | `(tactic| walk_at "d") => `(tactic| (try (simp only [rSeq, rAsg, rRet, rRetN, rDrop, rIf, rNext, rPar, rPar3, rCons, rNil, rStar, rCl, rOp, rUn, rVar, rC, rGN, rTup, rLst, rB, rAnd, rOr, rNot, rIfE, rAndV, rOrV, rNotV, rNever, rFld, rOwn, rMeth, rMakeK, rMakeD, rFldS, rFrz, rSetIx, rMut, rILst, rITup, rIRng1, rIRng2, rFor, rLc, rLcM, rTrue, gt, st, gI, gI0, gU, gIx, gEq, gNe, gAdd, gSub, gMul, gDiv, gMod, gPow, gLt, gLe, gGt, gGe, gIsi, gAbs, gLen, gAll, gIsN, gNotN, isNonD, seqD, res, atI_0, atI_1, atI_2, atI_3, atI_4, List.getElem?_cons_zero, List.getElem?_cons_succ, List.length_cons, List.length_nil, decide_eq_true_eq, List.map_cons, List.map_nil, startD, List.cons_append, List.nil_append, List.replicate, Nat.zero_add, numD, if_true, if_false, Bool.false_eq_true, and_self, true_and, ite_true, ite_false, Nat.reduceAdd, Nat.reduceSub, ln, Nat.reduceLeDiff, fin, String.reduceBEq, Bool.not_true, Bool.not_false, pureN, deq_int, deq_tt, deq_t0, deq_bl, List.all_cons, List.all_nil, Bool.and_true, Bool.true_and, Bool.and_eq_true, List.append_nil, lk_turn, lk_shift, lk_mirrored, lk_key, insD_copy, own2_c, own1_c, rG_nil, rG_cons, rGLst_i, updM_same, updM_updM, Option.map_some, Option.map_none])))

/-! ### rules that leave numbers folded -/
section
variable {μ : MH} {R : D → MH → Prop} {z w : Num} {c e : Cp} {i j : Int} {b b' : Bool} {ds es : List D} {p : Addr} {m : Nat}
theorem gIx_n0 : gIx (numD z) (.int 0) μ R = R (.int z.x) μ := rfl
theorem gIx_n1 : gIx (numD z) (.int 1) μ R = R (.int z.y) μ := rfl
theorem gIx_n2 : gIx (numD z) (.int 2) μ R = R (.int z.d) μ := rfl
theorem gIx_o0 : gIx (toldD c) (.int 0) μ R = R (numD c.t) μ := rfl
theorem gIx_o1 : gIx (toldD c) (.int 1) μ R = R (numD c.s) μ := rfl
theorem gIx_o2 : gIx (toldD c) (.int 2) μ R = R (.bl c.m) μ := rfl
theorem gIx_t : gIx (.tup ds) (.int i) μ R = (match atI ds i with | some d => R d μ | none => False) := rfl
theorem gIx_l : gIx (.lst ds) (.int i) μ R = (match atI ds i with | some d => R d μ | none => False) := rfl
theorem gIx_r : gIx (.ref p) (.int i) μ R = (match seqD (res μ (.ref p)) with | some ds => (match atI ds i with | some d => R d μ | none => False) | none => False) := rfl
theorem gEq_i : gEq (.int i) (.int j) μ R = R (.bl (i == j)) μ := propext ⟨fun h => h.2.2, fun h => ⟨rfl, rfl, h⟩⟩
theorem gNe_i : gNe (.int i) (.int j) μ R = R (.bl (!(i == j))) μ := propext ⟨fun h => h.2.2, fun h => ⟨rfl, rfl, h⟩⟩
theorem gEq_b : gEq (.bl b) (.bl b') μ R = R (.bl (b == b')) μ := propext ⟨fun h => h.2.2, fun h => ⟨rfl, rfl, h⟩⟩
theorem gNe_b : gNe (.bl b) (.bl b') μ R = R (.bl (!(b == b'))) μ := propext ⟨fun h => h.2.2, fun h => ⟨rfl, rfl, h⟩⟩
theorem deq_told : deq (toldD c) (toldD e) = decide (c = e) := by
  unfold toldD
  rw [deq_num', deq_num', deq_tt, deq_t0, deq_bl, Bool.and_true]
  obtain ⟨t, s, m⟩ := c
  obtain ⟨t', s', m'⟩ := e
  by_cases h1 : t = t' <;> by_cases h2 : s = s' <;> by_cases h3 : m = m' <;> simp [h1, h2, h3]
theorem gEq_o : gEq (toldD c) (toldD e) μ R = R (.bl (decide (c = e))) μ := by
  unfold gEq
  rw [show res μ (toldD c) = toldD c from rfl, show res μ (toldD e) = toldD e from rfl, deq_told]
  exact propext ⟨fun h => h.2.2, fun h => ⟨rfl, rfl, h⟩⟩
theorem gEq_t : gEq (.tup ds) (.tup es) μ R = (pureN 20 (.tup ds) = true ∧ pureN 20 (.tup es) = true ∧ R (.bl (deq (.tup ds) (.tup es))) μ) := rfl
theorem gNe_t : gNe (.tup ds) (.tup es) μ R = (pureN 20 (.tup ds) = true ∧ pureN 20 (.tup es) = true ∧ R (.bl (!deq (.tup ds) (.tup es))) μ) := rfl
theorem gEq_all_all : gEq (.str "all") (.str "all") μ R = R (.bl true) μ := propext ⟨fun h => h.2.2, fun h => ⟨(by decide +kernel : pureN 20 (.str "all") = true), (by decide +kernel : pureN 20 (.str "all") = true), h⟩⟩
theorem gNe_all_all : gNe (.str "all") (.str "all") μ R = R (.bl false) μ := propext ⟨fun h => h.2.2, fun h => ⟨(by decide +kernel : pureN 20 (.str "all") = true), (by decide +kernel : pureN 20 (.str "all") = true), h⟩⟩
theorem gEq_all_none : gEq (.str "all") (.str "none") μ R = R (.bl false) μ := propext ⟨fun h => h.2.2, fun h => ⟨(by decide +kernel : pureN 20 (.str "all") = true), (by decide +kernel : pureN 20 (.str "none") = true), h⟩⟩
theorem gNe_all_none : gNe (.str "all") (.str "none") μ R = R (.bl true) μ := propext ⟨fun h => h.2.2, fun h => ⟨(by decide +kernel : pureN 20 (.str "all") = true), (by decide +kernel : pureN 20 (.str "none") = true), h⟩⟩
theorem gEq_all_spot : gEq (.str "all") (.str "spot") μ R = R (.bl false) μ := propext ⟨fun h => h.2.2, fun h => ⟨(by decide +kernel : pureN 20 (.str "all") = true), (by decide +kernel : pureN 20 (.str "spot") = true), h⟩⟩
theorem gNe_all_spot : gNe (.str "all") (.str "spot") μ R = R (.bl true) μ := propext ⟨fun h => h.2.2, fun h => ⟨(by decide +kernel : pureN 20 (.str "all") = true), (by decide +kernel : pureN 20 (.str "spot") = true), h⟩⟩
theorem gEq_all_line : gEq (.str "all") (.str "line") μ R = R (.bl false) μ := propext ⟨fun h => h.2.2, fun h => ⟨(by decide +kernel : pureN 20 (.str "all") = true), (by decide +kernel : pureN 20 (.str "line") = true), h⟩⟩
theorem gNe_all_line : gNe (.str "all") (.str "line") μ R = R (.bl true) μ := propext ⟨fun h => h.2.2, fun h => ⟨(by decide +kernel : pureN 20 (.str "all") = true), (by decide +kernel : pureN 20 (.str "line") = true), h⟩⟩
theorem gEq_none_all : gEq (.str "none") (.str "all") μ R = R (.bl false) μ := propext ⟨fun h => h.2.2, fun h => ⟨(by decide +kernel : pureN 20 (.str "none") = true), (by decide +kernel : pureN 20 (.str "all") = true), h⟩⟩
theorem gNe_none_all : gNe (.str "none") (.str "all") μ R = R (.bl true) μ := propext ⟨fun h => h.2.2, fun h => ⟨(by decide +kernel : pureN 20 (.str "none") = true), (by decide +kernel : pureN 20 (.str "all") = true), h⟩⟩
theorem gEq_none_none : gEq (.str "none") (.str "none") μ R = R (.bl true) μ := propext ⟨fun h => h.2.2, fun h => ⟨(by decide +kernel : pureN 20 (.str "none") = true), (by decide +kernel : pureN 20 (.str "none") = true), h⟩⟩
theorem gNe_none_none : gNe (.str "none") (.str "none") μ R = R (.bl false) μ := propext ⟨fun h => h.2.2, fun h => ⟨(by decide +kernel : pureN 20 (.str "none") = true), (by decide +kernel : pureN 20 (.str "none") = true), h⟩⟩
theorem gEq_none_spot : gEq (.str "none") (.str "spot") μ R = R (.bl false) μ := propext ⟨fun h => h.2.2, fun h => ⟨(by decide +kernel : pureN 20 (.str "none") = true), (by decide +kernel : pureN 20 (.str "spot") = true), h⟩⟩
theorem gNe_none_spot : gNe (.str "none") (.str "spot") μ R = R (.bl true) μ := propext ⟨fun h => h.2.2, fun h => ⟨(by decide +kernel : pureN 20 (.str "none") = true), (by decide +kernel : pureN 20 (.str "spot") = true), h⟩⟩
theorem gEq_none_line : gEq (.str "none") (.str "line") μ R = R (.bl false) μ := propext ⟨fun h => h.2.2, fun h => ⟨(by decide +kernel : pureN 20 (.str "none") = true), (by decide +kernel : pureN 20 (.str "line") = true), h⟩⟩
theorem gNe_none_line : gNe (.str "none") (.str "line") μ R = R (.bl true) μ := propext ⟨fun h => h.2.2, fun h => ⟨(by decide +kernel : pureN 20 (.str "none") = true), (by decide +kernel : pureN 20 (.str "line") = true), h⟩⟩
theorem gEq_spot_all : gEq (.str "spot") (.str "all") μ R = R (.bl false) μ := propext ⟨fun h => h.2.2, fun h => ⟨(by decide +kernel : pureN 20 (.str "spot") = true), (by decide +kernel : pureN 20 (.str "all") = true), h⟩⟩
theorem gNe_spot_all : gNe (.str "spot") (.str "all") μ R = R (.bl true) μ := propext ⟨fun h => h.2.2, fun h => ⟨(by decide +kernel : pureN 20 (.str "spot") = true), (by decide +kernel : pureN 20 (.str "all") = true), h⟩⟩
theorem gEq_spot_none : gEq (.str "spot") (.str "none") μ R = R (.bl false) μ := propext ⟨fun h => h.2.2, fun h => ⟨(by decide +kernel : pureN 20 (.str "spot") = true), (by decide +kernel : pureN 20 (.str "none") = true), h⟩⟩
theorem gNe_spot_none : gNe (.str "spot") (.str "none") μ R = R (.bl true) μ := propext ⟨fun h => h.2.2, fun h => ⟨(by decide +kernel : pureN 20 (.str "spot") = true), (by decide +kernel : pureN 20 (.str "none") = true), h⟩⟩
theorem gEq_spot_spot : gEq (.str "spot") (.str "spot") μ R = R (.bl true) μ := propext ⟨fun h => h.2.2, fun h => ⟨(by decide +kernel : pureN 20 (.str "spot") = true), (by decide +kernel : pureN 20 (.str "spot") = true), h⟩⟩
theorem gNe_spot_spot : gNe (.str "spot") (.str "spot") μ R = R (.bl false) μ := propext ⟨fun h => h.2.2, fun h => ⟨(by decide +kernel : pureN 20 (.str "spot") = true), (by decide +kernel : pureN 20 (.str "spot") = true), h⟩⟩
theorem gEq_spot_line : gEq (.str "spot") (.str "line") μ R = R (.bl false) μ := propext ⟨fun h => h.2.2, fun h => ⟨(by decide +kernel : pureN 20 (.str "spot") = true), (by decide +kernel : pureN 20 (.str "line") = true), h⟩⟩
theorem gNe_spot_line : gNe (.str "spot") (.str "line") μ R = R (.bl true) μ := propext ⟨fun h => h.2.2, fun h => ⟨(by decide +kernel : pureN 20 (.str "spot") = true), (by decide +kernel : pureN 20 (.str "line") = true), h⟩⟩
theorem gEq_line_all : gEq (.str "line") (.str "all") μ R = R (.bl false) μ := propext ⟨fun h => h.2.2, fun h => ⟨(by decide +kernel : pureN 20 (.str "line") = true), (by decide +kernel : pureN 20 (.str "all") = true), h⟩⟩
theorem gNe_line_all : gNe (.str "line") (.str "all") μ R = R (.bl true) μ := propext ⟨fun h => h.2.2, fun h => ⟨(by decide +kernel : pureN 20 (.str "line") = true), (by decide +kernel : pureN 20 (.str "all") = true), h⟩⟩
theorem gEq_line_none : gEq (.str "line") (.str "none") μ R = R (.bl false) μ := propext ⟨fun h => h.2.2, fun h => ⟨(by decide +kernel : pureN 20 (.str "line") = true), (by decide +kernel : pureN 20 (.str "none") = true), h⟩⟩
theorem gNe_line_none : gNe (.str "line") (.str "none") μ R = R (.bl true) μ := propext ⟨fun h => h.2.2, fun h => ⟨(by decide +kernel : pureN 20 (.str "line") = true), (by decide +kernel : pureN 20 (.str "none") = true), h⟩⟩
theorem gEq_line_spot : gEq (.str "line") (.str "spot") μ R = R (.bl false) μ := propext ⟨fun h => h.2.2, fun h => ⟨(by decide +kernel : pureN 20 (.str "line") = true), (by decide +kernel : pureN 20 (.str "spot") = true), h⟩⟩
theorem gNe_line_spot : gNe (.str "line") (.str "spot") μ R = R (.bl true) μ := propext ⟨fun h => h.2.2, fun h => ⟨(by decide +kernel : pureN 20 (.str "line") = true), (by decide +kernel : pureN 20 (.str "spot") = true), h⟩⟩
theorem gEq_line_line : gEq (.str "line") (.str "line") μ R = R (.bl true) μ := propext ⟨fun h => h.2.2, fun h => ⟨(by decide +kernel : pureN 20 (.str "line") = true), (by decide +kernel : pureN 20 (.str "line") = true), h⟩⟩
theorem gNe_line_line : gNe (.str "line") (.str "line") μ R = R (.bl false) μ := propext ⟨fun h => h.2.2, fun h => ⟨(by decide +kernel : pureN 20 (.str "line") = true), (by decide +kernel : pureN 20 (.str "line") = true), h⟩⟩
end
/-- one statement at a time: the rest stays folded -/
theorem seq_g {f g : RS} {D : Ed} {ρ : EV} {μ : MH} (h : ∀ N : EV → MH → Prop, (∀ ρ1 μ1, g D ρ1 μ1 → N ρ1 μ1) → f { D with nx := N } ρ μ) : rSeq f g D ρ μ := h _ fun _ _ q => q
theorem Cp.small.ok {c : Cp} (h : c.small) : c.ok := ⟨h.1.1, h.2.1, h.2.2.1⟩
theorem Cp.small.sz {c : Cp} (h : c.small) : c.sz 5 := ⟨h.1.2, h.2.2.2⟩
section
variable {Γ : CL} {μ : MH} {Q : D → MH → Prop} {a b c : Cp} {z : Num}
theorem copy_i (h : c.ok) (s : c.sz big) (q : Q (copyD Γ c) μ) : sp_law_copy Γ [toldD c] μ Q := ⟨c, rfl, h, s, q⟩
theorem rsh_i (ha : a.ok) (hb : b.ok) (sa : a.sz quart) (sb : b.sz quart) (q : Q (copyD Γ (a.comp b)) μ) : sp_Copy___rshift Γ [copyD Γ a, copyD Γ b] μ Q := ⟨a, b, rfl, ha, hb, sa, sb, q⟩
theorem inv_i (ha : a.ok) (sa : a.sz 400) (q : Q (copyD Γ a.inv) μ) : sp_Copy___invert Γ [copyD Γ a] μ Q := ⟨a, rfl, ha, sa, q⟩
theorem call_i (ha : a.ok) (sa : a.sz quart) (hz : Can z) (sz : Sz quart z) (q : Q (numD (a.at z)) μ) : sp_Copy___call Γ [copyD Γ a, numD z] μ Q := ⟨a, z, rfl, ha, sa, hz, sz, q⟩
theorem lcar_i (ha : a.ok) (sa : a.sz quart) (hz : Can z) (sz : Sz quart z) (q : Q (numD (a.at z)) μ) : sp_law_carried Γ [toldD a, numD z] μ Q := ⟨a, z, rfl, ha, sa, hz, sz, q⟩
theorem times_i {z w : Num} (ha : Can z) (hb : Can w) (sa : Sz half z) (sb : Sz half w) (q : Q (numD (mul z w)) μ) : sp_law_times Γ [numD z, numD w] μ Q := ⟨ne_d ha, ne_d hb, sa, sb, q⟩
theorem plus_i {z w : Num} (ha : Can z) (hb : Can w) (sa : Sz half z) (sb : Sz half w) (q : Q (numD (add z w)) μ) : sp_law_plus Γ [numD z, numD w] μ Q := ⟨ne_d ha, ne_d hb, sa, sb, q⟩
theorem minus_i {z w : Num} (ha : Can z) (hb : Can w) (sa : Sz half z) (sb : Sz half w) (q : Q (numD (sub z w)) μ) : sp_law_minus Γ [numD z, numD w] μ Q := ⟨ne_d ha, ne_d hb, sa, sb, q⟩
theorem over_i {z : Num} (q : Q (numD (ovr z)) μ) : sp_law_over Γ [numD z] μ Q := q
theorem grow_i (ha : a.ok) (sa : a.sz half) (q : Q (.tup [.int (szN a.t).x, .int (szN a.t).d]) μ) : sp_Copy_growth Γ [copyD Γ a] μ Q := ⟨a, rfl, ne_d ha.1, sa.1, by rw [sizeD_eq (ne_d ha.1)]; exact q⟩
theorem eq_i (q : Q (.bl (decide (a = b))) μ) : sp_Copy___eq Γ [copyD Γ a, copyD Γ b] μ Q := ⟨a, b, rfl, by
  have : (decide (a.t = b.t) && (decide (a.s = b.s) && (a.m == b.m))) = decide (a = b) := by
    obtain ⟨t, s, m⟩ := a
    obtain ⟨t', s', m'⟩ := b
    by_cases h1 : t = t' <;> by_cases h2 : s = s' <;> by_cases h3 : m = m' <;> simp [h1, h2, h3]
  rw [this]
  exact q⟩
theorem eq2_i (h : a = b) (q : Q (.bl true) μ) : gOwn2 Γ.Copy (sp_Copy___eq Γ) (copyD Γ a) (copyD Γ b) μ Q := by
  rw [own2_c]
  refine eq_i ?_
  rw [decide_eq_true h]
  exact q
end
theorem lcD_mapG {α : Type} {i : Nat} {f : RX} {ρ : EV} {R : List D → MH → Prop} {μ : MH} (xs : List α) (p g : α → D) (hf : ∀ x ∈ xs, ∀ Q : D → MH → Prop, Q (g x) μ → f (st ρ i (p x)) μ Q) {acc : List D} (h : R (acc ++ xs.map g) μ) : lcD (rGN i) rTrue f tru ρ (xs.map p) acc μ R := by
  induction xs generalizing acc with
  | nil =>
    rw [List.map_nil, List.append_nil] at h
    exact ⟨trivial, h⟩
  | cons x r ih =>
    refine ⟨trivial, ?_⟩
    simp only [rGN, rTrue, if_true]
    refine hf x (List.mem_cons_self ..) _ (ih (fun y hy => hf y (List.mem_cons_of_mem _ hy)) ?_)
    rw [List.append_assoc]
    exact h
mutual
theorem same_self : ∀ {n : Nat} (d : D), okq n d = true → same d d = true
  | n, .non, _ => rfl
  | n, .bl b, _ => by unfold same; exact beq_self_eq_true b
  | n, .int b, _ => by unfold same; exact beq_self_eq_true b
  | n, .str b, _ => by unfold same; exact beq_self_eq_true b
  | n + 1, .tup ds, h => by
    unfold same
    simp only [okq, Bool.and_eq_true] at h
    exact sames_self ds h.2
  | n + 1, .lst ds, h => by
    unfold same
    simp only [okq, Bool.and_eq_true] at h
    exact sames_self ds h.2
  | 0, .tup _, h => by cases h
  | 0, .lst _, h => by cases h
  | 0, .ref _, h => by cases h
  | 0, .ins _ _, h => by cases h
  | 0, .ty _, h => by cases h
  | 0, .scr _, h => by cases h
  | n + 1, .ref _, h => by cases h
  | n + 1, .ins _ _, h => by cases h
  | n + 1, .ty _, h => by cases h
  | n + 1, .scr _, h => by cases h
theorem sames_self : ∀ {n : Nat} (ds : List D), ds.all (okq n) = true → sames ds ds = true
  | _, [], _ => by unfold sames; rfl
  | n, d :: r, h => by
    unfold sames
    rw [List.all_cons, Bool.and_eq_true] at h
    rw [same_self d h.1, sames_self r h.2]
    rfl
end
theorem equal_i {Γ : CL} {n : Nat} {a e : D} {μ : MH} {Q : D → MH → Prop} (h : a = e) (ha : okq n a = true) (q : Q (.bl true) μ) : sp_law_equal Γ (n + 1) [a, e] μ Q := by
  subst h
  refine ⟨ha, ha, ?_⟩
  rw [same_self a ha]
  exact q
theorem okq_num {z : Num} : okq 4 (numD z) = true := rfl
/-! ### sizes of what is kept -/
theorem lineOf_sz {n : Nat} {a b c : Int} (h : a ≠ 0 ∨ b ≠ 0) (ha : Bt n a) (hb : Bt n b) (hc : Bt n c) : Bt n (lineOf a b c).1 ∧ Bt n (lineOf a b c).2.1 ∧ Bt n (lineOf a b c).2.2 := by
  have z0 : Bt n 0 := by unfold Bt; exact Nat.two_pow_pos _
  unfold lineOf
  by_cases h0 : a = 0
  · rw [if_neg (by simp [h0])]
    have := low_sz (show b ≠ 0 by simpa [h0] using h) hc z0 hb
    exact ⟨z0, this.2.2, this.1⟩
  · rw [if_pos h0]
    have := low_sz h0 hc hb ha
    exact ⟨this.2.2, this.2.1, this.1⟩
theorem NZ_ints {s w : Num} (hs : s.d ≠ 0) (nw : NZ w) : w.y * s.d ≠ 0 ∨ (0 - w.x * s.d) ≠ 0 := by
  by_cases hy : w.y = 0
  · right
    intro q
    have q2 : w.x * s.d = 0 := by omega
    rcases Int.mul_eq_zero.mp q2 with e | e
    · exact nw ⟨e, hy⟩
    · exact hs e
  · left
    exact Int.mul_ne_zero hy hs
theorem way_sz {c : Cp} {n : Nat} (h : c.ok) (s : c.sz n) : Sz (n + 2) (wayOf c) := by
  unfold wayOf
  by_cases e : c.t = neg1
  · rw [if_pos e]
    exact Sz.mono (n := 2) (by unfold Sz Bt; decide) (by omega)
  · rw [if_neg e]
    exact (Sz.add can_one h.1 Sz.one s.1).mono (by omega)
theorem kept_line {c : Cp} {n : Nat} {a b e : Int} (h : c.ok) (s : c.sz n) (q : keptK c = .line a b e) :
    (Bt (n + n + 6) a ∧ Bt (n + n + 6) b ∧ Bt (n + n + 6) e) ∧ (0 < a ∨ a = 0 ∧ 0 < b) ∧ gz (gz a b) e = 1 := by
  unfold keptK at q
  obtain ⟨nw, kw⟩ := NZ_way h
  have sw := way_sz h s
  have kh := can_mul h.2.2 can_hlf
  have sh : Sz (n + 3) (mul c.s hlf) := (Sz.mul (m := 2) h.2.2 can_hlf s.2 (by unfold Sz Bt; decide)).mono (by omega)
  have h0 := NZ_ints (ne_d kh) nw
  cases hm : c.m with
  | true =>
    rw [hm, if_pos rfl] at q
    by_cases e1 : (szN c.t).x = 1 ∧ (szN c.t).d = 1
    · rw [if_pos e1] at q
      by_cases e2 : bothOf c = zero
      · rw [if_pos e2] at q
        unfold lineK at q
        injection q with q1 q2 q3
        have z := lineOf_sz h0 ((sw.2.1.mul sh.2.2).mono (show _ ≤ n + n + 6 by omega)) ((sw.1.mul sh.2.2).neg.mono (show _ ≤ n + n + 6 by omega)) (((sw.2.1.mul sh.1).sub (sw.1.mul sh.2.1)).mono (show _ ≤ n + n + 6 by omega))
        have z2 := lineOf_norm (c := (wayOf c).y * (mul c.s hlf).x - (wayOf c).x * (mul c.s hlf).y) h0
        rw [q1, q2, q3] at z z2
        exact ⟨z, z2⟩
      · rw [if_neg e2] at q; cases q
    · rw [if_neg e1] at q; cases q
  | false =>
    rw [hm, if_neg (by simp)] at q
    by_cases e1 : c.t = one
    · rw [if_pos e1] at q
      by_cases e2 : c.s = zero
      · rw [if_pos e2] at q; cases q
      · rw [if_neg e2] at q; cases q
    · rw [if_neg e1] at q; cases q
theorem kept_spot {c : Cp} {n : Nat} {z : Num} (h : c.ok) (s : c.sz n) (q : keptK c = .spot z) : Can z ∧ Sz (n + n + n + n + n + n + n + 8) z := by
  unfold keptK at q
  cases hm : c.m with
  | true =>
    rw [hm, if_pos rfl] at q
    by_cases e1 : (szN c.t).x = 1 ∧ (szN c.t).d = 1
    · rw [if_pos e1] at q
      by_cases e2 : bothOf c = zero
      · rw [if_pos e2] at q; cases q
      · rw [if_neg e2] at q; cases q
    · rw [if_neg e1] at q
      injection q with q
      have nr : ¬ (re c.t * re c.t + im c.t * im c.t = 1) := fun q => e1 ((szN_one h.1).mpr q)
      have sz := sz_szN h.1 s.1
      have sb : Sz (n + n + n + 2) (bothOf c) := (Sz.add (can_mul h.1 (can_ovr h.2.2)) h.2.2 (Sz.mul h.1 (can_ovr h.2.2) s.1 s.2.ovr) s.2).mono (by omega)
      have sr : Sz (n + n + 2) (restOf c) := low_sz (ne_d (can_szN (ne_d h.1))) ((sz.2.2.sub sz.1).mono (by omega)) (by unfold Bt; exact Nat.two_pow_pos _) (sz.2.2.mono (by omega))
      have ne := NZ_rest h nr
      rw [← q]
      exact ⟨can_mul (can_both h) (can_inv ne), (Sz.mul (can_both h) (can_inv ne) sb (Sz.inv ne sr)).mono (by omega)⟩
  | false =>
    rw [hm, if_neg (by simp)] at q
    by_cases e1 : c.t = one
    · rw [if_pos e1] at q
      by_cases e2 : c.s = zero
      · rw [if_pos e2] at q; cases q
      · rw [if_neg e2] at q; cases q
    · rw [if_neg e1] at q
      injection q with q
      have ne := NZ_sub h e1
      have s1 : Sz (n + 2) (sub one c.t) := (Sz.add can_one (can_opp h.1) Sz.one s.1.opp).mono (by omega)
      rw [← q]
      exact ⟨can_mul h.2.2 (can_inv ne), (Sz.mul h.2.2 (can_inv ne) s.2 (Sz.inv ne s1)).mono (by omega)⟩
theorem kept_all {c : Cp} (h : c.ok) : keptK c = .all ↔ c = Cp.id := by
  constructor
  · intro q
    have f : ∀ {z : Num}, Can z → c.at z = z := fun hz => (kept_spec h hz).mp (by rw [q]; exact trivial)
    unfold keptK at q
    cases hm : c.m with
    | true =>
      rw [hm, if_pos rfl] at q
      by_cases e1 : (szN c.t).x = 1 ∧ (szN c.t).d = 1
      · rw [if_pos e1] at q
        by_cases e2 : bothOf c = zero
        · rw [if_pos e2] at q; cases q
        · rw [if_neg e2] at q; cases q
      · rw [if_neg e1] at q; cases q
    | false =>
      rw [hm, if_neg (by simp)] at q
      by_cases e1 : c.t = one
      · rw [if_pos e1] at q
        by_cases e2 : c.s = zero
        · exact Cp.ext' e1 e2 hm
        · rw [if_neg e2] at q; cases q
      · rw [if_neg e1] at q; cases q
  · intro q
    subst q
    decide
/-- a row of spots at random -/
theorem lc_spots {Γ : CL} {i j : Nat} {ρ : EV} {g : Addr} (hρ : ∀ d, gt (st ρ i d) j = some (.ref g)) {R : List D → MH → Prop} : ∀ (ds : List D) (acc : List Num) (μ : MH) (xs : List D), μ g = some (.lst xs) → RL xs →
    (∀ zs ys, zs.length = ds.length → (∀ z ∈ zs, Small z) → RL ys → R ((acc ++ zs).map numD) (updM μ g (.lst ys))) → lcD (rGN i) rTrue (rCl (sp_law_spot Γ) (rCons (rVar j) rNil)) tru ρ ds (acc.map numD) μ R
  | [], acc, μ, xs, hm, hx, h => by
    refine ⟨trivial, ?_⟩
    have := h [] xs rfl (by simp) hx
    rw [List.append_nil] at this
    have e : updM μ g (.lst xs) = μ := by
      funext b
      unfold updM
      by_cases q : b = g
      · rw [if_pos q, q, hm]
      · rw [if_neg q]
    rw [e] at this
    exact this
  | d :: ds, acc, μ, xs, hm, hx, h => by
    refine ⟨trivial, ?_⟩
    simp only [rGN, rTrue, if_true, rCl, rCons, rVar, rNil, hρ d]
    refine ⟨g, xs, rfl, hm, hx, fun z ys kz hy => ?_⟩
    have e : acc.map numD ++ [numD z] = (acc ++ [z]).map numD := by simp
    show lcD _ _ _ _ _ _ (acc.map numD ++ [numD z]) _ _
    rw [e]
    refine lc_spots hρ ds (acc ++ [z]) _ ys updM_same hy fun zs ys2 hl hz hy2 => ?_
    rw [updM_updM]
    have := h (z :: zs) ys2 (by simp [hl]) (by
      intro w hw
      rcases List.mem_cons.mp hw with rfl | hw
      · exact kz
      · exact hz w hw) hy2
    rw [List.append_assoc]
    exact this
end L3

/-! ## CM3 -/
set_option Elab.async false
set_option linter.all false
set_option maxHeartbeats 1000000
/-! What is kept is determined by the spots that are kept. -/
namespace L3
open NM L2
theorem lineOf_self {a b e : Int} (h : 0 < a ∨ a = 0 ∧ 0 < b) (g : gz (gz a b) e = 1) : lineOf a b e = (a, b, e) := by
  unfold lineOf
  by_cases ha : a = 0
  · subst ha
    have hb : 0 < b := by omega
    have k : Can ⟨e, 0, b⟩ := by
      refine ⟨hb, ?_⟩
      show gz (gz e 0) b = 1
      rw [gz_0, gz_comm]
      have : gz 0 b = b := by
        unfold gz
        rw [Int.gcd_comm, Int.gcd_zero_right]
        omega
      rw [this] at g
      exact g
    have q := low_self k
    rw [if_neg (by simp)]
    show ((0 : Int), (low e 0 b).d, (low e 0 b).x) = _
    simp only at q
    rw [q]
  · have hp : 0 < a := by omega
    have k : Can ⟨e, b, a⟩ := ⟨hp, by show gz (gz e b) a = 1; rw [← gz3_rev]; exact g⟩
    have q := low_self k
    rw [if_pos ha]
    simp only at q
    rw [q]
theorem line_uniq {a b e a' b' e' : Int} (h : 0 < a ∨ a = 0 ∧ 0 < b) (g : gz (gz a b) e = 1) (h' : 0 < a' ∨ a' = 0 ∧ 0 < b') (g' : gz (gz a' b') e' = 1) (e1 : a * b' = a' * b) (e2 : a * e' = a' * e) (e3 : b * e' = b' * e) : a = a' ∧ b = b' ∧ e = e' := by
  have q := lineOf_uniq (by omega) (by omega) e1 e2 e3
  rw [lineOf_self h g, lineOf_self h' g'] at q
  simpa using q
/-- two different spots on a line in lowest terms -/
def lineP (a b e : Int) : Num := low (a * e) (b * e) (a * a + b * b)
def lineQ (a b e : Int) : Num := low (a * e - b * (a * a + b * b)) (b * e + a * (a * a + b * b)) (a * a + b * b)
theorem ab_ne {a b : Int} (h : 0 < a ∨ a = 0 ∧ 0 < b) : a * a + b * b ≠ 0 := sq_ne (a := ⟨a, b, 1⟩) (by rintro ⟨h1, h2⟩; simp only at h1 h2; omega)
theorem on_low {p q r x y d : Int} (h : d ≠ 0) : keptOn (.line p q r) (low x y d) ↔ p * x + q * y = r * d := by
  obtain ⟨k, hk, e1, e2, e3, _⟩ := low_spec (x := x) (y := y) h
  show p * (low x y d).x + q * (low x y d).y = r * (low x y d).d ↔ _
  generalize low x y d = z at *
  rw [e1, e2, e3]
  constructor
  · intro q1
    have : k * (p * z.x + q * z.y) = k * (r * z.d) := by rw [q1]
    grind
  · intro q1
    have : k * (p * z.x + q * z.y) = k * (r * z.d) := by grind
    exact Int.eq_of_mul_eq_mul_left hk this
/-- lowest terms -/
def Kp.nf : Kp → Prop
  | .all => True
  | .none => True
  | .spot w => Can w
  | .line a b e => (0 < a ∨ a = 0 ∧ 0 < b) ∧ gz (gz a b) e = 1
theorem line_p {a b e : Int} (h : 0 < a ∨ a = 0 ∧ 0 < b) : keptOn (.line a b e) (lineP a b e) := (on_low (ab_ne h)).mpr (by grind)
theorem line_q {a b e : Int} (h : 0 < a ∨ a = 0 ∧ 0 < b) : keptOn (.line a b e) (lineQ a b e) := (on_low (ab_ne h)).mpr (by grind)
theorem line_pq {a b e : Int} (h : 0 < a ∨ a = 0 ∧ 0 < b) : lineP a b e ≠ lineQ a b e := fun q => by
  have n := ab_ne h
  have h1 : keptOn (.line (0 - b) a 0) (lineP a b e) := (on_low n).mpr (by grind)
  rw [q] at h1
  have h2 := (on_low n).mp h1
  have : (a * a + b * b) * (a * a + b * b) = 0 := by grind
  rcases Int.mul_eq_zero.mp this with z | z <;> exact n z
theorem can_p {a b e : Int} (h : 0 < a ∨ a = 0 ∧ 0 < b) : Can (lineP a b e) := low_can (ab_ne h)
theorem can_q {a b e : Int} (h : 0 < a ∨ a = 0 ∧ 0 < b) : Can (lineQ a b e) := low_can (ab_ne h)
theorem line_all {a b e : Int} (h : 0 < a ∨ a = 0 ∧ 0 < b) (q : ∀ z, Can z → keptOn (.line a b e) z) : False := by
  have h1 : a * 0 + b * 0 = e * 1 := q zero can_zero
  have h2 : a * 1 + b * 0 = e * 1 := q one can_one
  have h3 : a * 0 + b * 1 = e * 1 := q img can_img
  omega
theorem spot_all {w : Num} (q : ∀ z, Can z → keptOn (.spot w) z) : False := by
  have h1 : zero = w := q zero can_zero
  have h2 : one = w := q one can_one
  have : zero = one := h1.trans h2.symm
  exact absurd this (by decide)
theorem spot_line {w : Num} {a b e : Int} (h : 0 < a ∨ a = 0 ∧ 0 < b) (q : ∀ z, Can z → (keptOn (.spot w) z ↔ keptOn (.line a b e) z)) : False := by
  have h1 : lineP a b e = w := (q _ (can_p h)).mpr (line_p h)
  have h2 : lineQ a b e = w := (q _ (can_q h)).mpr (line_q h)
  exact line_pq h (h1.trans h2.symm)
theorem line_line {a b e a' b' e' : Int} (h : (0 < a ∨ a = 0 ∧ 0 < b) ∧ gz (gz a b) e = 1) (h' : (0 < a' ∨ a' = 0 ∧ 0 < b') ∧ gz (gz a' b') e' = 1) (q : ∀ z, Can z → (keptOn (.line a b e) z ↔ keptOn (.line a' b' e') z)) : a = a' ∧ b = b' ∧ e = e' := by
  have n := ab_ne h.1
  have h1 := (on_low n).mp ((q _ (can_p h.1)).mp (line_p h.1))
  have h2 := (on_low n).mp ((q _ (can_q h.1)).mp (line_q h.1))
  have e1 : a * b' = a' * b := by
    have : (a * b' - a' * b) * (a * a + b * b) = 0 := by grind
    rcases Int.mul_eq_zero.mp this with z | z
    · omega
    · exact absurd z n
  have e2 : a * e' = a' * e := by
    have : (a * e' - a' * e) * (a * a + b * b) = 0 := by grind
    rcases Int.mul_eq_zero.mp this with z | z
    · omega
    · exact absurd z n
  have e3 : b * e' = b' * e := by
    have : (b * e' - b' * e) * (a * a + b * b) = 0 := by grind
    rcases Int.mul_eq_zero.mp this with z | z
    · omega
    · exact absurd z n
  exact line_uniq h.1 h.2 h'.1 h'.2 e1 e2 e3
theorem Kp.uniq {K L : Kp} (hK : K.nf) (hL : L.nf) (q : ∀ z, Can z → (keptOn K z ↔ keptOn L z)) : K = L := by
  cases K with
  | all =>
    cases L with
    | all => rfl
    | none => exact False.elim ((q zero can_zero).mp trivial)
    | spot w => exact False.elim (spot_all fun z hz => (q z hz).mp trivial)
    | line a b e => exact False.elim (line_all hL.1 fun z hz => (q z hz).mp trivial)
  | none =>
    cases L with
    | all => exact False.elim ((q zero can_zero).mpr trivial)
    | none => rfl
    | spot w => exact False.elim ((q w hL).mpr rfl)
    | line a b e => exact False.elim ((q _ (can_p hL.1)).mpr (line_p hL.1))
  | spot w =>
    cases L with
    | all => exact False.elim (spot_all fun z hz => (q z hz).mpr trivial)
    | none => exact False.elim ((q w hK).mp rfl)
    | spot v => rw [show w = v from (q w hK).mp rfl]
    | line a b e => exact False.elim (spot_line hL.1 q)
  | line a b e =>
    cases L with
    | all => exact False.elim (line_all hK.1 fun z hz => (q z hz).mpr trivial)
    | none => exact False.elim ((q _ (can_p hK.1)).mp (line_p hK.1))
    | spot w => exact False.elim (spot_line hK.1 fun z hz => (q z hz).symm)
    | line a' b' e' =>
      obtain ⟨r1, r2, r3⟩ := line_line hK hL q
      rw [r1, r2, r3]
theorem kept_uniq {c c' : Cp} (h : c.ok) (h' : c'.ok) (n : (keptK c).nf) (n' : (keptK c').nf) (e : ∀ z, Can z → (c.at z = z ↔ c'.at z = z)) : keptK c = keptK c' :=
  Kp.uniq n n' fun z hz => by rw [kept_spec h hz, kept_spec h' hz, e z hz]
theorem Cp.some_sz (c : Cp) : ∃ n, c.sz n := by
  refine ⟨c.t.x.natAbs + c.t.y.natAbs + c.t.d.natAbs + (c.s.x.natAbs + c.s.y.natAbs + c.s.d.natAbs), ?_⟩
  have k : ∀ {a : Int} {n : Nat}, a.natAbs ≤ n → Bt n a := fun {a n} h => Nat.lt_of_le_of_lt h (Nat.lt_two_pow_self ..)
  exact ⟨⟨k (by omega), k (by omega), k (by omega)⟩, ⟨k (by omega), k (by omega), k (by omega)⟩⟩
theorem kept_nf {c : Cp} (h : c.ok) : (keptK c).nf := by
  obtain ⟨n, s⟩ := c.some_sz
  cases e : keptK c with
  | all => exact trivial
  | none => exact trivial
  | spot w => exact (kept_spot h s e).1
  | line p q r => exact (kept_line h s e).2
theorem kept_same {c c' : Cp} (h : c.ok) (h' : c'.ok) (e : ∀ z, Can z → (c.at z = z ↔ c'.at z = z)) : keptK c = keptK c' := kept_uniq h h' (kept_nf h) (kept_nf h') e
theorem kept_inv {c : Cp} (h : c.ok) : keptK c.inv = keptK c := by
  refine kept_same (Cp.inv_ok h) h fun z hz => ⟨fun q => ?_, fun q => ?_⟩
  · have := Cp.at_inv h hz
    rw [q] at this
    exact this
  · have := Cp.inv_at h hz
    rw [q] at this
    exact this
/-! ### where two copies meet -/
def meetK (a b : Cp) : Kp := keptK (a.comp b.inv)
theorem meet_sym {a b : Cp} (ha : a.ok) (hb : b.ok) : meetK b a = meetK a b := by
  unfold meetK
  rw [← kept_inv (Cp.comp_ok ha (Cp.inv_ok hb)), Cp.inv_of_comp ha (Cp.inv_ok hb), Cp.inv_inv hb]
theorem meet_spec {a b : Cp} {z : Num} (ha : a.ok) (hb : b.ok) (hz : Can z) : keptOn (meetK a b) z ↔ a.at z = b.at z := by
  unfold meetK
  rw [kept_spec (Cp.comp_ok ha (Cp.inv_ok hb)) hz, Cp.comp_at ha (Cp.inv_ok hb) hz]
  constructor
  · intro q
    have := Cp.at_inv hb (Cp.can_at ha hz)
    rw [q] at this
    exact this.symm
  · intro q
    rw [q, Cp.inv_at hb hz]
theorem meet_all {a b : Cp} (ha : a.ok) (hb : b.ok) : meetK a b = .all ↔ a = b := by
  unfold meetK
  rw [kept_all (Cp.comp_ok ha (Cp.inv_ok hb))]
  constructor
  · intro q
    have := Cp.comp_assoc ha (Cp.inv_ok hb) hb
    rw [q, Cp.inv_comp hb, Cp.id_comp hb, Cp.comp_id ha] at this
    exact this.symm
  · intro q
    rw [q, Cp.comp_inv hb]
end L3

/-! ## CM6 -/
set_option Elab.async false
set_option linter.all false
set_option maxHeartbeats 1000000
/-! Copies done several times. -/
namespace L3
open NM L2
theorem Cp.pow_ok {c : Cp} (h : c.ok) : ∀ n, (c.pow n).ok
  | 0 => Cp.id_ok
  | n + 1 => Cp.comp_ok (Cp.pow_ok h n) h
theorem Cp.pow_1 {c : Cp} (h : c.ok) : c.pow 1 = c := Cp.id_comp h
theorem Cp.pow_add {c : Cp} (h : c.ok) (m : Nat) : ∀ n, c.pow (m + n) = (c.pow m).comp (c.pow n)
  | 0 => (Cp.comp_id (Cp.pow_ok h m)).symm
  | n + 1 => by
    show (c.pow (m + n)).comp c = (c.pow m).comp ((c.pow n).comp c)
    rw [Cp.pow_add h m n, Cp.comp_assoc (Cp.pow_ok h m) (Cp.pow_ok h n) h]
theorem Cp.pow_mul {c : Cp} (h : c.ok) (m : Nat) : ∀ n, (c.pow m).pow n = c.pow (m * n)
  | 0 => rfl
  | n + 1 => by
    show ((c.pow m).pow n).comp (c.pow m) = _
    rw [Cp.pow_mul h m n, Nat.mul_succ, Cp.pow_add h]
theorem Cp.id_pow : ∀ n, Cp.id.pow n = Cp.id
  | 0 => rfl
  | n + 1 => by
    show (Cp.id.pow n).comp Cp.id = _
    rw [Cp.id_pow n, Cp.comp_id Cp.id_ok]
theorem Cp.pow_comm {c : Cp} (h : c.ok) (n : Nat) : (c.pow n).comp c = c.comp (c.pow n) := by
  have := Cp.pow_add h 1 n
  rw [Cp.pow_1 h, Nat.add_comm] at this
  exact this
theorem Cp.inv_pow {c : Cp} (h : c.ok) : ∀ n, c.inv.pow n = (c.pow n).inv
  | 0 => Cp.id_inv.symm
  | n + 1 => by
    show (c.inv.pow n).comp c.inv = ((c.pow n).comp c).inv
    rw [Cp.inv_pow h n, Cp.pow_comm h, Cp.inv_of_comp h (Cp.pow_ok h n)]
theorem Cp.conj_pow {o c : Cp} (ho : o.ok) (h : c.ok) : ∀ n, ((o.inv.comp c).comp o).pow n = (o.inv.comp (c.pow n)).comp o
  | 0 => by
    show Cp.id = (o.inv.comp Cp.id).comp o
    rw [Cp.comp_id (Cp.inv_ok ho), Cp.inv_comp ho]
  | n + 1 => by
    have ki := Cp.inv_ok ho
    have kn := Cp.pow_ok h n
    show (((o.inv.comp c).comp o).pow n).comp ((o.inv.comp c).comp o) = (o.inv.comp ((c.pow n).comp c)).comp o
    rw [Cp.conj_pow ho h n, Cp.comp_assoc (Cp.comp_ok ki kn) ho (Cp.comp_ok (Cp.comp_ok ki h) ho), ← Cp.comp_assoc ho (Cp.comp_ok ki h) ho, ← Cp.comp_assoc ho ki h, Cp.comp_inv ho, Cp.id_comp h, ← Cp.comp_assoc (Cp.comp_ok ki kn) h ho, Cp.comp_assoc ki kn h]
theorem Cp.inv_id {c : Cp} (h : c.ok) : c.inv = Cp.id ↔ c = Cp.id := by
  constructor
  · intro q
    have := Cp.inv_inv h
    rw [q, Cp.id_inv] at this
    exact this.symm
  · intro q
    rw [q, Cp.id_inv]
theorem Cp.conj_id {o c : Cp} (ho : o.ok) (h : c.ok) : (o.inv.comp c).comp o = Cp.id ↔ c = Cp.id := by
  have ki := Cp.inv_ok ho
  constructor
  · intro q
    have e : o.comp (((o.inv.comp c).comp o).comp o.inv) = c := by
      rw [Cp.comp_assoc (Cp.comp_ok ki h) ho ki, Cp.comp_inv ho, Cp.comp_id (Cp.comp_ok ki h), ← Cp.comp_assoc ho ki h, Cp.comp_inv ho, Cp.id_comp h]
    rw [q, Cp.id_comp ki, Cp.comp_inv ho] at e
    exact e.symm
  · intro q
    rw [q, Cp.comp_id ki, Cp.inv_comp ho]
/-! ### whole numbers of two parts -/
def gp (X Y : Int) : Nat → Int × Int
  | 0 => (1, 0)
  | n + 1 => ((gp X Y n).1 * X - (gp X Y n).2 * Y, (gp X Y n).1 * Y + (gp X Y n).2 * X)
theorem gp_norm (X Y : Int) : ∀ n, (gp X Y n).1 * (gp X Y n).1 + (gp X Y n).2 * (gp X Y n).2 = (X * X + Y * Y) ^ n
  | 0 => by
    rw [Int.pow_zero]
    rfl
  | n + 1 => by
    have ih := gp_norm X Y n
    rw [Int.pow_succ, ← ih]
    show ((gp X Y n).1 * X - (gp X Y n).2 * Y) * ((gp X Y n).1 * X - (gp X Y n).2 * Y) + ((gp X Y n).1 * Y + (gp X Y n).2 * X) * ((gp X Y n).1 * Y + (gp X Y n).2 * X) = _
    grind
theorem gp_mod {X Y d : Int} (h : X * X + Y * Y = d * d) : ∀ n, ∃ u v, (gp X Y (n + 1)).1 = (2 * X) ^ n * X + d * u ∧ (gp X Y (n + 1)).2 = (2 * X) ^ n * Y + d * v
  | 0 => ⟨0, 0, by rw [Int.pow_zero]; show 1 * X - 0 * Y = 1 * X + d * 0; omega, by rw [Int.pow_zero]; show 1 * Y + 0 * X = 1 * Y + d * 0; omega⟩
  | n + 1 => by
    obtain ⟨u, v, h1, h2⟩ := gp_mod h n
    refine ⟨u * X - v * Y - (2 * X) ^ n * d, u * Y + v * X, ?_, ?_⟩
    · show (gp X Y (n + 1)).1 * X - (gp X Y (n + 1)).2 * Y = _
      rw [h1, h2, Int.pow_succ]
      generalize (2 * X) ^ n = p
      grind
    · show (gp X Y (n + 1)).1 * Y + (gp X Y (n + 1)).2 * X = _
      rw [h1, h2, Int.pow_succ]
      generalize (2 * X) ^ n = p
      grind
theorem sq_dvd {g a : Int} (h : g * g ∣ a * a) : g ∣ a := by
  have : g.natAbs ^ 2 ∣ a.natAbs ^ 2 := by
    have := Int.natAbs_dvd_natAbs.mpr h
    rw [Int.natAbs_mul, Int.natAbs_mul] at this
    rw [Nat.pow_two, Nat.pow_two]
    exact this
  exact Int.natAbs_dvd_natAbs.mp ((Nat.pow_dvd_pow_iff (by decide)).mp this)
theorem cop_x {X Y d : Int} (h : X * X + Y * Y = d * d) (g : gz (gz X Y) d = 1) : Int.gcd X d = 1 := by
  have h1 : gz X d ∣ X := gz_dl _ _
  have h2 : gz X d ∣ d := gz_dr _ _
  have h3 : gz X d ∣ Y := sq_dvd (by
    have e : Y * Y = d * d - X * X := by omega
    rw [e]
    exact Int.dvd_sub (Int.mul_dvd_mul h2 h2) (Int.mul_dvd_mul h1 h1))
  have h4 : gz X d ∣ gz (gz X Y) d := dvd_gz (dvd_gz h1 h3) h2
  rw [g] at h4
  have h5 := gz_nn X d
  have h6 : gz X d = 1 := Int.eq_one_of_dvd_one h5 h4
  unfold gz at h6
  omega
theorem d_odd {X Y d : Int} (h : X * X + Y * Y = d * d) (g : gz (gz X Y) d = 1) : Int.gcd 2 d = 1 := by
  have h2 : d % 2 = 1 := by
    refine Classical.byContradiction fun q => ?_
    obtain ⟨e, rfl⟩ : ∃ e, d = 2 * e := ⟨d / 2, by omega⟩
    have hx : ∃ a r, X = 2 * a + r ∧ (r = 0 ∨ r = 1) := ⟨X / 2, X % 2, by omega, by omega⟩
    have hy : ∃ a r, Y = 2 * a + r ∧ (r = 0 ∨ r = 1) := ⟨Y / 2, Y % 2, by omega, by omega⟩
    obtain ⟨a, r, rfl, hr⟩ := hx
    obtain ⟨b, s, rfl, hs⟩ := hy
    have e4 : 4 * (a * a) + 4 * (a * r) + r * r + (4 * (b * b) + 4 * (b * s) + s * s) = 4 * (e * e) := by grind
    have rs : r = 0 ∧ s = 0 := by
      rcases hr with rfl | rfl <;> rcases hs with rfl | rfl <;> omega
    have k : (2 : Int) ∣ gz (gz (2 * a + r) (2 * b + s)) (2 * e) := dvd_gz (dvd_gz ⟨a, by omega⟩ ⟨b, by omega⟩) ⟨e, rfl⟩
    rw [g] at k
    exact absurd k (by decide)
  have k1 : (Int.gcd 2 d : Int) ∣ 2 := Int.gcd_dvd_left ..
  have k2 : (Int.gcd 2 d : Int) ∣ d := Int.gcd_dvd_right ..
  have k3 : (Int.gcd 2 d : Int) ∣ 1 := by
    have : (Int.gcd 2 d : Int) ∣ d - 2 * (d / 2) := Int.dvd_sub k2 (Int.dvd_mul_of_dvd_left k1)
    have e : d - 2 * (d / 2) = 1 := by omega
    rw [e] at this
    exact this
  have := Int.eq_one_of_dvd_one (by omega) k3
  omega
theorem root_d {X Y d : Int} {n : Nat} (hd : 0 < d) (h : X * X + Y * Y = d * d) (g : gz (gz X Y) d = 1) (q : (gp X Y (n + 1)).1 = d ^ (n + 1)) : d = 1 := by
  obtain ⟨u, v, h1, _⟩ := gp_mod h n
  have k : d ∣ (2 * X) ^ n * X := by
    refine ⟨d ^ n - u, ?_⟩
    rw [Int.pow_succ] at q
    grind
  have c1 := cop_x h g
  have c2 := d_odd h g
  have k2 : d.natAbs ∣ (2 * X.natAbs) ^ n * X.natAbs := by
    have := Int.natAbs_dvd_natAbs.mpr k
    rw [Int.natAbs_mul, Int.natAbs_pow, Int.natAbs_mul] at this
    exact this
  have p1 : Nat.Coprime X.natAbs d.natAbs := c1
  have p2 : Nat.Coprime 2 d.natAbs := c2
  have p3 : Nat.Coprime d.natAbs ((2 * X.natAbs) ^ n) := Nat.Coprime.pow_right n (Nat.Coprime.symm (Nat.Coprime.mul_left p2 p1))
  have p4 : d.natAbs ∣ X.natAbs := Nat.Coprime.dvd_of_dvd_mul_left p3 k2
  have p5 : d.natAbs ∣ 1 := by
    have : d.natAbs ∣ Nat.gcd X.natAbs d.natAbs := Nat.dvd_gcd p4 (Nat.dvd_refl _)
    rw [p1] at this
    exact this
  have := Nat.dvd_one.mp p5
  omega
theorem unit4 {X Y : Int} (h : X * X + Y * Y = 1) : (X = 1 ∧ Y = 0) ∨ (X = -1 ∧ Y = 0) ∨ (X = 0 ∧ Y = 1) ∨ (X = 0 ∧ Y = -1) := by
  have hx := sq_nn X
  have hy := sq_nn Y
  have b : ∀ {a : Int}, a * a ≤ 1 → a = 0 ∨ a = 1 ∨ a = -1 := by
    intro a q
    have l : a.natAbs * a.natAbs ≤ 1 := by
      have : (a.natAbs * a.natAbs : Int) = a * a := Int.natAbs_mul_self' a
      omega
    have l2 : a.natAbs ≤ 1 := by
      refine Classical.byContradiction fun z => ?_
      have : 2 * 2 ≤ a.natAbs * a.natAbs := Nat.mul_le_mul (by omega) (by omega)
      omega
    omega
  rcases b (a := X) (by omega) with rfl | rfl | rfl <;> rcases b (a := Y) (by omega) with rfl | rfl | rfl <;> simp_all
/-! ### turns of copies done several times -/
theorem pow_m {c : Cp} (hm : c.m = false) : ∀ n, (c.pow n).m = false
  | 0 => rfl
  | n + 1 => by
    show ((c.pow n).m != c.m) = false
    rw [pow_m hm n, hm]
    rfl
theorem pow_t {c : Cp} (h : c.ok) (hm : c.m = false) : ∀ n, re (c.pow n).t * ((c.t.d ^ n : Int) : Rat) = ((gp c.t.x c.t.y n).1 : Rat) ∧ im (c.pow n).t * ((c.t.d ^ n : Int) : Rat) = ((gp c.t.x c.t.y n).2 : Rat)
  | 0 => by
    rw [Int.pow_zero]
    show re one * ((1 : Int) : Rat) = ((1 : Int) : Rat) ∧ im one * ((1 : Int) : Rat) = ((0 : Int) : Rat)
    rw [re_one, im_one]
    decide +kernel
  | n + 1 => by
    obtain ⟨i1, i2⟩ := pow_t h hm n
    have d0 := cast_ne (ne_d h.1)
    have r1 : re c.t * ((c.t.d : Int) : Rat) = ((c.t.x : Int) : Rat) := by unfold re; grind
    have r2 : im c.t * ((c.t.d : Int) : Rat) = ((c.t.y : Int) : Rat) := by unfold im; grind
    show re ((c.pow n).comp c).t * _ = ((((gp c.t.x c.t.y n).1 * c.t.x - (gp c.t.x c.t.y n).2 * c.t.y : Int)) : Rat) ∧ im ((c.pow n).comp c).t * _ = ((((gp c.t.x c.t.y n).1 * c.t.y + (gp c.t.x c.t.y n).2 * c.t.x : Int)) : Rat)
    rw [re_ct (Cp.pow_ok h n) h, im_ct (Cp.pow_ok h n) h, hm, sg_f, Int.pow_succ]
    push_cast at i1 i2 ⊢
    rw [← i1, ← i2, ← r1, ← r2]
    constructor <;> grind
theorem pow_root {c : Cp} {n : Nat} (h : c.ok) (hm : c.m = false) (q : c.pow (n + 1) = Cp.id) : c.t = one ∨ c.t = ⟨-1, 0, 1⟩ ∨ c.t = ⟨0, 1, 1⟩ ∨ c.t = ⟨0, -1, 1⟩ := by
  obtain ⟨e1, e2⟩ := pow_t h hm (n + 1)
  rw [q, re_idt] at e1
  rw [q, im_idt] at e2
  have f1 : (gp c.t.x c.t.y (n + 1)).1 = c.t.d ^ (n + 1) := by
    have : ((c.t.d ^ (n + 1) : Int) : Rat) = (((gp c.t.x c.t.y (n + 1)).1 : Int) : Rat) := by rw [← e1]; grind
    exact_mod_cast this.symm
  have f2 : (gp c.t.x c.t.y (n + 1)).2 = 0 := by
    have : (((gp c.t.x c.t.y (n + 1)).2 : Int) : Rat) = ((0 : Int) : Rat) := by rw [← e2, show ((0 : Int) : Rat) = 0 from rfl]; grind
    exact_mod_cast this
  have nn := gp_norm c.t.x c.t.y (n + 1)
  rw [f1, f2] at nn
  have n2 : c.t.x * c.t.x + c.t.y * c.t.y = c.t.d * c.t.d := by
    have nn2 : (c.t.d * c.t.d) ^ (n + 1) = (c.t.x * c.t.x + c.t.y * c.t.y) ^ (n + 1) := by
      rw [← nn, Int.mul_pow]
      omega
    have a1 := sq_nn c.t.x
    have a2 := sq_nn c.t.y
    have a3 := sq_nn c.t.d
    have k : (c.t.d * c.t.d).natAbs ^ (n + 1) = (c.t.x * c.t.x + c.t.y * c.t.y).natAbs ^ (n + 1) := by
      rw [← Int.natAbs_pow, ← Int.natAbs_pow, nn2]
    have := (Nat.pow_left_inj (by omega)).mp k
    omega
  have d1 := root_d h.1.1 n2 h.1.2 f1
  rw [d1] at n2
  have u := unit4 (by omega : c.t.x * c.t.x + c.t.y * c.t.y = 1)
  have ex : ∀ {z : Num} {a b : Int}, z.x = a → z.y = b → z.d = 1 → z = ⟨a, b, 1⟩ := by
    intro z a b p1 p2 p3
    cases z
    simp only at p1 p2 p3
    rw [p1, p2, p3]
  rcases u with ⟨u1, u2⟩ | ⟨u1, u2⟩ | ⟨u1, u2⟩ | ⟨u1, u2⟩
  · exact .inl (ex u1 u2 d1)
  · exact .inr (.inl (ex u1 u2 d1))
  · exact .inr (.inr (.inl (ex u1 u2 d1)))
  · exact .inr (.inr (.inr (ex u1 u2 d1)))
theorem shift_pow {c : Cp} (h : c.ok) (hm : c.m = false) (ht : c.t = one) : ∀ n : Nat, re (c.pow n).s = (n : Rat) * re c.s ∧ im (c.pow n).s = (n : Rat) * im c.s
  | 0 => by
    show re zero = ((0 : Nat) : Rat) * _ ∧ im zero = ((0 : Nat) : Rat) * _
    rw [re_zero, im_zero, show ((0 : Nat) : Rat) = 0 from rfl]
    constructor <;> grind
  | n + 1 => by
    obtain ⟨i1, i2⟩ := shift_pow h hm ht n
    have kn := (Cp.pow_ok h n).2.2
    show re (c.at (c.pow n).s) = _ ∧ im (c.at (c.pow n).s) = _
    rw [re_at h kn, im_at h kn, i1, i2, hm, ht, sg_f, re_one, im_one]
    push_cast
    constructor <;> grind
theorem shift_id {c : Cp} {n : Nat} (h : c.ok) (hm : c.m = false) (ht : c.t = one) (q : c.pow (n + 1) = Cp.id) : c = Cp.id := by
  obtain ⟨e1, e2⟩ := shift_pow h hm ht (n + 1)
  rw [q] at e1 e2
  rw [re_ids] at e1
  rw [im_ids] at e2
  have n0 : (((n + 1 : Nat)) : Rat) ≠ 0 := by
    intro z
    have : (n + 1 : Nat) = 0 := by exact_mod_cast z
    omega
  refine Cp.ext' ht (NM.ext h.2.2 can_zero ?_ ?_) hm
  · rw [re_ids]; grind
  · rw [im_ids]; grind
theorem pow4_t {c : Cp} {n : Nat} (h : c.ok) (hm : c.m = false) (q : c.pow (n + 1) = Cp.id) : (c.pow 4).t = one := by
  obtain ⟨e1, e2⟩ := pow_t h hm 4
  have k := (Cp.pow_ok h 4).1
  have g1 : c.t.d = 1 ∧ gp c.t.x c.t.y 4 = (1, 0) := by
    rcases pow_root h hm q with e | e | e | e <;> rw [e] <;> decide
  rw [g1.1, g1.2] at e1 e2
  have o4 : (((1 : Int) ^ 4 : Int) : Rat) = 1 := by decide +kernel
  rw [o4, show ((1 : Int) : Rat) = 1 from rfl] at e1
  rw [o4, show ((0 : Int) : Rat) = 0 from rfl] at e2
  refine NM.ext k can_one ?_ ?_
  · rw [re_one]; grind
  · rw [im_one]; grind
theorem order_4 {c : Cp} {n : Nat} (h : c.ok) (q : c.pow (n + 1) = Cp.id) : c.pow 2 = Cp.id ∨ c.pow 4 = Cp.id := by
  have pw : ∀ m, (c.pow m).pow (n + 1) = Cp.id := by
    intro m
    rw [Cp.pow_mul h, Nat.mul_comm, ← Cp.pow_mul h, q, Cp.id_pow]
  cases hm : c.m with
  | false => exact .inr (shift_id (Cp.pow_ok h 4) (pow_m hm 4) (pow4_t h hm q) (pw 4))
  | true =>
    left
    have k2 := Cp.pow_ok h 2
    have m2 : (c.pow 2).m = false := by
      show ((false != c.m) != c.m) = false
      rw [hm]
      rfl
    have c2 : c.pow 2 = c.comp c := by
      show (c.pow 1).comp c = _
      rw [Cp.pow_1 h]
    have r2 : re (c.pow 2).t = re c.t * re c.t + im c.t * im c.t := by
      rw [c2, re_ct h h, hm]
      show _ - im c.t * (-1 * im c.t) = _
      grind
    have i2 : im (c.pow 2).t = 0 := by
      rw [c2, im_ct h h, hm]
      show re c.t * (-1 * im c.t) + _ = 0
      grind
    refine shift_id k2 m2 ?_ (pw 2)
    rcases pow_root k2 m2 (pw 2) with e | e | e | e
    · exact e
    · exfalso
      have e3 : re c.t * re c.t + im c.t * im c.t = -1 := by
        rw [← r2, e]
        decide +kernel
      have p := szN_pos h.1 h.2.1
      have p2 := re_szN h.1
      have k3 := can_szN (ne_d h.1)
      rw [e3] at p2
      have d0 := cast_ne (ne_d k3)
      have e4 : (((szN c.t).x : Int) : Rat) = ((0 - (szN c.t).d : Int) : Rat) := by
        unfold re at p2
        push_cast
        grind
      have e5 : (szN c.t).x = 0 - (szN c.t).d := by exact_mod_cast e4
      have := k3.1
      omega
    · exfalso
      rw [e] at i2
      exact absurd i2 (by decide +kernel)
    · exfalso
      rw [e] at i2
      exact absurd i2 (by decide +kernel)
/-! ### the first time that a copy, done again and again, carries all spots to themselves -/
theorem fstN_none {c : Cp} : ∀ k, fstN c k = none → ∀ j, 1 ≤ j → j ≤ k → c.pow j ≠ Cp.id
  | 0, _, j, h1, h2 => absurd h2 (by omega)
  | k + 1, e, j, h1, h2 => by
    unfold fstN at e
    cases q : fstN c k with
    | some i => rw [q] at e; cases e
    | none =>
      rw [q] at e
      by_cases z : c.pow (k + 1) = Cp.id
      · have e : (if c.pow (k + 1) = Cp.id then some (k + 1) else none) = none := e
        rw [if_pos z] at e
        cases e
      · by_cases hj : j = k + 1
        · rw [hj]; exact z
        · exact fstN_none k q j h1 (by omega)
theorem fstN_step {c : Cp} {k : Nat} (h : c.ok) (l : 4 ≤ k) : fstN c (k + 1) = fstN c k := by
  show (match fstN c k with | some j => some j | none => if c.pow (k + 1) = Cp.id then some (k + 1) else none) = _
  cases q : fstN c k with
  | some j => rfl
  | none =>
    show (if c.pow (k + 1) = Cp.id then some (k + 1) else none) = none
    refine if_neg fun z => ?_
    rcases order_4 h z with w | w
    · exact fstN_none k q 2 (by decide) (by omega) w
    · exact fstN_none k q 4 (by decide) l w
theorem fstN_12 {c : Cp} (h : c.ok) : fstN c 12 = fstN c 4 := by
  rw [fstN_step h (by decide), fstN_step h (by decide), fstN_step h (by decide), fstN_step h (by decide), fstN_step h (by decide), fstN_step h (by decide), fstN_step h (by decide), fstN_step h (by decide)]
theorem fstN_congr {c c' : Cp} (e : ∀ k, c.pow k = Cp.id ↔ c'.pow k = Cp.id) : ∀ k, fstN c k = fstN c' k
  | 0 => rfl
  | k + 1 => by
    unfold fstN
    rw [fstN_congr e k]
    simp only [e (k + 1)]
theorem fstN_inv {c : Cp} (h : c.ok) (k : Nat) : fstN c.inv k = fstN c k := fstN_congr (fun k => by rw [Cp.inv_pow h, Cp.inv_id (Cp.pow_ok h k)]) k
theorem fstN_conj {o c : Cp} (ho : o.ok) (h : c.ok) (k : Nat) : fstN ((o.inv.comp c).comp o) k = fstN c k := fstN_congr (fun k => by rw [Cp.conj_pow ho h, Cp.conj_id ho (Cp.pow_ok h k)]) k
end L3

/-! ## LW2 -/
set_option Elab.async false
set_option linter.all false
set_option maxRecDepth 100000
set_option maxHeartbeats 4000000
namespace L3
open PySem NM L2
section
variable {Γ : CL} {μ : MH} {Q : D → MH → Prop} {a b c : Cp}
theorem meet_i (ha : a.ok) (hb : b.ok) (sa : a.sz 40) (sb : b.sz 40) (q : Q (meetK a b).D μ) : sp_meeting Γ [copyD Γ a, copyD Γ b] μ Q := ⟨a, b, rfl, ha, hb, sa, sb, q⟩
theorem kept_i (hc : c.ok) (sc : c.sz 400) (q : Q (keptK c).D μ) : sp_kept Γ [copyD Γ c] μ Q := ⟨c, rfl, hc, sc, q⟩
end
theorem okK (K : Kp) : okq 4 K.D = true := by
  cases K with
  | all => decide +kernel
  | none => decide +kernel
  | spot z => show (decide _ && (PyData.strOk "spot" && (okq 3 (numD z) && true))) = true; rw [show PyData.strOk "spot" = true by decide +kernel]; rfl
  | line a b c => show (decide _ && (PyData.strOk "line" && (true && (true && (true && true))))) = true; rw [show PyData.strOk "line" = true by decide +kernel]; rfl
theorem CB {a b : Int} {n m : Nat} (h : Bt n a) (l : Bt m b) (hn : n ≤ big) (hm : m ≤ big) : CBig a b := ⟨h.mono hn, l.mono hm⟩
/-- four spots of a line -/
def lsp (a b c k : Int) : Num := low (a * c + k * b) (b * c - k * a) (a * a + b * b)
theorem can_lsp {a b c k : Int} (h : 0 < a ∨ a = 0 ∧ 0 < b) : Can (lsp a b c k) := low_can (ab_ne h)
theorem lsp_sz {n : Nat} {a b c k : Int} (h : 0 < a ∨ a = 0 ∧ 0 < b) (ha : Bt n a) (hb : Bt n b) (hc : Bt n c) (hk : Bt n k) : Sz (n + n + 1) (lsp a b c k) :=
  low_sz (ab_ne h) ((ha.mul hc).add (hk.mul hb)) ((hb.mul hc).sub (hk.mul ha)) ((ha.mul ha).add (hb.mul hb))
theorem lsp_on {a b c k : Int} (h : 0 < a ∨ a = 0 ∧ 0 < b) : keptOn (.line a b c) (lsp a b c k) := (on_low (ab_ne h)).mpr (by grind)
theorem D_all_iff {K : Kp} {μ : MH} {R : D → MH → Prop} (h : R (.bl (decide (K = .all))) μ) : gEq K.D (.tup [.str "all"]) μ R := by
  refine ⟨?_, (by decide +kernel : pureN 20 (.tup [.str "all"]) = true), ?_⟩
  · show pureN 20 (res μ K.D) = true
    cases K with
    | all => exact (by decide +kernel : pureN 20 (.tup [.str "all"]) = true)
    | none => exact (by decide +kernel : pureN 20 (.tup [.str "none"]) = true)
    | spot z => show (PyData.strOk "spot" && (pureN 19 (numD z) && true)) = true; rw [show PyData.strOk "spot" = true by decide +kernel]; rfl
    | line a b c => show (PyData.strOk "line" && (true && (true && (true && true)))) = true; rw [show PyData.strOk "line" = true by decide +kernel]; rfl
  · have e : deq (res μ K.D) (res μ (.tup [.str "all"])) = decide (K = .all) := by
      cases K with
      | all => show (("all" : Str) == "all" && true) = _; decide +kernel
      | none => show (("none" : Str) == "all" && true) = decide (Kp.none = .all); rw [show (("none" : Str) == "all") = false by decide +kernel]; rfl
      | spot z =>
        show deq (.tup (.str "spot" :: [numD z])) (.tup (.str "all" :: [])) = decide (Kp.spot z = .all)
        rw [deq_tt, deq_str, show (("spot" : Str) == "all") = false by decide +kernel]; rfl
      | line a b c =>
        show deq (.tup (.str "line" :: [.int a, .int b, .int c])) (.tup (.str "all" :: [])) = decide (Kp.line a b c = .all)
        rw [deq_tt, deq_str, show (("line" : Str) == "all") = false by decide +kernel]; rfl
    rw [e]
    exact h
end L3

/-! ## V6 -/
set_option Elab.async false
set_option linter.all false
set_option maxRecDepth 100000
set_option maxHeartbeats 1000000
namespace L3
open PySem NM L2
theorem vc_is_int_in (Γ : CL) : ∀ ds μ R, sp_is_int_in Γ ds μ R → rd_is_int_in Γ (fin R) (startD 3 ds) μ := by
  rintro ds μ R ⟨d, lo, hi, rfl, ok, h⟩
  unfold rd_is_int_in
  rw [show startD 3 [d, .int lo, .int hi] = [some d, some (.int lo), some (.int hi)] from rfl]
  have isi : ∀ (T : String) (b : Bool) (Q : D → MH → Prop), tyOK T = true → isiD T d = some b → res μ d = d → Q (.bl b) μ → gIsi [d, .ty T] μ Q := by
    intro T b Q hT hb hr hQ
    refine ⟨hT, ?_⟩
    rw [hr, hb]
    exact hQ
  have no : ∀ (hr : res μ d = d), isiD "int" d = some false → inIntD d lo hi = false → rRet (rAndV (rCl gIsi (rCons (rVar 0) (rCons (rC (.ty "int")) rNil))) (rAndV (rNotV (rCl gIsi (rCons (rVar 0) (rCons (rC (.ty "bool")) rNil)))) (rChain gLe gLe (rVar 1) (rVar 0) (rVar 2)))) (fin R) [some d, some (.int lo), some (.int hi)] μ := by
    intro hr h1 h2
    simp only [rRet, rAndV, rCl, rCons, rVar, rC, rNil, gt]
    refine isi "int" false _ (by decide) h1 hr ?_
    simp only [Bool.false_eq_true, if_false]
    rw [h2] at h
    exact h
  cases d with
  | int i =>
    simp only [rRet, rAndV, rNotV, rCl, rCons, rVar, rC, rNil, gt]
    refine isi "int" true _ (by decide) rfl rfl ?_
    simp only [if_true]
    refine isi "bool" false _ (by decide) rfl rfl ?_
    simp only [Bool.not_false, if_true, rChain, rVar, gt, gI0]
    have h : R (.bl (decide (lo ≤ i) && decide (i ≤ hi))) μ := h
    by_cases q : lo ≤ i
    · rw [decide_eq_true q] at h ⊢
      simp only [if_true]
      exact h
    · rw [decide_eq_false q] at h ⊢
      simp only [Bool.false_eq_true, if_false]
      exact h
  | bl b =>
    simp only [rRet, rAndV, rNotV, rCl, rCons, rVar, rC, rNil, gt]
    refine isi "int" true _ (by decide) rfl rfl ?_
    simp only [if_true]
    refine isi "bool" true _ (by decide) rfl rfl ?_
    simp only [Bool.not_true, Bool.false_eq_true, if_false]
    exact h
  | non => exact no rfl rfl rfl
  | str x => exact no rfl rfl rfl
  | tup x => exact no rfl rfl rfl
  | lst x => exact no rfl rfl rfl
  | ref a => cases ok
  | ins C fs => cases ok
  | scr x => cases ok
  | ty n => cases ok
theorem again_loop {Γ : CL} {E : Ed} {a0 a1 : Option D} {s : Cp} {μ : MH} (ks : s.ok) (ss : s.sz quart) : ∀ (n j : Nat) (lo : Int) (x4 : Option D), (∀ m, j ≤ m → m < j + n → (s.pow m).sz quart) → (∀ x, E.nx [a0, a1, some (copyD Γ s), some (copyD Γ (s.pow (j + n))), x] μ) →
    forD (rGN 4) (rAsg (rOp (gOwn2 Γ.Copy (sp_Copy___rshift Γ)) (rVar 3) (rVar 2)) (rGN 3)) tru E (rangeD lo n) [a0, a1, some (copyD Γ s), some (copyD Γ (s.pow j)), x4] μ
  | 0, j, lo, x4, _, h => ⟨trivial, h x4⟩
  | n + 1, j, lo, x4, hs, h => by
    refine ⟨trivial, ?_⟩
    simp only [rGN, st, rAsg, rOp, rVar, gt, own2_c]
    refine rsh_i (Cp.pow_ok ks j) ks (hs j (Nat.le_refl j) (by omega)) ss ?_
    exact again_loop ks ss n (j + 1) (lo + 1) _ (fun m h1 h2 => hs m (by omega) (by omega)) (fun x => by
      have := h x
      rw [show j + (n + 1) = j + 1 + n by omega] at this
      exact this)
theorem small_copy {Γ : CL} {μ : MH} {R : D → MH → Prop} (h : R (copyD Γ Cp.id) μ) : gMake Γ.Copy (sp_Copy___init Γ) [numD one, numD zero, .bl false] μ R :=
  make_copy (t := one) (s := zero) can_one (by unfold NZ; decide) can_zero (Sz.mono (n := 5) (by unfold Sz Bt; decide) (by decide)) (Sz.mono (n := 5) (by unfold Sz Bt; decide) (by decide)) h
theorem vc_Copy_again (Γ : CL) : ∀ ds μ R, sp_Copy_again Γ ds μ R → rd_Copy_again Γ (fin R) (startD 5 ds) μ := by
  rintro ds μ R ⟨c, i, rfl, kc, sc, hi, hs, ss, h⟩
  unfold rd_Copy_again
  rw [show startD 5 [copyD Γ c, .int i] = [some (copyD Γ c), some (.int i), none, none, none] from rfl]
  refine seq_g fun N hN => ?_
  simp only [rIf, rNot, rB, rCl, rCons, rVar, rC, rNil, rOp, gt, c_MAX_TIMES, gI0]
  refine ⟨.int i, _, _, rfl, rfl, ?_⟩
  have e1 : inIntD (.int i) (0 - 100) 100 = true := by
    show (decide (0 - 100 ≤ i) && decide (i ≤ 100)) = true
    rw [decide_eq_true (by omega : (0 : Int) - 100 ≤ i), decide_eq_true (by omega : i ≤ 100)]
    rfl
  rw [e1]
  refine ite_no (by simp) ?_
  refine hN _ _ ?_
  clear hN N
  refine seq_g fun N hN => ?_
  have ks : (c.stp i).ok := by
    unfold Cp.stp
    split
    · exact Cp.inv_ok kc
    · exact kc
  have fin' : N [some (copyD Γ c), some (.int i), some (copyD Γ (c.stp i)), none, none] μ := by
    refine hN _ _ ?_
    clear hN N
    refine seq_g fun N hN => ?_
    simp only [rAsg, rMakeD, rCons, rC, rNil, cONE, cZERO, List.cons_append, List.nil_append]
    refine small_copy ?_
    simp only [rGN, st]
    refine hN _ _ ?_
    clear hN N
    refine seq_g fun N hN => ?_
    simp only [rFor, rIRng1, rCl, rCons, rVar, rNil, gt, gAbs]
    refine ⟨by unfold inR; split <;> omega, ?_⟩
    have en : (if i < 0 then -i else i).toNat = i.natAbs := by split <;> omega
    rw [en]
    refine again_loop ks ss i.natAbs 0 0 none (fun m _ h2 => hs m (by omega)) (fun x => ?_)
    refine hN _ _ ?_
    simp only [rRet, rVar, gt, Nat.zero_add]
    exact h
  simp only [rAsg, rIfE, rB, rOp, rUn, rVar, rC, gt, gI0, own1_c, rGN, st]
  by_cases q : i < 0
  · refine ite_yes (by simp [q]) ?_
    refine inv_i kc sc ?_
    rw [show c.stp i = c.inv from if_pos q] at fin'
    exact fin'
  · refine ite_no (by simp [q]) ?_
    rw [show c.stp i = c from if_neg q] at fin'
    exact fin'
theorem fstN_mono {c : Cp} {k v : Nat} (h : fstN c k = some v) : ∀ m, fstN c (k + m) = some v
  | 0 => h
  | m + 1 => by
    show (match fstN c (k + m) with | some j => some j | none => if c.pow (k + m + 1) = Cp.id then some (k + m + 1) else none) = some v
    rw [fstN_mono h m]
theorem order_loop {Γ : CL} {R : D → MH → Prop} {c : Cp} {μ : MH} (kc : c.ok) (sc : ∀ j, 1 ≤ j → j ≤ 4 → (c.pow j).sz 400) (h : R (natD (fstN c 4)) μ) : ∀ (n j : Nat) (E : Ed) (lo : Int) (x : Option D), j + n = 4 → lo = ((j + 1 : Nat) : Int) → E.rt = R → (∀ ρ, fstN c 4 = none → E.nx ρ μ) → fstN c j = none →
    forD (rGN 2) (rSeq (rIf (rB (rOp gEq (rCl (sp_kept Γ) (rCons (rVar 1) rNil)) (rTup (rCons (rC (.str "all")) rNil)))) (rRet (rVar 2)) rNext) (rAsg (rOp (gOwn2 Γ.Copy (sp_Copy___rshift Γ)) (rVar 1) (rVar 0)) (rGN 1))) tru E (rangeD lo n) [some (copyD Γ c), some (copyD Γ (c.pow (j + 1))), x] μ
  | 0, j, E, lo, x, hj, _, _, hE, hf => ⟨trivial, hE _ (by rw [show (4 : Nat) = j by omega]; exact hf)⟩
  | n + 1, j, E, lo, x, hj, hl, hr, hE, hf => by
    refine ⟨trivial, ?_⟩
    have kp := Cp.pow_ok kc (j + 1)
    have sp := sc (j + 1) (by omega) (by omega)
    simp only [rGN, st]
    refine seq_g fun N hN => ?_
    simp only [rIf, rB, rOp, rCl, rCons, rVar, rNil, rTup, rC, gt]
    refine kept_i kp sp ⟨by show 1 ≤ 2 ^ 24; decide, ?_⟩
    refine D_all_iff ?_
    have e : decide (keptK (c.pow (j + 1)) = .all) = decide (c.pow (j + 1) = Cp.id) := decide_eq_decide.mpr (kept_all kp)
    simp only [e]
    by_cases q : c.pow (j + 1) = Cp.id
    · refine ite_yes (by simp [q]) ?_
      simp only [rRet, rVar, gt]
      have f1 : fstN c (j + 1) = some (j + 1) := by
        unfold fstN
        rw [hf]
        exact if_pos q
      have f2 := fstN_mono f1 n
      rw [show j + 1 + n = 4 by omega] at f2
      rw [f2] at h
      rw [hl]
      show E.rt _ _
      rw [hr]
      exact h
    · refine ite_no (by simp [q]) ?_
      refine hN _ _ ?_
      simp only [rAsg, rOp, rVar, rGN, st, gt, own2_c]
      refine rsh_i kp kc (sp.mono (by decide)) ((by have := sc 1 (by decide) (by decide); rw [Cp.pow_1 kc] at this; exact this.mono (by decide))) ?_
      have f1 : fstN c (j + 1) = none := by
        unfold fstN
        rw [hf]
        exact if_neg q
      exact order_loop kc sc h n (j + 1) E (lo + 1) _ (by omega) (by omega) hr hE f1
theorem vc_order (Γ : CL) : ∀ ds μ R, sp_order Γ ds μ R → rd_order Γ (fin R) (startD 3 ds) μ := by
  rintro ds μ R ⟨c, rfl, kc, sc, h⟩
  unfold rd_order
  rw [show startD 3 [copyD Γ c] = [some (copyD Γ c), none, none] from rfl]
  refine seq_g fun N hN => ?_
  simp only [rAsg, rVar, rGN, gt, st]
  refine hN _ _ ?_
  clear hN N
  refine seq_g fun N hN => ?_
  simp only [rFor, rIRng2, rCons, rC, rNil]
  refine ⟨by unfold inR; decide, by unfold inR; decide, ?_⟩
  have l := order_loop (Γ := Γ) kc sc h 4 0 { nx := N, rt := R } 1 none rfl rfl rfl (fun ρ q => hN _ _ (by
    simp only [rRet, rC]
    rw [q] at h
    exact h)) rfl
  rw [show c.pow (0 + 1) = c from Cp.pow_1 kc] at l
  exact l
end L3

/-! ## V7 -/
set_option Elab.async false
set_option linter.all false
set_option maxRecDepth 100000
set_option maxHeartbeats 1000000
namespace L3
open PySem NM L2
local macro_rules | `(tactic| walk_at "d") => `(tactic| (try (simp only [rSeq, rAsg, rRet, rRetN, rDrop, rIf, rNext, rPar, rPar3, rCons, rNil, rStar, rCl, rOp, rUn, rVar, rC, rGN, rTup, rLst, rB, rAnd, rOr, rNot, rIfE, rAndV, rOrV, rNotV, rNever, rFld, rOwn, rMeth, rMakeK, rMakeD, rFldS, rFrz, rSetIx, rMut, rILst, rITup, rIRng1, rIRng2, rFor, rLc, rLcM, rTrue, gt, st, gI, gI0, gU, gIx, gEq, gNe, gAdd, gSub, gMul, gDiv, gMod, gPow, gLt, gLe, gGt, gGe, gIsi, gAbs, gLen, gAll, gIsN, gNotN, isNonD, seqD, res, atI_0, atI_1, atI_2, atI_3, atI_4, List.getElem?_cons_zero, List.getElem?_cons_succ, List.length_cons, List.length_nil, decide_eq_true_eq, List.map_cons, List.map_nil, startD, List.cons_append, List.nil_append, List.replicate, Nat.zero_add, if_true, if_false, Bool.false_eq_true, and_self, true_and, ite_true, ite_false, Nat.reduceAdd, Nat.reduceSub, ln, Nat.reduceLeDiff, fin, String.reduceBEq, Bool.not_true, Bool.not_false, pureN, deq_int, deq_tt, deq_t0, deq_bl, List.all_cons, List.all_nil, Bool.and_true, Bool.true_and, Bool.and_eq_true, List.append_nil, lk_turn, lk_shift, lk_mirrored, lk_key, insD_copy, own2_c, own1_c, rG_nil, rG_cons, rGLst_i, updM_same, updM_updM, Option.map_some, Option.map_none])))
/-! ### arms -/
theorem lk_pole (a : Am) : (armFs a).lookup ("pole" : Str) = some (numD a.p) := rfl
theorem lk_aturn (a : Am) : (armFs a).lookup ("turn" : Str) = some (numD a.t) := rfl
theorem lk_near (a : Am) : (armFs a).lookup ("near" : Str) = some (D.int a.lo) := rfl
theorem lk_far (a : Am) : (armFs a).lookup ("far" : Str) = some (D.int a.hi) := rfl
theorem lk_amirr (a : Am) : (armFs a).lookup ("mirrored" : Str) = some (D.bl a.m) := rfl
theorem lk_akey (a : Am) : (armFs a).lookup ("key" : Str) = some (armTD a) := rfl
theorem lk_arms (Γ : CL) (as : List Am) : (chainFs Γ as).lookup ("arms" : Str) = some (.tup (as.map (armD Γ))) := rfl
theorem insD_arm {Γ : CL} {μ : MH} {a : Am} : insD μ (armD Γ a) = some (Γ.Arm, armFs a) := rfl
theorem insD_chain {Γ : CL} {μ : MH} {as : List Am} : insD μ (chainD Γ as) = some (Γ.Chain, chainFs Γ as) := rfl
theorem ownA_i {Γ : CL} {μ : MH} {s : GN} {R : D → MH → Prop} {a b : Am} : gOwn2 Γ.Arm s (armD Γ a) (armD Γ b) μ R = s [armD Γ a, armD Γ b] μ R := propext ⟨fun h => h.2.2, fun h => ⟨rfl, rfl, h⟩⟩
theorem ownC_i {Γ : CL} {μ : MH} {s : GN} {R : D → MH → Prop} {a b : List Am} : gOwn2 Γ.Chain s (chainD Γ a) (chainD Γ b) μ R = s [chainD Γ a, chainD Γ b] μ R := propext ⟨fun h => h.2.2, fun h => ⟨rfl, rfl, h⟩⟩
theorem int_in {Γ : CL} {i lo hi : Int} {μ : MH} {Q : D → MH → Prop} (h1 : lo ≤ i) (h2 : i ≤ hi) (q : Q (.bl true) μ) : sp_is_int_in Γ [.int i, .int lo, .int hi] μ Q := by
  refine ⟨.int i, lo, hi, rfl, rfl, ?_⟩
  show Q (.bl (decide (lo ≤ i) && decide (i ≤ hi))) μ
  rw [decide_eq_true h1, decide_eq_true h2]
  exact q
theorem vc_Arm___init (Γ : CL) : ∀ ds μ R, sp_Arm___init Γ ds μ R → rd_Arm___init Γ (fin R) (startD 6 ds) μ := by
  intro ds μ R h
  unfold sp_Arm___init at h
  split at h <;> first | exact h.elim | skip
  rename_i a x y d u v w lo hi m
  obtain ⟨h1, h2, h3, ⟨b1, b2, b3⟩, s1, s2, hm, h⟩ := h
  unfold rd_Arm___init
  rw [show startD 6 [.ref a, .tup [.int x, .int y, .int d], .tup [.int u, .int v, .int w], .int lo, .int hi, .bl m] = [some (.ref a), some (.tup [.int x, .int y, .int d]), some (.tup [.int u, .int v, .int w]), some (.int lo), some (.int hi), some (.bl m)] from rfl]
  refine seq_g fun N hN => ?_
  simp only [rDrop, rCl, rCons, rVar, rNil, gt, sp_check_spot]
  refine ⟨h1, s1, hN _ _ ?_⟩
  clear hN N
  refine seq_g fun N hN => ?_
  simp only [rDrop, rCl, rCons, rVar, rNil, gt, sp_check_turn]
  refine ⟨h2, h3, s2, hN _ _ ?_⟩
  clear hN N
  refine seq_g fun N hN => ?_
  simp only [rIf, rOr, rNot, rB, rCl, rCons, rVar, rC, rNil, gt, c_MAX_REACH_arms]
  refine int_in b1 (by omega) ?_
  simp only [Bool.not_true, Bool.false_eq_true, if_false]
  refine int_in b2 b3 ?_
  simp only [Bool.not_true, Bool.false_eq_true, if_false, rNext]
  refine hN _ _ ?_
  clear hN N
  walk_at "d"
  simp only [hm]
  walk_at "d"
  refine ⟨(by show 0 < 1000; decide), (by show 1 < 1000; decide), (by show 2 < 1000; decide), (by show 3 < 1000; decide), (by show 4 < 1000; decide), (by show 5 < 1000; decide), ?_⟩
  exact h
theorem make_arm {Γ : CL} {p t : Num} {lo hi : Int} {m : Bool} {μ : MH} {R : D → MH → Prop} (h1 : Can p) (h2 : Can t) (h3 : NZ t) (hb : 0 ≤ lo ∧ lo ≤ hi ∧ hi ≤ 1000) (s1 : Sz big p) (s2 : Sz big t) (h : R (armD Γ ⟨p, t, lo, hi, m⟩) μ) : gMake Γ.Arm (sp_Arm___init Γ) [numD p, numD t, .int lo, .int hi, .bl m] μ R := by
  intro x hx
  refine ⟨h1, h2, h3, hb, s1, s2, updM_same, rfl, ?_⟩
  rw [updM_updM, updM_same]
  show R _ (delM (updM μ x _) x)
  rw [delM_updM hx]
  exact h
theorem vc_law_arm (Γ : CL) : ∀ ds μ R, sp_law_arm Γ ds μ R → rd_law_arm Γ (fin R) (startD 1 ds) μ := by
  rintro ds μ R ⟨a, rfl, ⟨k1, k2, k3, b⟩, s, h⟩
  unfold rd_law_arm armTD
  walk_at "d"
  exact make_arm k1 k2 k3 b s.1 s.2 h
theorem deq_armT {a b : Am} : deq (armTD a) (armTD b) = decide (a = b) := by
  unfold armTD
  rw [deq_num', deq_num', deq_tt, deq_tt, deq_tt, deq_t0, deq_bl, deq_int, deq_int]
  obtain ⟨p, t, lo, hi, m⟩ := a
  obtain ⟨p', t', lo', hi', m'⟩ := b
  by_cases h1 : p = p' <;> by_cases h2 : t = t' <;> by_cases h3 : lo = lo' <;> by_cases h4 : hi = hi' <;> by_cases h5 : m = m' <;> simp [h1, h2, h3, h4, h5]
theorem vc_Arm___eq (Γ : CL) : ∀ ds μ R, sp_Arm___eq Γ ds μ R → rd_Arm___eq Γ (fin R) (startD 2 ds) μ := by
  rintro ds μ R ⟨a, b, rfl, h⟩
  unfold rd_Arm___eq
  rw [show startD 2 [armD Γ a, armD Γ b] = [some (armD Γ a), some (armD Γ b)] from rfl]
  simp only [rAndV, rRet, rUn, rVar, gt, gIsiO, isiC, insD_arm, if_true, rOp, rFld, lk_akey, true_and, fin]
  have e1 : isiC Γ.Arm μ (armD Γ b) = some true := by
    unfold isiC
    rw [insD_arm]
    exact if_pos rfl
  refine ⟨rfl, rfl, ?_⟩
  show R (.bl (deq (armTD a) (armTD b))) μ
  rw [deq_armT]
  exact h
/-! ### copies about a pole -/
theorem about_ok {p t : Num} {m : Bool} (hp : Can p) (ht : Can t) (nt : NZ t) : (aboutC p t m).ok := ⟨ht, nt, can_sub hp (can_mul ht (can_flip hp))⟩
theorem about_sz {p t : Num} {m : Bool} {n k : Nat} (hp : Can p) (ht : Can t) (sp : Sz n p) (st : Sz k t) : (aboutC p t m).sz (n + n + k + 3) :=
  ⟨st.mono (by omega), (Sz.add hp (can_opp (can_mul ht (can_flip hp))) sp (Sz.mul ht (can_flip hp) st (sz_flip sp)).opp).mono (by omega)⟩
theorem Am.eff_ok {a : Am} (h : a.ok) : a.eff.ok := about_ok h.1 h.2.1 h.2.2.1
theorem Am.eff_sz {a : Am} {n : Nat} (h : a.ok) (s : a.sz n) : a.eff.sz (n + n + n + 3) := about_sz h.1 h.2.1 s.1 s.2
theorem vc_copy_about (Γ : CL) : ∀ ds μ R, sp_copy_about Γ ds μ R → rd_copy_about Γ (fin R) (startD 4 ds) μ := by
  rintro ds μ R ⟨p, t, m, rfl, hp, ht, nt, sp, st, h⟩
  have ka := about_ok (m := m) hp ht nt
  have sa := about_sz (m := m) hp ht sp st
  have km := can_mul ht (can_flip (m := m) hp)
  have sm := Sz.mul ht (can_flip hp) st (sz_flip (m := m) sp)
  unfold rd_copy_about
  rw [show startD 4 [numD p, numD t, .bl m] = [some (numD p), some (numD t), some (.bl m), none] from rfl]
  refine seq_g fun N hN => ?_
  have fin' : N [some (numD p), some (numD t), some (.bl m), some (numD (mul t (flip m p)))] μ := by
    refine hN _ _ ?_
    clear hN N
    simp only [rRet, rMakeK, rCons, rVar, rCl, rNil, gt]
    refine less_n hp km (sp.mono (by decide)) (sm.mono (by decide)) ?_
    refine ⟨rfl, rfl, ?_⟩
    exact make_copy ht nt ka.2.2 (st.mono (by decide)) (sa.2.mono (by decide)) h
  simp only [rAsg, rCl, rCons, rVar, rNil, rIfE, rB, gt, rGN, st]
  cases m with
  | true =>
    refine ite_yes rfl ?_
    refine ovr_n ?_
    refine mul_n ht (can_ovr hp) (st.mono (by decide)) (sp.ovr.mono (by decide)) ?_
    exact fin'
  | false =>
    refine ite_no (by simp) ?_
    refine mul_n ht hp (st.mono (by decide)) (sp.mono (by decide)) ?_
    exact fin'
theorem vc_Arm_effect (Γ : CL) : ∀ ds μ R, sp_Arm_effect Γ ds μ R → rd_Arm_effect Γ (fin R) (startD 1 ds) μ := by
  rintro ds μ R ⟨a, rfl, k, s, h⟩
  unfold rd_Arm_effect
  rw [show startD 1 [armD Γ a] = [some (armD Γ a)] from rfl]
  simp only [rRet, rCl, rCons, rFld, rVar, rNil, gt, insD_arm, lk_pole, lk_aturn, lk_amirr, true_and]
  exact ⟨a.p, a.t, a.m, rfl, k.1, k.2.1, k.2.2.1, s.1, s.2, h⟩
/-! ### chains -/
theorem make_chain {Γ : CL} {ds : List D} {μ : MH} {R : D → MH → Prop} (hl : ds.length ≤ 6) (h : R (.ins Γ.Chain [("arms", .tup ds)]) μ) : gMakeS Γ.Chain (sp_Chain___init Γ) ds μ R := by
  refine ⟨Nat.le_trans hl (by decide), fun x hx => ?_⟩
  refine ⟨hl, updM_same, rfl, ?_⟩
  rw [updM_updM, updM_same]
  show R _ (delM (updM μ x _) x)
  rw [delM_updM hx]
  exact h
theorem make_chainA {Γ : CL} {as : List Am} {μ : MH} {R : D → MH → Prop} (hl : as.length ≤ 6) (h : R (chainD Γ as) μ) : gMakeS Γ.Chain (sp_Chain___init Γ) (as.map (armD Γ)) μ R := make_chain (by rw [List.length_map]; exact hl) h
theorem vc_Chain___init (Γ : CL) : ∀ ds μ R, sp_Chain___init Γ ds μ R → rd_Chain___init Γ (fin R) (startD 2 ds) μ := by
  intro ds μ R h
  unfold sp_Chain___init at h
  split at h <;> first | exact h.elim | skip
  rename_i a xs
  obtain ⟨h1, h2, h⟩ := h
  unfold rd_Chain___init
  rw [show startD 2 [.ref a, .tup xs] = [some (.ref a), some (.tup xs)] from rfl]
  refine seq_g fun N hN => ?_
  simp only [rIf, rB, rOp, rCl, rCons, rVar, rC, rNil, gt, gLen, res, seqD, c_MAX_ARMS, gI0]
  refine ite_no (by simp; omega) ?_
  refine hN _ _ ?_
  simp only [rFldS, rVar, gt, h2]
  refine ⟨trivial, by show 0 < 1000; decide, ?_⟩
  exact h
theorem vc_Chain___add (Γ : CL) : ∀ ds μ R, sp_Chain___add Γ ds μ R → rd_Chain___add Γ (fin R) (startD 3 ds) μ := by
  rintro ds μ R ⟨as, bs, rfl, hl, h⟩
  unfold rd_Chain___add
  rw [show startD 3 [chainD Γ as, chainD Γ bs] = [some (chainD Γ as), some (chainD Γ bs), none] from rfl]
  refine seq_g fun N hN => ?_
  simp only [rAsg, rTup, rStar, rFld, rVar, rNil, gt, insD_chain, lk_arms, res, seqD, true_and, List.append_nil, rGN, st]
  refine ⟨by rw [List.length_append, List.length_map, List.length_map]; exact Nat.le_trans hl (by decide), ?_⟩
  refine hN _ _ ?_
  simp only [rRet, rCl, rStar, rVar, rNil, gt, res, seqD, List.append_nil]
  rw [← List.map_append]
  refine make_chainA (by rw [List.length_append]; exact hl) h
theorem chain_loop {Γ : CL} {E : Ed} {s0 : Option D} {μ : MH} : ∀ (rs as : List Am) (x : Option D), (∀ a ∈ rs, a.ok ∧ a.sz big) → as.length + rs.length ≤ 6 → (∀ x, E.nx [s0, some (chainD Γ (as ++ rs)), x] μ) →
    forD (rGN 2) (rAsg (rOp (gOwn2 Γ.Chain (sp_Chain___add Γ)) (rVar 1) (rCl (gMakeS Γ.Chain (sp_Chain___init Γ)) (rCons (rCl (sp_law_arm Γ) (rCons (rVar 2) rNil)) rNil))) (rGN 1)) tru E (rs.map armTD) [s0, some (chainD Γ as), x] μ
  | [], as, x, _, _, h => ⟨trivial, by have := h x; rw [List.append_nil] at this; exact this⟩
  | a :: rs, as, x, ha, hl, h => by
    refine ⟨trivial, ?_⟩
    obtain ⟨ka, sa⟩ := ha a (List.mem_cons_self ..)
    rw [List.length_cons] at hl
    simp only [rGN, st, rAsg, rOp, rCl, rCons, rVar, rNil, gt]
    refine ⟨a, rfl, ka, sa, ?_⟩
    refine make_chainA (as := [a]) (by show 1 ≤ 6; decide) ?_
    rw [ownC_i]
    refine ⟨as, [a], rfl, by show as.length + 1 ≤ 6; omega, ?_⟩
    refine chain_loop rs (as ++ [a]) _ (fun b hb => ha b (List.mem_cons_of_mem _ hb)) (by rw [List.length_append]; show as.length + 1 + rs.length ≤ 6; omega) (fun x => ?_)
    rw [List.append_assoc]
    exact h x
theorem vc_law_chain (Γ : CL) : ∀ ds μ R, sp_law_chain Γ ds μ R → rd_law_chain Γ (fin R) (startD 3 ds) μ := by
  rintro ds μ R ⟨as, rfl, ha, hl, h⟩
  unfold rd_law_chain
  rw [show startD 3 [.lst (as.map armTD)] = [some (.lst (as.map armTD)), none, none] from rfl]
  refine seq_g fun N hN => ?_
  simp only [rAsg, rCl, rNil]
  refine make_chainA (as := []) (by decide) ?_
  simp only [rGN, st]
  refine hN _ _ ?_
  clear hN N
  refine seq_g fun N hN => ?_
  simp only [rFor, rILst, rVar, gt]
  refine chain_loop as [] none ha (by show 0 + as.length ≤ 6; omega) (fun x => ?_)
  refine hN _ _ ?_
  simp only [rRet, rVar, gt, List.nil_append]
  exact h
theorem atI_last {α : Type} (l : List α) (x : α) : atI (l ++ [x]) (-1) = some x := by
  unfold atI ixN
  have h1 : ¬ (0 : Int) ≤ -1 := by decide
  have h2 : -((l ++ [x]).length : Int) ≤ -1 := by rw [List.length_append]; show -(((l.length + 1 : Nat)) : Int) ≤ -1; omega
  rw [if_neg h1, if_pos h2]
  have e : (-1 + ((l ++ [x]).length : Int)).toNat = l.length := by rw [List.length_append]; show (-1 + (((l.length + 1 : Nat)) : Int)).toNat = _; omega
  show (l ++ [x])[(-1 + ((l ++ [x]).length : Int)).toNat]? = _
  rw [e, List.getElem?_append_right (Nat.le_refl _), Nat.sub_self]
  rfl
theorem aheads_last : ∀ (c : Cp) (as : List Am), ∃ pre, aheads c as = pre ++ [effFrom c as] ∧ pre.length = as.length
  | c, [] => ⟨[], rfl, rfl⟩
  | c, a :: r => by
    obtain ⟨pre, e, l⟩ := aheads_last (c.comp a.eff) r
    exact ⟨c :: pre, by show c :: aheads _ _ = _; rw [e]; rfl, by show pre.length + 1 = r.length + 1; rw [l]⟩
theorem updM_self {μ : MH} {a : Addr} {m n : MO} : updM (updM μ a m) a n = updM μ a n := updM_updM
theorem ahead_loop {Γ : CL} {E : Ed} {s0 : Option D} {p : Addr} {μ : MH} : ∀ (as : List Am) (c : Cp) (pre : List D) (x : Option D), okA c as → c.ok → pre.length + as.length ≤ 6 →
    (∀ x, E.nx [s0, some (.ref p), x] (updM μ p (.lst (pre ++ (aheads c as).map (copyD Γ))))) →
    forD (rGN 2) (rDrop (rMut (rVar 1) (rCons (rOp (gOwn2 Γ.Copy (sp_Copy___rshift Γ)) (rOp gIx (rVar 1) (rUn (gU fun i => .int (-i)) (rC (.int 1)))) (rOwn Γ.Arm (sp_Arm_effect Γ) (rVar 2) rNil)) rNil) gAppend)) tru E (as.map (armD Γ)) [s0, some (.ref p), x] (updM μ p (.lst (pre ++ [copyD Γ c])))
  | [], c, pre, x, _, _, _, h => ⟨trivial, h x⟩
  | a :: as, c, pre, x, hk, kc, hl, h => by
    refine ⟨trivial, ?_⟩
    obtain ⟨sc, sa, se, ka, hk⟩ := hk
    rw [List.length_cons] at hl
    simp only [rGN, st, rDrop, rMut, rVar, gt, updM_same, rCons, rOp, rUn, rC, gU, gIx_r, res, seqD]
    have ei : atI (pre ++ [copyD Γ c]) (-(1 : Int)) = some (copyD Γ c) := atI_last _ _
    simp only [ei, rOwn, rVar, gt, insD_arm, rNil]
    refine ⟨trivial, rfl, a, rfl, ka, sa, ?_⟩
    simp only [own2_c]
    refine rsh_i kc (Am.eff_ok ka) sc se ?_
    simp only [updM_same, gAppend]
    refine ⟨by rw [List.length_append]; show pre.length + 1 < 2 ^ 24; omega, ?_⟩
    rw [updM_updM]
    refine ahead_loop as (c.comp a.eff) (pre ++ [copyD Γ c]) _ hk (Cp.comp_ok kc (Am.eff_ok ka)) (by rw [List.length_append]; show pre.length + 1 + as.length ≤ 6; omega) (fun x => ?_)
    rw [List.append_assoc]
    exact h x
theorem vc_copies_ahead (Γ : CL) : ∀ ds μ R, sp_copies_ahead Γ ds μ R → rd_copies_ahead Γ (fin R) (startD 3 ds) μ := by
  rintro ds μ R ⟨as, rfl, hk, hl, h⟩
  unfold rd_copies_ahead
  rw [show startD 3 [.tup (as.map (armD Γ))] = [some (.tup (as.map (armD Γ))), none, none] from rfl]
  refine seq_g fun N hN => ?_
  simp only [rAsg, rLstM, rCons, rMakeD, rC, rNil, cONE, cZERO, List.cons_append, List.nil_append]
  refine small_copy ?_
  refine ⟨by show 1 ≤ 2 ^ 24; decide, fun p hp => ?_⟩
  simp only [rGN, st]
  refine hN _ _ ?_
  clear hN N
  refine seq_g fun N hN => ?_
  simp only [rFor, rITup, rVar, gt]
  refine ahead_loop as Cp.id [] none hk Cp.id_ok (by show 0 + as.length ≤ 6; omega) (fun x => ?_)
  refine hN _ _ ?_
  simp only [rRet, rFrz, rVar, gt, frz, updM_same, List.nil_append]
  show R _ (delM (updM μ p _) p)
  rw [delM_updM hp]
  exact h
theorem vc_Chain_effect (Γ : CL) : ∀ ds μ R, sp_Chain_effect Γ ds μ R → rd_Chain_effect Γ (fin R) (startD 1 ds) μ := by
  rintro ds μ R ⟨as, rfl, hk, hl, h⟩
  unfold rd_Chain_effect
  rw [show startD 1 [chainD Γ as] = [some (chainD Γ as)] from rfl]
  simp only [rRet, rOp, rCl, rCons, rFld, rVar, rNil, gt, insD_chain, lk_arms, true_and, rUn, rC, gU]
  refine ⟨as, rfl, hk, hl, ?_⟩
  obtain ⟨pre, e, _⟩ := aheads_last Cp.id as
  rw [e, List.map_append, gIx_l, List.map_cons, List.map_nil]
  have ei : atI (pre.map (copyD Γ) ++ [copyD Γ (effFrom Cp.id as)]) (-(1 : Int)) = some (copyD Γ (effFrom Cp.id as)) := atI_last _ _
  rw [ei]
  exact h
theorem sl_line {a b c : Int} {μ : MH} {R : D → MH → Prop} (h : R (.tup [.int a, .int b, .int c]) μ) : gSl (.tup [.str "line", .int a, .int b, .int c]) (some 1) none μ R := h
theorem vc_single (Γ : CL) : ∀ ds μ R, sp_single Γ ds μ R → rd_single Γ (fin R) (startD 7 ds) μ := by
  rintro ds μ R ⟨as, rfl, hk, hl, ke, se, h⟩
  unfold rd_single
  rw [show startD 7 [chainD Γ as] = [some (chainD Γ as), none, none, none, none, none, none] from rfl]
  refine seq_g fun N hN => ?_
  simp only [rAsg, rOwn, rVar, rNil, gt, insD_chain, true_and]
  refine ⟨rfl, as, rfl, hk, hl, ?_⟩
  simp only [rGN, st]
  refine hN _ _ ?_
  clear hN N
  generalize effAll as = e at *
  refine seq_g fun N hN => ?_
  simp only [rAsg, rCl, rCons, rVar, rNil, gt]
  refine kept_i ke (se.mono (by decide)) ?_
  simp only [rGN, st]
  refine hN _ _ ?_
  clear hN N
  have hs : singleK e = match poleK e with | none => none | some z => some ⟨z, e.t, 0, 1000, e.m⟩ := rfl
  have hp : poleK e = match keptK e with | .none => none | .spot z => some z | .all => some zero | .line a b c => some (low (a * c) (b * c) (a * a + b * b)) := rfl
  have last : ∀ (K : Kp) (z : Num) (x4 x5 x6 : Option D), poleK e = some z → Can z → Sz big z → rRet (rMakeK (gMake Γ.Arm (sp_Arm___init Γ)) 4 1 gD_Arm_mirrored (rCons (rVar 3) (rCons (rFld Γ.Copy "turn" (rVar 1)) (rCons (rC (.int 0)) (rCons (rC c_MAX_REACH_chains) rNil)))) (rCons (rFld Γ.Copy "mirrored" (rVar 1)) rNil)) (fin R) [some (chainD Γ as), some (copyD Γ e), some K.D, some (numD z), x4, x5, x6] μ := by
    intro K z x4 x5 x6 hz kz sz
    simp only [rRet, rMakeK, rCons, rVar, rFld, rC, rNil, gt, insD_copy, lk_turn, lk_mirrored, true_and]
    refine ⟨rfl, rfl, ?_⟩
    refine make_arm kz ke.1 ke.2.1 (by decide) sz (se.1.mono (by decide)) ?_
    rw [hz] at hs
    rw [hs] at h
    exact h
  refine seq_g fun N hN => ?_
  cases hK : keptK e with
  | none =>
    rw [hK] at hp
    rw [hp] at hs
    rw [hs] at h
    simp only [rIf, rB, rOp, rVar, rC, gt, Kp.D, gIx_t, atI_0, List.getElem?_cons_zero, gEq_none_none, if_true, rRet]
    exact h
  | spot z =>
    rw [hK] at hp
    obtain ⟨kz, sz⟩ := kept_spot ke se hK
    have l := last (.spot z) z none none none hp kz (sz.mono (by decide))
    simp only [rIf, rB, rOp, rVar, rC, gt, Kp.D, gIx_t, atI_0, List.getElem?_cons_zero, gEq_spot_none, Bool.false_eq_true, if_false, rNext]
    refine hN _ _ ?_
    clear hN N
    refine seq_g fun N hN => ?_
    simp only [rIf, rB, rOp, rVar, rC, gt, gIx_t, atI_0, List.getElem?_cons_zero, gEq_spot_spot, if_true, rAsg, atI_1, List.getElem?_cons_succ, rGN, st]
    exact hN _ _ l
  | all =>
    rw [hK] at hp
    have l := last .all zero none none none hp can_zero (by unfold Sz Bt; decide +kernel)
    simp only [rIf, rB, rOp, rVar, rC, gt, Kp.D, gIx_t, atI_0, List.getElem?_cons_zero, gEq_all_none, Bool.false_eq_true, if_false, rNext]
    refine hN _ _ ?_
    clear hN N
    refine seq_g fun N hN => ?_
    simp only [rIf, rB, rOp, rVar, rC, gt, gIx_t, atI_0, List.getElem?_cons_zero, gEq_all_spot, gEq_all_all, Bool.false_eq_true, if_false, if_true, rAsg, cZERO, rGN, st]
    exact hN _ _ l
  | line a b c =>
    rw [hK] at hp
    obtain ⟨⟨l1, l2, l3⟩, hn, _⟩ := kept_line ke se hK
    have b1 : Bt 406 a := l1.mono (by decide)
    have b2 : Bt 406 b := l2.mono (by decide)
    have b3 : Bt 406 c := l3.mono (by decide)
    have sz : Sz 813 (low (a * c) (b * c) (a * a + b * b)) := low_sz (ab_ne hn) ((b1.mul b3).mono (by decide)) ((b2.mul b3).mono (by decide)) ((b1.mul b1).add (b2.mul b2))
    have l := last (.line a b c) _ (some (.int a)) (some (.int b)) (some (.int c)) hp (low_can (ab_ne hn)) (sz.mono (by decide))
    have cb : ∀ {i j : Int}, Bt 406 i → Bt 406 j → CBig i j := fun h l => CB h l (by decide) (by decide)
    simp only [rIf, rB, rOp, rVar, rC, gt, Kp.D, gIx_t, atI_0, List.getElem?_cons_zero, gEq_line_none, Bool.false_eq_true, if_false, rNext]
    refine hN _ _ ?_
    clear hN N
    refine seq_g fun N hN => ?_
    simp only [rIf, rB, rOp, rVar, rC, gt, gIx_t, atI_0, List.getElem?_cons_zero, gEq_line_spot, gEq_line_all, Bool.false_eq_true, if_false]
    refine seq_g fun N2 h2 => ?_
    simp only [rAsg, rSl, rVar, rPart, rC, rNoPart, gt]
    refine sl_line ?_
    refine ⟨rfl, ?_⟩
    simp only [rGCons, rGNil, rGN, st, true_and]
    refine h2 _ _ ?_
    clear h2 N2
    simp only [rAsg, rCl, rCons, rOp, rVar, rNil, gt, gMul, gI, gAdd, gI0, rGN, st]
    refine ⟨cb b1 b3, cb b2 b3, cb b1 b1, cb b2 b2, ab_ne hn, (b1.mul b3).mono (by decide), (b2.mul b3).mono (by decide), ((b1.mul b1).add (b2.mul b2)).mono (by decide), ?_⟩
    exact hN _ _ l
/-! ### the law's own arms -/
theorem vc_law_step (Γ : CL) : ∀ ds μ R, sp_law_step Γ ds μ R → rd_law_step Γ (fin R) (startD 2 ds) μ := by
  rintro ds μ R ⟨g, n, xs, rfl, n0, n10, hm, hx, h⟩
  unfold rd_law_step
  rw [show startD 2 [.ref g, .int n] = [some (.ref g), some (.int n)] from rfl]
  have cb : CBig 2 n := ⟨bt_small (by decide) (by decide), bt_small (by omega) (by decide)⟩
  simp only [rRet, rTup, rCons, rOp, rCl, rVar, rC, rNil, gt, gMul, gI, gAdd, gSub, gI0]
  refine ⟨cb, g, 2 * n + 1, xs, rfl, by omega, by omega, hm, hx, fun a ys a0 a1 hy => ?_⟩
  refine ⟨cb, g, 2 * n + 1, ys, rfl, by omega, by omega, updM_same, hy, fun b ys2 b0 b1 hy2 => ?_⟩
  refine ⟨by show 3 ≤ 2 ^ 24; decide, ?_⟩
  rw [updM_updM]
  exact h (a - n) (b - n) ys2 (by omega) (by omega) (by omega) (by omega) hy2
theorem can_i1 (x y : Int) : Can ⟨x, y, 1⟩ := ⟨by show (0 : Int) < 1; decide, by
  show gz (gz x y) 1 = 1
  have h1 := gz_dr (gz x y) 1
  have h2 := gz_pos (a := gz x y) (show (1 : Int) ≠ 0 by decide)
  have := Int.le_of_dvd (by decide) h1
  omega⟩
theorem vc_law_arm_told (Γ : CL) : ∀ ds μ R, sp_law_arm_told Γ ds μ R → rd_law_arm_told Γ (fin R) (startD 3 ds) μ := by
  rintro ds μ R ⟨g, xs, rfl, hm, hx, h⟩
  unfold rd_law_arm_told
  rw [show startD 3 [.ref g] = [some (.ref g), none, none] from rfl]
  refine seq_g fun N hN => ?_
  have s1 : ∀ lo ys, 0 ≤ lo → lo ≤ 2 → RL ys → N [some (.ref g), some (.int lo), none] (updM μ g (.lst ys)) := by
    intro lo ys lo0 lo2 hy
    refine hN _ _ ?_
    clear hN N
    refine seq_g fun N hN => ?_
    have s2 : ∀ z ys, Small z → RL ys → N [some (.ref g), some (.int lo), some (numD z)] (updM μ g (.lst ys)) := by
      intro z ys kz hy
      refine hN _ _ ?_
      clear hN N
      simp only [rRet, rTup, rCons, rCl, rVar, rC, rNil, gt, rOp, rLst]
      refine ⟨g, ys, rfl, updM_same, hy, fun t ys kt nt hy => ?_⟩
      refine ⟨by show 4 ≤ 2 ^ 24; decide, ?_⟩
      refine ⟨g, 4, ys, rfl, by decide, by decide, updM_same, hy, fun r ys r0 r1 hy => ?_⟩
      have s3 : ∀ q, q = 3 ∨ q = 8 ∨ q = 20 ∨ q = 99 → gAdd (.int lo) (.int q) (updM (updM (updM μ g (.lst ys)) g (.lst ys)) g (.lst ys)) fun d μ1 => rOp gEq (rCl (sp_law_below Γ) (rCons (rVar 0) (rCons (rC (.int 3)) rNil))) (rC (.int 0)) [some (.ref g), some (.int lo), some (numD z)] μ1 fun e μ2 => [numD z, numD t, .int lo, d, e].length ≤ sizeLine ∧ R (.tup [numD z, numD t, .int lo, d, e]) μ2 := by
        intro q hq
        simp only [gAdd, gI0, rOp, rCl, rCons, rVar, rC, rNil, gt, updM_updM]
        refine ⟨g, 3, ys, rfl, by decide, by decide, updM_same, hy, fun b ys b0 b1 hy => ?_⟩
        simp only [gEq_i, updM_updM]
        refine ⟨by show 5 ≤ 2 ^ 24; decide, ?_⟩
        exact h ⟨z, t, lo, lo + q, b == 0⟩ ys ⟨kz, kt, nt, lo0, lo2, by show lo ≤ lo + q; omega, by show lo + q ≤ 101; omega⟩ hy
      simp only [updM_updM] at s3 ⊢
      have : r = 0 ∨ r = 1 ∨ r = 2 ∨ r = 3 := by omega
      rcases this with rfl | rfl | rfl | rfl
      · exact s3 3 (by decide)
      · exact s3 8 (by decide)
      · exact s3 20 (by decide)
      · exact s3 99 (by decide)
    clear hN
    simp only [rAsg, rIfE, rB, rCl, rCons, rVar, rC, rNil, gt, rOp]
    refine ⟨g, 3, ys, rfl, by decide, by decide, updM_same, hy, fun r ys r0 r1 hy => ?_⟩
    simp only [gGt, gI0, updM_updM]
    by_cases hr : 0 < r
    · refine ite_yes (by simp [hr]) ?_
      refine ⟨g, 4, ys, rfl, by decide, by decide, updM_same, hy, fun x y ys x0 x1 y0 y1 hy => ?_⟩
      simp only [updM_updM]
      exact s2 ⟨x, y, 1⟩ ys ⟨can_i1 x y, by unfold Sz Bt; simp only; omega⟩ hy
    · refine ite_no (by simp [hr]) ?_
      refine ⟨g, ys, rfl, updM_same, hy, fun z ys kz hy => ?_⟩
      simp only [updM_updM]
      exact s2 z ys kz hy
  clear hN
  simp only [rAsg, rOp, rLst, rCl, rCons, rVar, rC, rNil, gt]
  refine ⟨by show 4 ≤ 2 ^ 24; decide, ?_⟩
  refine ⟨g, 4, xs, rfl, by decide, by decide, hm, hx, fun r ys r0 r1 hy => ?_⟩
  have : r = 0 ∨ r = 1 ∨ r = 2 ∨ r = 3 := by omega
  rcases this with rfl | rfl | rfl | rfl
  · exact s1 0 ys (by decide) (by decide) hy
  · exact s1 0 ys (by decide) (by decide) hy
  · exact s1 1 ys (by decide) (by decide) hy
  · exact s1 2 ys (by decide) (by decide) hy
end L3

/-! ## V9 -/
set_option Elab.async false
set_option linter.all false
set_option maxRecDepth 100000
set_option maxHeartbeats 1000000
namespace L3
open PySem NM L2
theorem gIx_f0 {z : Num} {μ : MH} {R : D → MH → Prop} : gIx (frD z) (.int 0) μ R = R (.int z.x) μ := rfl
theorem gIx_f1 {z : Num} {μ : MH} {R : D → MH → Prop} : gIx (frD z) (.int 1) μ R = R (.int z.d) μ := rfl
theorem vc_law_ratio (Γ : CL) : ∀ ds μ R, sp_law_ratio Γ ds μ R → rd_law_ratio Γ (fin R) (startD 2 ds) μ := by
  intro ds μ R h
  unfold sp_law_ratio at h
  split at h <;> first | exact h.elim | skip
  rename_i p q
  obtain ⟨h1, sp, sq, h⟩ := h
  unfold rd_law_ratio
  rw [show startD 2 [.int p, .int q] = [some (.int p), some (.int q)] from rfl]
  have z0 : Bt big 0 := by unfold Bt; exact Nat.two_pow_pos _
  simp only [rRet, rTup, rCons, rOp, rCl, rVar, rC, rNil, gt]
  refine ⟨h1, sp, z0, sq, ?_⟩
  simp only [gIx_n0]
  refine ⟨h1, sp, z0, sq, ?_⟩
  simp only [gIx_n2]
  refine ⟨by show 2 ≤ 2 ^ 24; decide, ?_⟩
  exact h
theorem vc_law_size (Γ : CL) : ∀ ds μ R, sp_law_size Γ ds μ R → rd_law_size Γ (fin R) (startD 1 ds) μ := by
  intro ds μ R h
  unfold sp_law_size at h
  split at h <;> first | exact h.elim | skip
  rename_i x y d
  obtain ⟨h1, ⟨s1, s2, s3⟩, h⟩ := h
  unfold rd_law_size
  rw [show startD 1 [.tup [.int x, .int y, .int d]] = [some (numD ⟨x, y, d⟩)] from rfl]
  have cb : ∀ {i j : Int}, Bt half i → Bt half j → CBig i j := fun h l => CB h l (by decide) (by decide)
  simp only [rRet, rCl, rCons, rOp, rVar, rC, rNil, gt, gIx_n0, gIx_n1, gIx_n2, gMul, gI, gAdd, gI0]
  refine ⟨cb s1 s1, cb s2 s2, cb s3 s3, Int.mul_ne_zero h1 h1, ((s1.mul s1).add (s2.mul s2)).mono (by decide), (s3.mul s3).mono (by decide), ?_⟩
  exact h
theorem vc_law_less (Γ : CL) : ∀ ds μ R, sp_law_less Γ ds μ R → rd_law_less Γ (fin R) (startD 2 ds) μ := by
  intro ds μ R h
  unfold sp_law_less at h
  split at h <;> first | exact h.elim | skip
  rename_i a b c d
  obtain ⟨s1, s2, s3, s4, h⟩ := h
  unfold rd_law_less
  rw [show startD 2 [.tup [.int a, .int b], .tup [.int c, .int d]] = [some (.tup [.int a, .int b]), some (.tup [.int c, .int d])] from rfl]
  simp only [rRet, rOp, rVar, rC, gt, gIx_t, atI_0, atI_1, List.getElem?_cons_zero, List.getElem?_cons_succ, gMul, gI, gLt, gI0]
  exact ⟨⟨s1, s4⟩, ⟨s3, s2⟩, h⟩
section
variable {Γ : CL} {μ : MH} {Q : D → MH → Prop}
theorem lsize_i {z : Num} (h : Can z) (s : Sz half z) (q : Q (frD (szN z)) μ) : sp_law_size Γ [numD z] μ Q := ⟨ne_d h, s, q⟩
theorem lless_i {a b c d : Int} (h1 : Bt big a) (h2 : Bt big b) (h3 : Bt big c) (h4 : Bt big d) (q : Q (.bl (decide (a * d < c * b))) μ) : sp_law_less Γ [.tup [.int a, .int b], .tup [.int c, .int d]] μ Q := ⟨h1, h2, h3, h4, q⟩
theorem lfr_i {z w : Num} (h1 : Sz big z) (h2 : Sz big w) (q : Q (.bl (decide (z.x * w.d < w.x * z.d))) μ) : sp_law_less Γ [frD z, frD w] μ Q := ⟨h1.1, h1.2.2, h2.1, h2.2.2, q⟩
theorem lratio_i {p q : Int} (h : q ≠ 0) (h1 : Bt big p) (h2 : Bt big q) (r : Q (frD (low p 0 q)) μ) : sp_law_ratio Γ [.int p, .int q] μ Q := ⟨h, h1, h2, r⟩
end
theorem vc_law_reached (Γ : CL) : ∀ ds μ R, sp_law_reached Γ ds μ R → rd_law_reached Γ (fin R) (startD 3 ds) μ := by
  rintro ds μ R ⟨a, z, rfl, ka, sp, kz, sz, h⟩
  have kp := ka.1
  have ks := can_sub kz ka.1
  have ss : Sz 1801 (sub z a.p) := Sz.add kz (can_opp ka.1) sz sp.opp
  have s2 := sz_szN ks ss
  obtain ⟨_, _, _, b1, b2, b3⟩ := ka
  have l1 : Bt 10 a.lo := by unfold Bt; omega
  have l2 : Bt 10 a.hi := by unfold Bt; omega
  have l3 : Bt big 1 := bt_small (by decide) (by decide)
  unfold rd_law_reached
  rw [show startD 3 [armTD a, numD z] = [some (armTD a), some (numD z), none] from rfl]
  have i0 : ∀ (μ : MH) (Q : D → MH → Prop), gIx (armTD a) (.int 0) μ Q = Q (numD a.p) μ := fun _ _ => rfl
  have i2 : ∀ (μ : MH) (Q : D → MH → Prop), gIx (armTD a) (.int 2) μ Q = Q (.int a.lo) μ := fun _ _ => rfl
  have i3 : ∀ (μ : MH) (Q : D → MH → Prop), gIx (armTD a) (.int 3) μ Q = Q (.int a.hi) μ := fun _ _ => rfl
  refine seq_g fun N hN => ?_
  simp only [rAsg, rCl, rCons, rOp, rVar, rC, rNil, gt, i0]
  refine minus_i kz kp (sz.mono (by decide)) (sp.mono (by decide)) ?_
  refine lsize_i ks (ss.mono (by decide)) ?_
  simp only [rGN, st]
  refine hN _ _ ?_
  clear hN N
  simp only [rRet, rAndV, rNotV, rCl, rCons, rTup, rOp, rVar, rC, rNil, gt, i2, gMul, gI]
  refine ⟨CB l1 l1 (by decide) (by decide), by show 2 ≤ 2 ^ 24; decide, ?_⟩
  refine lless_i (s2.1.mono (by decide)) (s2.2.2.mono (by decide)) ((l1.mul l1).mono (by decide)) l3 ?_
  unfold reachB at h
  by_cases q : (szN (sub z a.p)).x * 1 < a.lo * a.lo * (szN (sub z a.p)).d
  · rw [decide_eq_true q] at h ⊢
    simp only [Bool.not_true, Bool.false_eq_true, if_false]
    exact h
  · rw [decide_eq_false q] at h ⊢
    simp only [Bool.not_false, if_true, rOp, rVar, rC, gt, i3, gI]
    refine ⟨CB l2 l2 (by decide) (by decide), by show 2 ≤ 2 ^ 24; decide, ?_⟩
    refine lless_i ((l2.mul l2).mono (by decide)) l3 (s2.1.mono (by decide)) (s2.2.2.mono (by decide)) ?_
    exact h
theorem vc_law_about (Γ : CL) : ∀ ds μ R, sp_law_about Γ ds μ R → rd_law_about Γ (fin R) (startD 7 ds) μ := by
  rintro ds μ R ⟨⟨p, t, lo, hi, m⟩, rfl, ⟨hp, ht, nt, _⟩, ⟨sp, st'⟩, h⟩
  simp only at hp ht nt sp st'
  have km := can_mul ht (can_flip (m := m) hp)
  have sm := Sz.mul ht (can_flip hp) st' (sz_flip (m := m) sp)
  unfold rd_law_about armTD
  rw [show startD 7 [.tup [numD p, numD t, .int lo, .int hi, .bl m]] = [some (.tup [numD p, numD t, .int lo, .int hi, .bl m]), none, none, none, none, none, none] from rfl]
  refine seq_g fun N hN => ?_
  simp only [rAsg, rVar, gt]
  refine ⟨rfl, ?_⟩
  simp only [rGCons, rGNil, rGN, st, true_and]
  refine hN _ _ ?_
  clear hN N
  refine seq_g fun N hN => ?_
  have fin' : N [some (.tup [numD p, numD t, .int lo, .int hi, .bl m]), some (numD p), some (numD t), some (.int lo), some (.int hi), some (.bl m), some (numD (mul t (flip m p)))] μ := by
    refine hN _ _ ?_
    simp only [rRet, rTup, rCons, rCl, rVar, rNil, gt]
    refine minus_i hp km (sp.mono (by decide)) (sm.mono (by decide)) ?_
    refine ⟨by show 3 ≤ 2 ^ 24; decide, ?_⟩
    exact h
  simp only [rAsg, rCl, rCons, rVar, rNil, rIfE, rB, gt, rGN, st]
  cases m with
  | true =>
    refine ite_yes rfl ?_
    refine over_i ?_
    exact times_i ht (can_ovr hp) (st'.mono (by decide)) (sp.ovr.mono (by decide)) fin'
  | false =>
    refine ite_no (by simp) ?_
    exact times_i ht hp (st'.mono (by decide)) (sp.mono (by decide)) fin'
/-! ### zones -/
theorem ratD_eq {n d : Int} (h : 0 < d) : ratD n d = frD (low n 0 d) := by
  unfold ratD frD low
  simp only [gz_0, h, if_true, Int.one_mul]
theorem ratio_i {Γ : CL} {μ : MH} {Q : D → MH → Prop} {n d : Int} (h : 0 < d) (s : Bt big d) (q : Q (frD (low n 0 d)) μ) : sp_ratio Γ [.int n, .int d] μ Q := ⟨by omega, s, by rw [ratD_eq h]; exact q⟩
theorem zones_loop {Γ : CL} {E : Ed} {s0 : Option D} {p : Addr} {μ : MH} : ∀ (as : List Am) (c : Cp) (pre : List D) (x2 x3 x4 x5 x6 : Option D), okZ c as → pre.length + as.length ≤ 6 →
    (∀ x2 x3 x4 x5, E.nx [s0, some (.ref p), x2, x3, x4, x5, x6] (updM μ p (.lst (pre ++ (zonesL c as).map rgD)))) →
    forD (rGTup 2 (rGCons (rGN 2) (rGCons (rGN 3) rGNil))) (rSeq (rAsg (rOwn Γ.Copy (sp_Copy_growth Γ) (rVar 3) rNil) (rGN 4))
 (rSeq (rAsg (rLc (rITup (rTup (rCons (rFld Γ.Arm "near" (rVar 2)) (rCons (rFld Γ.Arm "far" (rVar 2)) rNil)))) (rGN 6) rTrue (rCl (sp_ratio Γ) (rCons (rOp gMul (rOp gMul (rVar 6) (rVar 6)) (rOp gIx (rVar 4) (rC (.int 1)))) (rCons (rOp gIx (rVar 4) (rC (.int 0))) rNil))) [6]) (rGN 5))
 (rDrop (rMut (rVar 1) (rCons (rTup (rCons (rCl (sp_carried Γ) (rCons (rUn (gOwn1 Γ.Copy (sp_Copy___invert Γ)) (rVar 3)) (rCons (rFld Γ.Arm "pole" (rVar 2)) rNil))) (rCons (rOp gIx (rVar 5) (rC (.int 0))) (rCons (rOp gIx (rVar 5) (rC (.int 1))) rNil)))) rNil) gAppend)))) tru E (zipD (as.map (armD Γ)) ((aheads c as).map (copyD Γ))) [s0, some (.ref p), x2, x3, x4, x5, x6] (updM μ p (.lst pre))
  | [], c, pre, x2, x3, x4, x5, x6, _, _, h => ⟨trivial, by have := h x2 x3 x4 x5; rw [show (zonesL c []).map rgD = [] from rfl, List.append_nil] at this; exact this⟩
  | a :: as, c, pre, x2, x3, x4, x5, x6, hk, hl, h => by
    obtain ⟨kc, sc, ka, sa, hk⟩ := hk
    rw [List.length_cons] at hl
    refine ⟨trivial, ?_⟩
    refine ⟨rfl, ?_⟩
    simp only [rGCons, rGNil, rGN, st, true_and]
    have ks := can_szN (ne_d kc.1)
    have ss := sz_szN kc.1 sc.1
    have ps := szN_pos kc.1 kc.2.1
    have ki := Cp.inv_ok kc
    have si := Cp.inv_sz kc sc
    obtain ⟨_, _, _, b1, b2, b3⟩ := id ka
    have l1 : Bt 10 a.lo := by unfold Bt; omega
    have l2 : Bt 10 a.hi := by unfold Bt; omega
    refine seq_g fun N hN => ?_
    simp only [rAsg, rOwn, rVar, rNil, gt, insD_copy, true_and]
    refine ⟨rfl, ?_⟩
    refine grow_i kc (sc.mono (by decide)) ?_
    simp only [rGN, st]
    refine hN _ _ ?_
    clear hN N
    refine seq_g fun N hN => ?_
    have i0 : ∀ (μ : MH) (Q : D → MH → Prop), gIx (.tup [.int (szN c.t).x, .int (szN c.t).d]) (.int 0) μ Q = Q (.int (szN c.t).x) μ := fun _ _ => rfl
    have i1 : ∀ (μ : MH) (Q : D → MH → Prop), gIx (.tup [.int (szN c.t).x, .int (szN c.t).d]) (.int 1) μ Q = Q (.int (szN c.t).d) μ := fun _ _ => rfl
    simp only [rAsg, rLc, rITup, rTup, rCons, rFld, rVar, rNil, gt, insD_arm, lk_near, lk_far, true_and, rms, rm]
    refine ⟨by show 2 ≤ 2 ^ 24; decide, by show 2 ≤ 2 ^ 24; decide, ?_⟩
    simp only [lcD, rGN, st, rTrue, if_true, rCl, rCons, rOp, rVar, rC, rNil, gt, i0, i1, gMul, gI]
    refine ⟨trivial, CB l1 l1 (by decide) (by decide), ⟨(l1.mul l1).mono (by decide), ss.2.2.mono (by decide)⟩, ?_⟩
    refine ratio_i ps (ss.1.mono (by decide)) ?_
    refine ⟨trivial, CB l2 l2 (by decide) (by decide), ⟨(l2.mul l2).mono (by decide), ss.2.2.mono (by decide)⟩, ?_⟩
    refine ratio_i ps (ss.1.mono (by decide)) ?_
    refine ⟨trivial, ?_⟩
    refine hN _ _ ?_
    clear hN N
    simp only [rDrop, rMut, rVar, gt, updM_same, rCons, rTup, rCl, rUn, rFld, rOp, rC, rNil, own1_c, List.nil_append, List.cons_append]
    refine inv_i kc (sc.mono (by decide)) ?_
    simp only [insD_arm, lk_pole, true_and]
    refine ⟨c.inv, a.p, rfl, ki, si.mono (by decide), ka.1, sa.1.mono (by decide), ?_⟩
    simp only [gIx_l, atI_0, atI_1, List.getElem?_cons_zero, List.getElem?_cons_succ]
    refine ⟨by show 3 ≤ 2 ^ 24; decide, ?_⟩
    simp only [updM_same, gAppend]
    refine ⟨by show pre.length < 2 ^ 24; omega, ?_⟩
    rw [updM_updM]
    refine zones_loop as (c.comp a.eff) (pre ++ [rgD (zoneOf c a)]) _ _ _ _ _ hk (by rw [List.length_append]; show pre.length + 1 + as.length ≤ 6; omega) (fun y2 y3 y4 y5 => ?_)
    rw [List.append_assoc]
    exact h y2 y3 y4 y5
theorem vc_zones (Γ : CL) : ∀ ds μ R, sp_zones Γ ds μ R → rd_zones Γ (fin R) (startD 7 ds) μ := by
  rintro ds μ R ⟨as, rfl, hk, hz, hl, h⟩
  unfold rd_zones
  rw [show startD 7 [chainD Γ as] = [some (chainD Γ as), none, none, none, none, none, none] from rfl]
  refine seq_g fun N hN => ?_
  simp only [rAsg, rLstM, rNil]
  refine ⟨by show 0 ≤ 2 ^ 24; decide, fun p hp => ?_⟩
  simp only [rGN, st]
  refine hN _ _ ?_
  clear hN N
  refine seq_g fun N hN => ?_
  simp only [rFor, rIZip, rCons, rFld, rCl, rVar, rNil, gt, insD_chain, lk_arms, true_and]
  refine ⟨as, rfl, hk, hl, ?_⟩
  simp only [rowD]
  refine zones_loop as Cp.id [] none none none none none hz (by show 0 + as.length ≤ 6; omega) (fun x2 x3 x4 x5 => ?_)
  refine hN _ _ ?_
  simp only [rRet, rFrz, rVar, gt, frz, updM_same, List.nil_append]
  show R _ (delM (updM μ p _) p)
  rw [delM_updM hp]
  exact h
end L3

/-! ## R_k22 -/
set_option Elab.async false
set_option linter.all false
set_option maxRecDepth 100000
set_option maxHeartbeats 4000000
namespace L3.K22
open PySem NM L2
def rd_law_t1 (Γ : CL) : RS := (rSeq (rAsg (rCl (sp_law_spot Γ) (rCons (rVar 1) rNil)) (rGN 11))
 (rSeq (rAsg (rCl (sp_single Γ) (rCons (rCl (gMakeS Γ.Chain (sp_Chain___init Γ)) (rCons (rMakeK (gMake Γ.Arm (sp_Arm___init Γ)) 4 1 gD_Arm_mirrored (rCons (rVar 11) (rCons (rTup (rCons (rC (.int 1)) (rCons (rC (.int 0)) (rCons (rC (.int 1)) rNil)))) (rCons (rC (.int 0)) (rCons (rC (.int 9)) rNil)))) (rCons (rC (.bl true)) rNil)) rNil)) rNil)) (rGN 12))
 (rSeq (rIf (rB (rOp gNe (rFld Γ.Arm "pole" (rVar 12)) (rCl (sp_law_lowest Γ) (rCons (rC (.int 0)) (rCons (rOp gIx (rVar 11) (rC (.int 1))) (rCons (rOp gIx (rVar 11) (rC (.int 2))) rNil))))))
 (rRet (rC (.bl false)))
 rNext)
 (rRet (rAndV (rOp (gOwn2 Γ.Arm (sp_Arm___eq Γ)) (rCl (sp_single Γ) (rCons (rCl (gMakeS Γ.Chain (sp_Chain___init Γ)) (rCons (rVar 7) rNil)) rNil)) (rVar 7)) (rOp gEq (rFld Γ.Arm "mirrored" (rVar 7)) (rFld Γ.Copy "mirrored" (rOwn Γ.Chain (sp_Chain_effect Γ) (rVar 6) rNil))))))))
def rd_law_t2 (Γ : CL) : RS := (rSeq (rIf (rB (rOp gIsN (rVar 7) (rC .non)))
 (rRet (rOp gEq (rVar 5) (rTup (rCons (rC (.str "none")) rNil))))
 rNext)
 (rSeq (rIf (rOr (rB (rOp gEq (rVar 5) (rTup (rCons (rC (.str "none")) rNil)))) (rOr (rNot (rB (rOp (gOwn2 Γ.Copy (sp_Copy___eq Γ)) (rOwn Γ.Arm (sp_Arm_effect Γ) (rVar 7) rNil) (rOwn Γ.Chain (sp_Chain_effect Γ) (rVar 6) rNil)))) (rB (rOp gNe (rTup (rCons (rFld Γ.Arm "near" (rVar 7)) (rCons (rFld Γ.Arm "far" (rVar 7)) rNil))) (rTup (rCons (rC (.int 0)) (rCons (rC (.int 1000)) rNil)))))))
 (rRet (rC (.bl false)))
 rNext)
 (rSeq (rIf (rOr (rAnd (rB (rOp gEq (rOp gIx (rVar 5) (rC (.int 0))) (rC (.str "spot")))) (rB (rOp gNe (rFld Γ.Arm "pole" (rVar 7)) (rOp gIx (rVar 5) (rC (.int 1)))))) (rAnd (rB (rOp gEq (rOp gIx (rVar 5) (rC (.int 0))) (rC (.str "all")))) (rB (rOp gNe (rFld Γ.Arm "pole" (rVar 7)) (rTup (rCons (rC (.int 0)) (rCons (rC (.int 0)) (rCons (rC (.int 1)) rNil))))))))
 (rRet (rC (.bl false)))
 rNext)
 (rSeq (rIf (rB (rOp gEq (rOp gIx (rVar 5) (rC (.int 0))) (rC (.str "line"))))
 (rSeq (rAsg (rSl (rVar 5) (rPart (rC (.int 1))) rNoPart) (rGTup 3 (rGCons (rGN 8) (rGCons (rGN 9) (rGCons (rGN 10) rGNil)))))
 (rIf (rOr (rB (rOp gNe (rOp gAdd (rOp gMul (rVar 8) (rOp gIx (rFld Γ.Arm "pole" (rVar 7)) (rC (.int 0)))) (rOp gMul (rVar 9) (rOp gIx (rFld Γ.Arm "pole" (rVar 7)) (rC (.int 1))))) (rOp gMul (rVar 10) (rOp gIx (rFld Γ.Arm "pole" (rVar 7)) (rC (.int 2)))))) (rB (rOp gNe (rOp gMul (rVar 8) (rOp gIx (rFld Γ.Arm "pole" (rVar 7)) (rC (.int 1)))) (rOp gMul (rVar 9) (rOp gIx (rFld Γ.Arm "pole" (rVar 7)) (rC (.int 0)))))))
 (rRet (rC (.bl false)))
 rNext))
 rNext)
 (rd_law_t1 Γ)))))
def rd_law_t3 (Γ : CL) : RS := (rSeq (rAsg (rCl (sp_law_chain Γ) (rCons (rVar 2) rNil)) (rGN 6))
 (rSeq (rPar 7 5 (rCons (rCl (sp_single Γ) (rCons (rVar 6) rNil)) (rCons (rCl (sp_kept Γ) (rCons (rOwn Γ.Chain (sp_Chain_effect Γ) (rVar 6) rNil) rNil)) rNil)))
 (rd_law_t2 Γ)))
/-- law(_law_script) : 0 _law_script, 1 _law_d, 2 _law_tolds, 3 _law_k, 4 _law_turn_here, 5 _law_told, 6 _law_chain_here, 7 _law_found, 8 _law_a, 9 _law_b, 10 _law_c, 11 _law_spot_here, 12 _law_level -/
def rd_law (Γ : CL) : RS := (rSeq (rAsg (rCl (sp_law_random Γ) (rCons (rVar 0) (rCons (rC (.int 22)) rNil))) (rGN 1))
 (rSeq (rAsg (rLc (rIRng1 (rCons (rCl (sp_law_below Γ) (rCons (rVar 1) (rCons (rC (.int 4)) rNil))) rNil)) (rGN 3) rTrue (rCl (sp_law_arm_told Γ) (rCons (rVar 1) rNil)) [3]) (rGN 2))
 (rSeq (rIf (rB (rOp gEq (rCl (sp_law_below Γ) (rCons (rVar 1) (rCons (rC (.int 2)) rNil))) (rC (.int 0))))
 (rSeq (rAsg (rOp gIx (rLst (rCons (rTup (rCons (rC (.int 1)) (rCons (rC (.int 0)) (rCons (rC (.int 1)) rNil)))) (rCons (rTup (rCons (rOp gSub (rC (.int 0)) (rC (.int 1))) (rCons (rC (.int 0)) (rCons (rC (.int 1)) rNil)))) (rCons (rTup (rCons (rC (.int 0)) (rCons (rC (.int 1)) (rCons (rC (.int 1)) rNil)))) (rCons (rTup (rCons (rC (.int 3)) (rCons (rC (.int 4)) (rCons (rC (.int 5)) rNil)))) rNil))))) (rCl (sp_law_below Γ) (rCons (rVar 1) (rCons (rC (.int 4)) rNil)))) (rGN 4))
 (rAsg (rLc (rILst (rVar 2)) (rGN 5) rTrue (rTup (rCons (rOp gIx (rVar 5) (rC (.int 0))) (rCons (rVar 4) (rCons (rOp gIx (rVar 5) (rC (.int 2))) (rCons (rOp gIx (rVar 5) (rC (.int 3))) (rCons (rOp gEq (rCl (sp_law_below Γ) (rCons (rVar 1) (rCons (rC (.int 2)) rNil))) (rC (.int 0))) rNil)))))) [5]) (rGN 2)))
 rNext)
 (rd_law_t3 Γ))))

end L3.K22

/-! ## V_k22 -/
set_option Elab.async false
set_option linter.all false
set_option maxRecDepth 100000
set_option maxHeartbeats 400000
namespace L3.K22
open PySem NM L2
local macro_rules | `(tactic| walk_at "l") => `(tactic| (try (simp only [rSeq, rAsg, rRet, rRetN, rDrop, rIf, rNext, rPar, rPar3, rCons, rNil, rStar, rCl, rOp, rUn, rVar, rC, rGN, rTup, rLst, rB, rAnd, rOr, rNot, rIfE, rAndV, rOrV, rNotV, rNever, rFld, rOwn, rMeth, rMakeK, rMakeD, rFldS, rFrz, rSetIx, rMut, rILst, rITup, rIRng1, rIRng2, rFor, rLc, rLcM, rTrue, gt, st, gI, gI0, gU, gIx_n0, gIx_n1, gIx_n2, gIx_o0, gIx_o1, gIx_o2, gIx_t, gIx_l, gIx_r, gEq_i, gNe_i, gEq_b, gNe_b, gEq_o, gEq_n, gNe_n, gEq_t, gNe_t, cONE, cZERO, gEq_all_all, gNe_all_all, gEq_all_none, gNe_all_none, gEq_all_spot, gNe_all_spot, gEq_all_line, gNe_all_line, gEq_none_all, gNe_none_all, gEq_none_none, gNe_none_none, gEq_none_spot, gNe_none_spot, gEq_none_line, gNe_none_line, gEq_spot_all, gNe_spot_all, gEq_spot_none, gNe_spot_none, gEq_spot_spot, gNe_spot_spot, gEq_spot_line, gNe_spot_line, gEq_line_all, gNe_line_all, gEq_line_none, gNe_line_none, gEq_line_spot, gNe_line_spot, gEq_line_line, gNe_line_line, gAdd, gSub, gMul, gDiv, gMod, gPow, gLt, gLe, gGt, gGe, gIsi, gAbs, gLen, gAll, gIsN, gNotN, isNonD, seqD, res, atI_0, atI_1, atI_2, atI_3, atI_4, List.getElem?_cons_zero, List.getElem?_cons_succ, List.length_cons, List.length_nil, decide_eq_true_eq, List.map_cons, List.map_nil, startD, List.cons_append, List.nil_append, List.replicate, Nat.zero_add, if_true, if_false, Bool.false_eq_true, and_self, true_and, ite_true, ite_false, Nat.reduceAdd, Nat.reduceSub, ln, Nat.reduceLeDiff, fin, String.reduceBEq, Bool.not_true, Bool.not_false, pureN, deq_int, deq_tt, deq_t0, deq_bl, List.all_cons, List.all_nil, Bool.and_true, Bool.true_and, Bool.and_eq_true, List.append_nil, lk_turn, lk_shift, lk_mirrored, lk_key, insD_copy, own2_c, own1_c, rG_nil, rG_cons, rGLst_i, updM_same, updM_updM, Option.map_some, Option.map_none])))
/-! ### plain laws of single arms -/
theorem about_fix {e : Cp} {z : Num} (h : e.ok) (hz : Can z) (q : e.at z = z) : aboutC z e.t e.m = e := by
  have km := can_mul h.1 (can_flip (m := e.m) hz)
  have q1 : re (e.at z) = re z := by rw [q]
  have q2 : im (e.at z) = im z := by rw [q]
  rw [Cp.at_eq, re_add km h.2.2] at q1
  rw [Cp.at_eq, im_add km h.2.2] at q2
  refine Cp.ext' rfl (NM.ext (can_sub hz km) h.2.2 ?_ ?_) rfl
  · show re (sub z (mul e.t (flip e.m z))) = _
    rw [re_sub hz km]
    grind
  · show im (sub z (mul e.t (flip e.m z))) = _
    rw [im_sub hz km]
    grind
theorem pole_fix {e : Cp} {z : Num} (h : e.ok) (q : poleK e = some z) : Can z ∧ e.at z = z := by
  have sp := fun w (hw : Can w) => kept_spec h hw
  have nf := kept_nf h
  unfold poleK at q
  cases hK : keptK e with
  | none => rw [hK] at q; cases q
  | all =>
    rw [hK] at q sp
    cases q
    exact ⟨can_zero, (sp _ can_zero).mp trivial⟩
  | spot w =>
    rw [hK] at q sp nf
    cases q
    exact ⟨nf, (sp _ nf).mp rfl⟩
  | line a b c =>
    rw [hK] at q sp nf
    cases q
    exact ⟨can_p nf.1, (sp _ (can_p nf.1)).mp (line_p nf.1)⟩
theorem single_eff {e : Cp} {f : Am} (h : e.ok) (q : singleK e = some f) : f.eff = e ∧ f.ok ∧ f.lo = 0 ∧ f.hi = 1000 ∧ f.m = e.m ∧ f.t = e.t ∧ poleK e = some f.p := by
  unfold singleK at q
  cases hp : poleK e with
  | none => rw [hp] at q; cases q
  | some z =>
    rw [hp] at q
    cases q
    obtain ⟨kz, fz⟩ := pole_fix h hp
    exact ⟨about_fix h kz fz, ⟨kz, h.1, h.2.1, (by decide : (0 : Int) ≤ 0), (by decide : (0 : Int) ≤ 1000), (by decide : (1000 : Int) ≤ 1000)⟩, rfl, rfl, rfl, rfl, rfl⟩
theorem pole_sz {e : Cp} {z : Num} (h : e.ok) (s : e.sz 120) (q : poleK e = some z) : Sz 850 z := by
  unfold poleK at q
  cases hK : keptK e with
  | none => rw [hK] at q; cases q
  | all => rw [hK] at q; cases q; exact Sz.mono (n := 1) (by unfold Sz Bt; decide) (by decide)
  | spot w =>
    rw [hK] at q
    cases q
    exact (kept_spot h s hK).2.mono (by decide)
  | line a b c =>
    rw [hK] at q
    cases q
    obtain ⟨⟨l1, l2, l3⟩, hn, _⟩ := kept_line h s hK
    exact (low_sz (n := 493) (ab_ne hn) ((l1.mul l3).mono (by decide)) ((l2.mul l3).mono (by decide)) (((l1.mul l1).add (l2.mul l2)).mono (by decide))).mono (by decide)
/-! ### sizes of chains of small arms -/
theorem Am.small.ok {a : Am} (h : a.small) : a.ok := ⟨h.1.1, h.2.1.1, h.2.2.1, h.2.2.2.1, h.2.2.2.2.2.1, by have := h.2.2.2.2.2.2; omega⟩
theorem Am.small.sz {a : Am} (h : a.small) : a.sz 5 := ⟨h.1.2, h.2.1.2⟩
theorem chain_sz : ∀ (as : List Am) (c : Cp) (n : Nat), (∀ a ∈ as, a.small) → c.ok → c.sz n → n + 38 * as.length ≤ 900 → okA c as ∧ (effFrom c as).ok ∧ (effFrom c as).sz (n + 38 * as.length)
  | [], c, n, _, kc, sc, _ => ⟨trivial, kc, sc⟩
  | a :: r, c, n, h, kc, sc, hl => by
    have ka := (h a (List.mem_cons_self ..))
    have k := Am.small.ok ka
    have s := Am.small.sz ka
    have se := Am.eff_sz k s
    rw [List.length_cons] at hl
    have ih := chain_sz r (c.comp a.eff) (n + 38) (fun b hb => h b (List.mem_cons_of_mem _ hb)) (Cp.comp_ok kc (Am.eff_ok k)) ((Cp.comp_sz kc (Am.eff_ok k) sc se).mono (by omega)) (by omega)
    refine ⟨⟨sc.mono (show n ≤ 900 by omega), ⟨s.1.mono (by decide), s.2.mono (by decide)⟩, se.mono (by decide), k, ih.1⟩, ih.2.1, ?_⟩
    have := ih.2.2
    rw [List.length_cons, show n + 38 * (r.length + 1) = n + 38 + 38 * r.length by omega]
    exact this
theorem id_sz : Cp.id.sz 1 := ⟨Sz.one, by unfold Sz Bt; decide⟩
/-! ### rows of arms at random -/
theorem updM_id {μ : MH} {g : Addr} {xs : List D} (hm : μ g = some (.lst xs)) : updM μ g (.lst xs) = μ := by
  funext b
  unfold updM
  by_cases q : b = g
  · rw [if_pos q, q, hm]
  · rw [if_neg q]
theorem lc_arms {Γ : CL} {i j : Nat} {ρ : EV} {g : Addr} (hρ : ∀ d, gt (st ρ i d) j = some (.ref g)) {R : List D → MH → Prop} : ∀ (ds : List D) (acc : List Am) (μ : MH) (xs : List D), μ g = some (.lst xs) → RL xs →
    (∀ as ys, as.length = ds.length → (∀ a ∈ as, a.small) → RL ys → R ((acc ++ as).map armTD) (updM μ g (.lst ys))) → lcD (rGN i) rTrue (rCl (sp_law_arm_told Γ) (rCons (rVar j) rNil)) tru ρ ds (acc.map armTD) μ R
  | [], acc, μ, xs, hm, hx, h => by
    refine ⟨trivial, ?_⟩
    have := h [] xs rfl (by simp) hx
    rw [List.append_nil, updM_id hm] at this
    exact this
  | d :: ds, acc, μ, xs, hm, hx, h => by
    refine ⟨trivial, ?_⟩
    simp only [rGN, rTrue, if_true, rCl, rCons, rVar, rNil, hρ d]
    refine ⟨g, xs, rfl, hm, hx, fun a ys ka hy => ?_⟩
    have e : acc.map armTD ++ [armTD a] = (acc ++ [a]).map armTD := by simp
    show lcD _ _ _ _ _ _ (acc.map armTD ++ [armTD a]) _ _
    rw [e]
    refine lc_arms hρ ds (acc ++ [a]) _ ys updM_same hy fun as ys2 hl ha hy2 => ?_
    rw [updM_updM]
    have := h (a :: as) ys2 (by simp [hl]) (by
      intro w hw
      rcases List.mem_cons.mp hw with rfl | hw
      · exact ka
      · exact ha w hw) hy2
    rw [List.append_assoc]
    exact this
theorem lc_arms2 {Γ : CL} {ρ : EV} {g : Addr} {t : Num} (kt : Small t) (nt : NZ t) (h1 : ∀ d, gt (st ρ 5 d) 1 = some (.ref g)) (h4 : ∀ d, gt (st ρ 5 d) 4 = some (numD t)) (h5 : ∀ d, gt (st ρ 5 d) 5 = some d) {R : List D → MH → Prop} : ∀ (bs : List Am) (acc : List Am) (μ : MH) (xs : List D), (∀ a ∈ bs, a.small) → μ g = some (.lst xs) → RL xs →
    (∀ as ys, as.length = bs.length → (∀ a ∈ as, a.small) → RL ys → R ((acc ++ as).map armTD) (updM μ g (.lst ys))) →
    lcD (rGN 5) rTrue (rTup (rCons (rOp gIx (rVar 5) (rC (.int 0))) (rCons (rVar 4) (rCons (rOp gIx (rVar 5) (rC (.int 2))) (rCons (rOp gIx (rVar 5) (rC (.int 3))) (rCons (rOp gEq (rCl (sp_law_below Γ) (rCons (rVar 1) (rCons (rC (.int 2)) rNil))) (rC (.int 0))) rNil)))))) tru ρ (bs.map armTD) (acc.map armTD) μ R
  | [], acc, μ, xs, _, hm, hx, h => by
    refine ⟨trivial, ?_⟩
    have := h [] xs rfl (by simp) hx
    rw [List.append_nil, updM_id hm] at this
    exact this
  | b :: bs, acc, μ, xs, hb, hm, hx, h => by
    refine ⟨trivial, ?_⟩
    have kb := hb b (List.mem_cons_self ..)
    have i0 : ∀ Q : D → MH → Prop, gIx (armTD b) (.int 0) μ Q = Q (numD b.p) μ := fun Q => rfl
    have i2 : ∀ Q : D → MH → Prop, gIx (armTD b) (.int 2) μ Q = Q (.int b.lo) μ := fun Q => rfl
    have i3 : ∀ Q : D → MH → Prop, gIx (armTD b) (.int 3) μ Q = Q (.int b.hi) μ := fun Q => rfl
    simp only [rGN, rTrue, if_true, rTup, rCl, rCons, rOp, rVar, rC, rNil, h1, h4, h5, i0, i2, i3]
    refine ⟨g, 2, xs, rfl, by decide, by decide, hm, hx, fun r ys r0 r1 hy => ?_⟩
    simp only [gEq_i]
    refine ⟨by show 5 ≤ 2 ^ 24; decide, ?_⟩
    have e : acc.map armTD ++ [armTD ⟨b.p, t, b.lo, b.hi, r == 0⟩] = (acc ++ [(⟨b.p, t, b.lo, b.hi, r == 0⟩ : Am)]).map armTD := by simp
    show lcD _ _ _ _ _ _ (acc.map armTD ++ [armTD ⟨b.p, t, b.lo, b.hi, r == 0⟩]) _ _
    rw [e]
    refine lc_arms2 kt nt h1 h4 h5 bs (acc ++ [⟨b.p, t, b.lo, b.hi, r == 0⟩]) _ ys (fun a ha => hb a (List.mem_cons_of_mem _ ha)) updM_same hy fun as ys2 hl ha hy2 => ?_
    rw [updM_updM]
    have := h (⟨b.p, t, b.lo, b.hi, r == 0⟩ :: as) ys2 (by simp [hl]) (by
      intro w hw
      rcases List.mem_cons.mp hw with rfl | hw
      · exact ⟨kb.1, kt, nt, kb.2.2.2⟩
      · exact ha w hw) hy2
    rw [List.append_assoc]
    exact this
theorem nz_one : NZ one := by unfold NZ; decide
theorem one6 {α : Type} (x : α) : [x].length ≤ 6 := (by decide : 1 ≤ 6)
theorem level_at {z w : Num} (hz : Can z) (hw : Can w) : (aboutC z one true).at w = w ↔ im w = im z := by
  have hm := can_mul can_one (can_flip (m := true) hz)
  have k := about_ok (m := true) hz can_one (by unfold NZ; decide)
  rw [fix_iff k hw]
  show re one * re w - im one * (sg true * im w) + re (sub z (mul one (flip true z))) = re w ∧ re one * (sg true * im w) + im one * re w + im (sub z (mul one (flip true z))) = im w ↔ _
  rw [re_sub hz hm, im_sub hz hm, re_mul can_one (can_flip hz), im_mul can_one (can_flip hz), re_flip, im_flip, re_one, im_one, show sg true = -1 from rfl]
  constructor
  · rintro ⟨_, q⟩
    grind
  · intro q
    constructor <;> grind
theorem level_pole {z : Num} (hz : Can z) : poleK (aboutC z one true) = some (low 0 z.y z.d) := by
  have k := about_ok (m := true) hz can_one (by unfold NZ; decide)
  have h0 : (0 : Int) ≠ 0 ∨ z.d ≠ 0 := .inr (ne_d hz)
  obtain ⟨r, hr, e1, e2, e3⟩ := lineOf_spec (c := z.y) h0
  have nf := lineOf_norm (c := z.y) h0
  have ea : (lineOf 0 z.d z.y).1 = 0 := by
    rcases Int.mul_eq_zero.mp e1.symm with q | q
    · exact absurd q hr
    · exact q
  generalize lineOf 0 z.d z.y = l at *
  have eK : keptK (aboutC z one true) = .line l.1 l.2.1 l.2.2 := by
    refine Kp.uniq (kept_nf k) nf fun w hw => ?_
    rw [kept_spec k hw, level_at hz hw]
    show _ ↔ l.1 * w.x + l.2.1 * w.y = l.2.2 * w.d
    rw [ea]
    have c1 := cast_ne (ne_d hz)
    have c2 := cast_ne (ne_d hw)
    have a1 : im w = im z ↔ ((w.y * z.d : Int) : Rat) = ((z.y * w.d : Int) : Rat) := by
      unfold im
      push_cast
      constructor
      · intro q
        grind
      · intro q
        grind
    rw [a1]
    constructor
    · intro q
      have q2 : w.y * z.d = z.y * w.d := by exact_mod_cast q
      rw [e2, e3] at q2
      have : r * (0 * w.x + l.2.1 * w.y) = r * (l.2.2 * w.d) := by grind
      exact Int.eq_of_mul_eq_mul_left hr this
    · intro q
      have q2 : w.y * z.d = z.y * w.d := by
        rw [e2, e3]
        have : r * (0 * w.x + l.2.1 * w.y) = r * (l.2.2 * w.d) := by rw [q]
        grind
      rw [q2]
  unfold poleK
  rw [eK]
  show some (low (l.1 * l.2.2) (l.2.1 * l.2.2) (l.1 * l.1 + l.2.1 * l.2.1)) = _
  rw [ea]
  have hb : l.2.1 ≠ 0 := by
    intro q
    rw [q, Int.mul_zero] at e2
    exact ne_d hz e2
  congr 1
  refine low_eq ?_ (ne_d hz) (by grind) ?_
  · intro q
    have : l.2.1 * l.2.1 = 0 := by omega
    rcases Int.mul_eq_zero.mp this with z | z <;> exact hb z
  · generalize l.2.1 = b at *
    generalize l.2.2 = c at *
    rw [e2, e3]
    grind
theorem lsq {a b : Int} : (0 * a : Int) = 0 := Int.zero_mul a
/-! ### the walk -/
section
variable {Γ : CL} {μ : MH} {R : D → MH → Prop}
theorem eff_i {a : Am} {Q : D → MH → Prop} (k : a.ok) (s : a.sz quart) (q : Q (copyD Γ a.eff) μ) : sp_Arm_effect Γ [armD Γ a] μ Q := ⟨a, rfl, k, s, q⟩
theorem ceff_i {as : List Am} {Q : D → MH → Prop} (k : okA Cp.id as) (l : as.length ≤ 6) (q : Q (copyD Γ (effAll as)) μ) : sp_Chain_effect Γ [chainD Γ as] μ Q := ⟨as, rfl, k, l, q⟩
theorem single_i {as : List Am} {Q : D → MH → Prop} (k : okA Cp.id as) (l : as.length ≤ 6) (ke : (effAll as).ok) (se : (effAll as).sz 200) (q : Q (amD Γ (singleK (effAll as))) μ) : sp_single Γ [chainD Γ as] μ Q := ⟨as, rfl, k, l, ke, se, q⟩
theorem k22_t1 {s0 x2 x3 x4 x5 x8 x9 x10 : Option D} {g : Addr} {as : List Am} {f : Am} {xs : List D} (hg : μ g = some (.lst xs)) (hx : RL xs) (hk : okA Cp.id as) (hl : as.length ≤ 6) (ke : (effAll as).ok) (se : (effAll as).sz 120) (hf : singleK (effAll as) = some f) (hR : ∀ μ', R (.bl true) μ') :
    rd_law_t1 Γ (fin R) [s0, some (.ref g), x2, x3, x4, x5, some (chainD Γ as), some (armD Γ f), x8, x9, x10, none, none] μ := by
  obtain ⟨fe, fo, f0, f1, fm, ft, fp⟩ := single_eff ke hf
  have fs : f.sz quart := ⟨(pole_sz ke se fp).mono (by decide), by rw [ft]; exact se.1.mono (by decide)⟩
  unfold rd_law_t1
  refine seq_g fun N hN => ?_
  simp only [rAsg, rCl, rCons, rVar, rNil, gt]
  refine ⟨g, xs, rfl, hg, hx, fun z ys kz hy => ?_⟩
  simp only [rGN, st]
  refine hN _ _ ?_
  clear hN N
  -- a level
  have ka : (⟨z, one, 0, 9, true⟩ : Am).ok := ⟨kz.1, can_one, nz_one, (by decide : (0 : Int) ≤ 0), (by decide : (0 : Int) ≤ 9), (by decide : (9 : Int) ≤ 1000)⟩
  have sa : (⟨z, one, 0, 9, true⟩ : Am).sz 5 := ⟨kz.2, Sz.one.mono (by decide)⟩
  have keL := Am.eff_ok ka
  have seL := Am.eff_sz ka sa
  have eL : effAll [⟨z, one, 0, 9, true⟩] = aboutC z one true := Cp.id_comp keL
  have okL : okA Cp.id [⟨z, one, 0, 9, true⟩] := ⟨id_sz.mono (by decide), ⟨sa.1.mono (by decide), sa.2.mono (by decide)⟩, seL.mono (by decide), ka, trivial⟩
  refine seq_g fun N hN => ?_
  simp only [rAsg, rCl, rCons, rMakeK, rTup, rVar, rC, rNil, gt]
  refine ⟨by show 3 ≤ 2 ^ 24; decide, rfl, rfl, ?_⟩
  refine make_arm (t := one) kz.1 can_one ka.2.2.1 (by decide) (kz.2.mono (by decide)) (Sz.one.mono (by decide)) ?_
  refine make_chainA (as := [⟨z, one, 0, 9, true⟩]) (one6 _) ?_
  refine single_i okL (one6 _) (by rw [eL]; exact keL) (by rw [eL]; exact seL.mono (by decide)) ?_
  have hs : singleK (effAll [⟨z, one, 0, 9, true⟩]) = some ⟨low 0 z.y z.d, one, 0, 1000, true⟩ := by
    rw [eL]
    unfold singleK
    rw [level_pole kz.1]
    rfl
  rw [hs]
  simp only [amD, rGN, st]
  refine hN _ _ ?_
  clear hN N
  refine seq_g fun N hN => ?_
  simp only [rIf, rB, rOp, rFld, rCl, rCons, rVar, rC, rNil, gt, insD_arm, lk_pole, true_and, gIx_n1, gIx_n2]
  refine ⟨ne_d kz.1, by unfold Bt; decide +kernel, kz.2.2.1.mono (by decide), kz.2.2.2.mono (by decide), ?_⟩
  simp only [gNe_n]
  refine ite_no (by simp) ?_
  refine hN _ _ ?_
  clear hN N
  -- the last row
  have eF : effAll [f] = effAll as := by
    show Cp.id.comp f.eff = _
    rw [Cp.id_comp (Am.eff_ok fo), fe]
  have okF : okA Cp.id [f] := ⟨id_sz.mono (by decide), fs, by rw [fe]; exact se.mono (by decide), fo, trivial⟩
  simp only [rRet, rAndV, rOp, rCl, rCons, rVar, rNil, gt]
  refine make_chainA (as := [f]) (one6 _) ?_
  refine single_i okF (one6 _) (by rw [eF]; exact ke) (by rw [eF]; exact se.mono (by decide)) ?_
  rw [eF, hf]
  simp only [amD, rVar, gt, ownA_i]
  refine ⟨f, f, rfl, ?_⟩
  simp only [decide_true, if_true, rFld, rVar, gt, insD_arm, lk_amirr, true_and, rOwn, insD_chain, rNil, List.getElem?_cons_zero]
  refine ⟨rfl, ?_⟩
  refine ceff_i hk hl ?_
  simp only [insD_copy, lk_mirrored, true_and, gEq_b, fm]
  simpa using hR _
theorem D_none_iff {K : Kp} {μ : MH} {R : D → MH → Prop} (h : R (.bl (decide (K = .none))) μ) : gEq K.D (.tup [.str "none"]) μ R := by
  have p1 : pureN 20 (res μ K.D) = true := by
    cases K with
    | all => exact (by decide +kernel : pureN 20 (.tup [.str "all"]) = true)
    | none => exact (by decide +kernel : pureN 20 (.tup [.str "none"]) = true)
    | spot z => show (PyData.strOk "spot" && (pureN 19 (numD z) && true)) = true; rw [show PyData.strOk "spot" = true by decide +kernel]; rfl
    | line a b c => show (PyData.strOk "line" && (true && (true && (true && true)))) = true; rw [show PyData.strOk "line" = true by decide +kernel]; rfl
  refine ⟨p1, (by decide +kernel : pureN 20 (.tup [.str "none"]) = true), ?_⟩
  have e : deq (res μ K.D) (res μ (.tup [.str "none"])) = decide (K = .none) := by
    cases K with
    | all => show (("all" : Str) == "none" && true) = _; decide +kernel
    | none => show (("none" : Str) == "none" && true) = decide (Kp.none = .none); decide +kernel
    | spot z =>
      show deq (.tup (.str "spot" :: [numD z])) (.tup (.str "none" :: [])) = decide (Kp.spot z = .none)
      rw [deq_tt, deq_str, show (("spot" : Str) == "none") = false by decide +kernel]; rfl
    | line a b c =>
      show deq (.tup (.str "line" :: [.int a, .int b, .int c])) (.tup (.str "none" :: [])) = decide (Kp.line a b c = .none)
      rw [deq_tt, deq_str, show (("line" : Str) == "none") = false by decide +kernel]; rfl
  rw [e]
  exact h
theorem gNe_00 {a b c d : Int} {Q : D → MH → Prop} (h1 : a = c) (h2 : b = d) (q : Q (.bl false) μ) : gNe (.tup [.int a, .int b]) (.tup [.int c, .int d]) μ Q := by
  rw [gNe_ii, h1, h2]
  simpa using q
theorem k22_t2 {s0 x2 x3 x4 : Option D} {g : Addr} {as : List Am} {xs : List D} (hg : μ g = some (.lst xs)) (hx : RL xs) (hk : okA Cp.id as) (hl : as.length ≤ 6) (ke : (effAll as).ok) (se : (effAll as).sz 120) (hR : ∀ μ', R (.bl true) μ') :
    rd_law_t2 Γ (fin R) [s0, some (.ref g), x2, x3, x4, some (keptK (effAll as)).D, some (chainD Γ as), some (amD Γ (singleK (effAll as))), none, none, none, none, none] μ := by
  unfold rd_law_t2
  refine seq_g fun N hN => ?_
  have none_of : singleK (effAll as) = none → keptK (effAll as) = .none := by
    intro q
    unfold singleK poleK at q
    cases hK : keptK (effAll as) with
    | none => rfl
    | all => rw [hK] at q; cases q
    | spot w => rw [hK] at q; cases q
    | line a b c => rw [hK] at q; cases q
  cases hf : singleK (effAll as) with
  | none =>
    simp only [rIf, rB, rOp, rVar, rC, gt, amD, gIsN, isNonD, if_true, rRet, rTup, rCons, rNil]
    refine ⟨by show 1 ≤ 2 ^ 24; decide, ?_⟩
    refine D_none_iff ?_
    rw [none_of hf]
    exact hR _
  | some f =>
    obtain ⟨fe, fo, f0, f1, fm, ft, fp⟩ := single_eff ke hf
    have fs : f.sz quart := ⟨(pole_sz ke se fp).mono (by decide), by rw [ft]; exact se.1.mono (by decide)⟩
    have nn : keptK (effAll as) ≠ .none := by
      intro q
      unfold poleK at fp
      rw [q] at fp
      cases fp
    have isn : ∀ Q : D → MH → Prop, gIsN (amD Γ (some f)) .non μ Q = Q (.bl false) μ := fun Q => rfl
    simp only [rIf, rB, rOp, rVar, rC, gt, isn, Bool.false_eq_true, if_false, rNext]
    refine hN _ _ ?_
    clear hN N
    simp only [amD]
    -- found.effect
    refine seq_g fun N hN => ?_
    simp only [rIf, rOr, rNot, rB, rOp, rVar, rC, rTup, rCons, rNil, gt]
    refine ⟨by show 1 ≤ 2 ^ 24; decide, ?_⟩
    refine D_none_iff ?_
    rw [decide_eq_false nn]
    simp only [Bool.false_eq_true, if_false, rOwn, rVar, gt, rNil, insD_arm, true_and]
    refine ⟨rfl, ?_⟩
    refine eff_i fo fs ?_
    simp only [insD_chain, true_and]
    refine ⟨rfl, ?_⟩
    refine ceff_i hk hl ?_
    refine eq2_i fe ?_
    simp only [Bool.not_true, Bool.false_eq_true, if_false, rFld, rVar, gt, insD_arm, lk_near, lk_far, true_and]
    refine ⟨by show 2 ≤ 2 ^ 24; decide, by show 2 ≤ 2 ^ 24; decide, ?_⟩
    refine gNe_00 f0 f1 ?_
    simp only [Bool.false_eq_true, if_false]
    refine hN _ _ ?_
    clear hN N
    -- the pole
    refine seq_g fun N hN => ?_
    have fp' : poleK (effAll as) = some f.p := fp
    unfold poleK at fp'
    have t1 : ∀ (x5 x8 x9 x10 : Option D), rd_law_t1 Γ (fin R) [s0, some (.ref g), x2, x3, x4, x5, some (chainD Γ as), some (armD Γ f), x8, x9, x10, none, none] μ := fun _ _ _ _ => k22_t1 hg hx hk hl ke se hf hR
    cases hK : keptK (effAll as) with
    | none => exact absurd hK nn
    | spot z =>
      rw [hK] at fp'
      cases fp'
      simp only [rIf, rOr, rAnd, rB, rOp, rVar, rC, gt, Kp.D, gIx_t, atI_0, atI_1, List.getElem?_cons_zero, List.getElem?_cons_succ, gEq_spot_spot, gEq_spot_all, if_true, rFld, insD_arm, lk_pole, true_and, gNe_n, decide_true, Bool.not_true, Bool.false_eq_true, if_false, rNext]
      refine hN _ _ ?_
      clear hN N
      refine seq_g fun N hN => ?_
      simp only [rIf, rB, rOp, rVar, rC, gt, gIx_t, atI_0, List.getElem?_cons_zero, gEq_spot_line, Bool.false_eq_true, if_false, rNext]
      exact hN _ _ (t1 _ _ _ _)
    | all =>
      rw [hK] at fp'
      have ez : zero = f.p := Option.some.inj fp'
      simp only [rIf, rOr, rAnd, rB, rOp, rVar, rC, rTup, rCons, rNil, gt, Kp.D, gIx_t, atI_0, atI_1, List.getElem?_cons_zero, List.getElem?_cons_succ, gEq_all_spot, gEq_all_all, if_true, rFld, insD_arm, lk_pole, true_and, Bool.false_eq_true, if_false, rNext]
      refine ⟨by show 3 ≤ 2 ^ 24; decide, ?_⟩
      rw [← ez]
      show gNe (numD zero) (numD zero) μ _
      simp only [gNe_n, decide_true, Bool.not_true, Bool.false_eq_true, if_false]
      refine hN _ _ ?_
      clear hN N
      refine seq_g fun N hN => ?_
      simp only [rIf, rB, rOp, rVar, rC, gt, gIx_t, atI_0, List.getElem?_cons_zero, gEq_all_line, Bool.false_eq_true, if_false, rNext]
      exact hN _ _ (t1 _ _ _ _)
    | line a b c =>
      rw [hK] at fp'
      have ez : low (a * c) (b * c) (a * a + b * b) = f.p := Option.some.inj fp'
      obtain ⟨⟨l1, l2, l3⟩, hn, _⟩ := kept_line ke se hK
      have b1 : Bt 246 a := l1.mono (by decide)
      have b2 : Bt 246 b := l2.mono (by decide)
      have b3 : Bt 246 c := l3.mono (by decide)
      have sp := pole_sz ke se fp
      have cb : ∀ {i j : Int}, Bt 246 i → Bt 850 j → CBig i j := fun h l => CB h l (by decide) (by decide)
      have on : a * f.p.x + b * f.p.y = c * f.p.d := by
        rw [← ez]
        exact line_p (e := c) hn
      have al : a * f.p.y = b * f.p.x := by
        rw [← ez]
        have n := ab_ne hn
        have q : keptOn (.line (0 - b) a 0) (low (a * c) (b * c) (a * a + b * b)) := (on_low n).mpr (by grind)
        have q2 : (0 - b) * (low (a * c) (b * c) (a * a + b * b)).x + a * (low (a * c) (b * c) (a * a + b * b)).y = 0 * (low (a * c) (b * c) (a * a + b * b)).d := q
        grind
      simp only [rIf, rOr, rAnd, rB, rOp, rVar, rC, gt, Kp.D, gIx_t, atI_0, List.getElem?_cons_zero, gEq_line_spot, gEq_line_all, Bool.false_eq_true, if_false, rNext]
      refine hN _ _ ?_
      clear hN N
      refine seq_g fun N hN => ?_
      simp only [rIf, rB, rOp, rVar, rC, gt, gIx_t, atI_0, List.getElem?_cons_zero, gEq_line_line, if_true]
      refine seq_g fun N2 h2 => ?_
      simp only [rAsg, rSl, rVar, rPart, rC, rNoPart, gt]
      refine sl_line ?_
      refine ⟨rfl, ?_⟩
      simp only [rGCons, rGNil, rGN, st, true_and]
      refine h2 _ _ ?_
      clear h2 N2
      simp only [rIf, rOr, rB, rOp, rVar, rC, gt, rFld, insD_arm, lk_pole, eq_self, true_and, gIx_n0, gIx_n1, gIx_n2, gMul, gI, gAdd, gI0, gNe_i]
      refine ⟨cb b1 sp.1, cb b2 sp.2.1, cb b3 sp.2.2, ?_⟩
      refine ite_no (by simp [on]) ?_
      refine ⟨cb b1 sp.2.1, cb b2 sp.1, ?_⟩
      refine ite_no (by simp [al]) ?_
      exact hN _ _ (t1 _ _ _ _)
theorem k22_t3 {s0 x3 x4 x5 : Option D} {g : Addr} {as : List Am} {xs : List D} (hg : μ g = some (.lst xs)) (hx : RL xs) (ha : ∀ a ∈ as, a.small) (hl : as.length ≤ 3) (hR : ∀ μ', R (.bl true) μ') :
    rd_law_t3 Γ (fin R) [s0, some (.ref g), some (.lst (as.map armTD)), x3, x4, x5, none, none, none, none, none, none, none] μ := by
  obtain ⟨hk, ke, se⟩ := chain_sz as Cp.id 1 ha Cp.id_ok id_sz (by omega)
  have se2 : (effAll as).sz 120 := ⟨se.1.mono (by omega), se.2.mono (by omega)⟩
  have ke : (effAll as).ok := ke
  have l6 : as.length ≤ 6 := by omega
  unfold rd_law_t3
  refine seq_g fun N hN => ?_
  simp only [rAsg, rCl, rCons, rVar, rNil, gt]
  refine ⟨as, rfl, fun a h => ⟨Am.small.ok (ha a h), ⟨(Am.small.sz (ha a h)).1.mono (by decide), (Am.small.sz (ha a h)).2.mono (by decide)⟩⟩, l6, ?_⟩
  simp only [rGN, st]
  refine hN _ _ ?_
  clear hN N
  refine seq_g fun N hN => ?_
  simp only [rPar, rCl, rCons, rVar, rNil, gt]
  refine single_i hk l6 ke (se2.mono (by decide)) ?_
  simp only [rOwn, rVar, gt, insD_chain, rNil, true_and]
  refine ⟨rfl, ?_⟩
  refine ceff_i hk l6 ?_
  refine kept_i ke (se2.mono (by decide)) ?_
  simp only [st]
  exact hN _ _ (k22_t2 hg hx hk l6 ke se2 hR)
end
theorem vc_law (Γ : CL) : ∀ ds μ R, lawS ds μ R → rd_law Γ (fin R) (startD 13 ds) μ := by
  rintro ds μ R ⟨ns, rfl, hn, hμ, hR⟩
  unfold rd_law
  rw [show startD 13 [.scr (ns.map D.int)] = [some (.scr (ns.map D.int)), none, none, none, none, none, none, none, none, none, none, none, none] from rfl]
  refine seq_g fun N hN => ?_
  simp only [rAsg, rCl, rCons, rVar, rC, gt, List.getElem?_cons_zero, rNil]
  refine ⟨ns, 22, rfl, by decide, by decide, hn, fun g xs hg hx => ?_⟩
  refine hN _ _ ?_
  clear hN N
  refine seq_g fun N hN => ?_
  simp only [rAsg, rLc, rIRng1, rCl, rCons, rVar, rC, gt, st, rGN, rNil, rms, rm]
  refine ⟨g, 4, xs, rfl, by decide, by decide, updM_same, hx, fun n x1 n0 n1 hx1 => ?_⟩
  have hln : (rangeD 0 n.toNat).length = n.toNat := rangeD_len ..
  refine ⟨by unfold inR; omega, by rw [hln]; show n.toNat ≤ 2 ^ 24; omega, ?_⟩
  refine lc_arms (j := 1) (fun d => rfl) _ [] _ x1 updM_same hx1 fun as ys hl ha hy => ?_
  rw [hln] at hl
  simp only [List.nil_append, updM_updM]
  refine hN _ _ ?_
  clear hN N
  refine seq_g fun N hN => ?_
  have tail : ∀ (as : List Am) (x3 x4 x5 : Option D) (ys : List D) (μ2 : MH), (∀ a ∈ as, a.small) → as.length ≤ 3 → RL ys → N [some (.scr (ns.map D.int)), some (.ref g), some (.lst (as.map armTD)), x3, x4, x5, none, none, none, none, none, none, none] (updM μ2 g (.lst ys)) :=
    fun as x3 x4 x5 ys μ2 ha hl hy => hN _ _ (k22_t3 updM_same hy ha hl hR)
  clear hN
  rw [rIf]
  simp only [rB, rOp, rCl, rCons, rVar, rC, rNil, gt]
  refine ⟨g, 2, ys, rfl, by decide, by decide, updM_same, hy, fun b0 y0 _ _ hy0 => ?_⟩
  simp only [gEq_i, updM_updM]
  by_cases hb0 : b0 = 0
  · refine ite_yes (by simp [hb0]) ?_
    refine seq_g fun N1 h1 => ?_
    have tn : ∀ t ys, Small t → NZ t → RL ys → N1 [some (.scr (ns.map D.int)), some (.ref g), some (.lst (as.map armTD)), none, some (numD t), none, none, none, none, none, none, none, none] (updM μ g (.lst ys)) := by
      intro t ys kt nt hy
      refine h1 _ _ ?_
      clear h1 N1
      rw [rAsg, rLc]
      simp only [rILst, rVar, gt, rms, rm]
      refine ⟨by rw [List.length_map]; show as.length ≤ 2 ^ 24; omega, ?_⟩
      refine lc_arms2 kt nt (fun d => rfl) (fun d => rfl) (fun d => rfl) as [] _ ys ha updM_same hy fun bs zs hl2 hb hz => ?_
      simp only [List.nil_append, updM_updM, rGN, st]
      exact tail bs _ _ _ zs μ hb (by omega) hz
    clear h1
    simp only [rAsg, rLst, rTup, rOp, rCl, rCons, rVar, rC, rNil, rGN, st, gt, gI0]
    refine ⟨by show 3 ≤ 2 ^ 24; decide, by show 3 ≤ 2 ^ 24; decide, by show 3 ≤ 2 ^ 24; decide, by show 3 ≤ 2 ^ 24; decide, by show 4 ≤ 2 ^ 24; decide, ?_⟩
    refine ⟨g, 4, y0, rfl, by decide, by decide, updM_same, hy0, fun r y1 r0 r1 hy1 => ?_⟩
    simp only [updM_updM]
    have : r = 0 ∨ r = 1 ∨ r = 2 ∨ r = 3 := by omega
    rcases this with rfl | rfl | rfl | rfl
    · exact tn ⟨1, 0, 1⟩ y1 (small_i (by decide) (by decide) (by decide) (by decide) (by decide)) (by unfold NZ; decide) hy1
    · exact tn ⟨-1, 0, 1⟩ y1 (small_i (by decide) (by decide) (by decide) (by decide) (by decide)) (by unfold NZ; decide) hy1
    · exact tn ⟨0, 1, 1⟩ y1 (small_i (by decide) (by decide) (by decide) (by decide) (by decide)) (by unfold NZ; decide) hy1
    · exact tn ⟨3, 4, 5⟩ y1 (small_i (by decide) (by decide) (by decide) (by decide) (by decide)) (by unfold NZ; decide) hy1
  · refine ite_no (by simp [hb0]) ?_
    exact tail as _ _ _ y0 μ ha (by omega) hy0
end L3.K22

/-! ## R_k19 -/
set_option Elab.async false
set_option linter.all false
set_option maxRecDepth 100000
set_option maxHeartbeats 4000000
namespace L3.K19
open PySem NM L2
def rd_law_f1 (Γ : CL) : RS := (rSeq (rAsg (rOp gIx (rVar 5) (rVar 3)) (rGTup 3 (rGCons (rGN 8) (rGCons (rGN 9) (rGCons (rGN 10) rGNil)))))
 (rSeq (rAsg (rCl (sp_law_size Γ) (rCons (rCl (sp_law_minus Γ) (rCons (rVar 6) (rCons (rVar 8) rNil))) rNil)) (rGN 11))
 (rSeq (rAsg (rAndV (rNotV (rCl (sp_law_less Γ) (rCons (rVar 11) (rCons (rVar 9) rNil)))) (rNotV (rCl (sp_law_less Γ) (rCons (rVar 10) (rCons (rVar 11) rNil))))) (rGN 12))
 (rSeq (rIf (rB (rOp gNe (rVar 12) (rCl (sp_law_reached Γ) (rCons (rOp gIx (rVar 2) (rVar 3)) (rCons (rVar 7) rNil)))))
 (rRet (rC (.bl false)))
 rNext)
 (rAsg (rCl (sp_law_carried Γ) (rCons (rCl (sp_law_about Γ) (rCons (rOp gIx (rVar 2) (rVar 3)) rNil)) (rCons (rVar 7) rNil))) (rGN 7))))))
def rd_law_f2 (Γ : CL) : RS := (rSeq (rAsg (rVar 6) (rGN 7))
 (rFor (rIRng1 (rCons (rCl gLen (rCons (rVar 2) rNil)) rNil)) (rGN 3)
 (rd_law_f1 Γ)))
def rd_law_f3 (Γ : CL) : RS := (rPar 7 13 (rCons (rCl (sp_law_carried Γ) (rCons (rCl (sp_law_about Γ) (rCons (rVar 14) rNil)) (rCons (rVar 7) rNil))) (rCons (rCl (sp_law_times Γ) (rCons (rVar 13) (rCons (rOp gIx (rVar 14) (rC (.int 1))) rNil))) rNil)))
def rd_law_f4 (Γ : CL) : RS := (rSeq (rPar 7 13 (rCons (rOp gIx (rOp gIx (rVar 5) (rVar 3)) (rC (.int 0))) (rCons (rTup (rCons (rC (.int 1)) (rCons (rC (.int 0)) (rCons (rC (.int 1)) rNil)))) rNil)))
 (rSeq (rFor (rILst (rSl (rVar 2) rNoPart (rPart (rVar 3)))) (rGN 14)
 (rd_law_f3 Γ))
 (rSeq (rAsg (rCl (sp_law_size Γ) (rCons (rVar 13) rNil)) (rGN 15))
 (rSeq (rAsg (rLc (rITup (rTup (rCons (rOp gIx (rOp gIx (rVar 2) (rVar 3)) (rC (.int 2))) (rCons (rOp gIx (rOp gIx (rVar 2) (rVar 3)) (rC (.int 3))) rNil)))) (rGN 17) rTrue (rCl (sp_law_ratio Γ) (rCons (rOp gMul (rOp gMul (rVar 17) (rVar 17)) (rOp gIx (rVar 15) (rC (.int 1)))) (rCons (rOp gIx (rVar 15) (rC (.int 0))) rNil))) [17]) (rGN 16))
 (rIf (rOr (rNot (rB (rCl (sp_law_equal Γ 5) (rCons (rVar 7) (rCons (rOp gIx (rOp gIx (rVar 2) (rVar 3)) (rC (.int 0))) rNil))))) (rNot (rB (rCl (sp_law_equal Γ 5) (rCons (rLst (rCons (rOp gIx (rOp gIx (rVar 5) (rVar 3)) (rC (.int 1))) (rCons (rOp gIx (rOp gIx (rVar 5) (rVar 3)) (rC (.int 2))) rNil))) (rCons (rVar 16) rNil))))))
 (rRet (rC (.bl false)))
 rNext)))))
def rd_law_t1 (Γ : CL) : RS := (rSeq (rFor (rIRng1 (rCons (rCl gLen (rCons (rVar 2) rNil)) rNil)) (rGN 3)
 (rd_law_f4 Γ))
 (rRet (rOp gEq (rCl (sp_zones Γ) (rCons (rCl (gMakeS Γ.Chain (sp_Chain___init Γ)) rNil) rNil)) (rLst rNil))))
def rd_law_t2 (Γ : CL) : RS := (rSeq (rFor (rILst (rOp gAdd (rLc (rIRng1 (rCons (rC (.int 5)) rNil)) (rGN 3) rTrue (rCl (sp_law_spot Γ) (rCons (rVar 1) rNil)) [3]) (rLst (rCons (rOp gIx (rOp gIx (rVar 5) (rUn (gU fun i => .int (-i)) (rC (.int 1)))) (rC (.int 0))) rNil)))) (rGN 6)
 (rd_law_f2 Γ))
 (rd_law_t1 Γ))
def rd_law_t3 (Γ : CL) : RS := (rSeq (rAsg (rCl (sp_law_chain Γ) (rCons (rVar 2) rNil)) (rGN 4))
 (rSeq (rAsg (rCl (sp_zones Γ) (rCons (rVar 4) rNil)) (rGN 5))
 (rSeq (rIf (rB (rOp gNe (rCl gLen (rCons (rVar 5) rNil)) (rCl gLen (rCons (rVar 2) rNil))))
 (rRet (rC (.bl false)))
 rNext)
 (rd_law_t2 Γ))))
/-- law(_law_script) : 0 _law_script, 1 _law_d, 2 _law_tolds, 3 _law_k, 4 _law_chain_here, 5 _law_found, 6 _law_spot_here, 7 _law_here, 8 _law_center, 9 _law_near, 10 _law_far, 11 _law_distance, 12 _law_inside, 13 _law_size_now, 14 _law_told, 15 _law_growth, 16 _law_due, 17 _law_reach -/
def rd_law (Γ : CL) : RS := (rSeq (rAsg (rCl (sp_law_random Γ) (rCons (rVar 0) (rCons (rC (.int 19)) rNil))) (rGN 1))
 (rSeq (rAsg (rLc (rIRng1 (rCons (rOp gAdd (rC (.int 1)) (rCl (sp_law_below Γ) (rCons (rVar 1) (rCons (rC (.int 4)) rNil)))) rNil)) (rGN 3) rTrue (rCl (sp_law_arm_told Γ) (rCons (rVar 1) rNil)) [3]) (rGN 2))
 (rd_law_t3 Γ)))

end L3.K19

/-! ## V_k19 -/
set_option Elab.async false
set_option linter.all false
set_option maxRecDepth 100000
set_option maxHeartbeats 400000
namespace L3.K19
open PySem NM L2
local macro_rules | `(tactic| walk_at "l") => `(tactic| (try (simp only [rSeq, rAsg, rRet, rRetN, rDrop, rIf, rNext, rPar, rPar3, rCons, rNil, rStar, rCl, rOp, rUn, rVar, rC, rGN, rTup, rLst, rB, rAnd, rOr, rNot, rIfE, rAndV, rOrV, rNotV, rNever, rFld, rOwn, rMeth, rMakeK, rMakeD, rFldS, rFrz, rSetIx, rMut, rILst, rITup, rIRng1, rIRng2, rFor, rLc, rLcM, rTrue, gt, st, gI, gI0, gU, gIx_n0, gIx_n1, gIx_n2, gIx_o0, gIx_o1, gIx_o2, gIx_t, gIx_l, gIx_r, gEq_i, gNe_i, gEq_b, gNe_b, gEq_o, gEq_n, gNe_n, gEq_t, gNe_t, cONE, cZERO, gEq_all_all, gNe_all_all, gEq_all_none, gNe_all_none, gEq_all_spot, gNe_all_spot, gEq_all_line, gNe_all_line, gEq_none_all, gNe_none_all, gEq_none_none, gNe_none_none, gEq_none_spot, gNe_none_spot, gEq_none_line, gNe_none_line, gEq_spot_all, gNe_spot_all, gEq_spot_none, gNe_spot_none, gEq_spot_spot, gNe_spot_spot, gEq_spot_line, gNe_spot_line, gEq_line_all, gNe_line_all, gEq_line_none, gNe_line_none, gEq_line_spot, gNe_line_spot, gEq_line_line, gNe_line_line, gAdd, gSub, gMul, gDiv, gMod, gPow, gLt, gLe, gGt, gGe, gIsi, gAbs, gLen, gAll, gIsN, gNotN, isNonD, seqD, res, atI_0, atI_1, atI_2, atI_3, atI_4, List.getElem?_cons_zero, List.getElem?_cons_succ, List.length_cons, List.length_nil, decide_eq_true_eq, List.map_cons, List.map_nil, startD, List.cons_append, List.nil_append, List.replicate, Nat.zero_add, if_true, if_false, Bool.false_eq_true, and_self, true_and, ite_true, ite_false, Nat.reduceAdd, Nat.reduceSub, ln, Nat.reduceLeDiff, fin, String.reduceBEq, Bool.not_true, Bool.not_false, pureN, deq_int, deq_tt, deq_t0, deq_bl, List.all_cons, List.all_nil, Bool.and_true, Bool.true_and, Bool.and_eq_true, List.append_nil, lk_turn, lk_shift, lk_mirrored, lk_key, insD_copy, own2_c, own1_c, rG_nil, rG_cons, rGLst_i, updM_same, updM_updM, Option.map_some, Option.map_none])))
/-! ### plain laws of zones -/
theorem dist_at {c : Cp} {z w : Num} (h : c.ok) (hz : Can z) (hw : Can w) : re (szN (sub (c.at z) (c.at w))) = re (szN c.t) * re (szN (sub z w)) := by
  have k1 := Cp.can_at h hz
  have k2 := Cp.can_at h hw
  have k3 := can_sub k1 k2
  have k4 := can_sub hz hw
  rw [re_szN k3, re_szN h.1, re_szN k4, re_sub k1 k2, im_sub k1 k2, re_sub hz hw, im_sub hz hw, re_at h hz, re_at h hw, im_at h hz, im_at h hw]
  have := sg_sq c.m
  grind
/-- the same as whole numbers -/
theorem dist_int {c : Cp} {z p : Num} (h : c.ok) (hz : Can z) (hp : Can p) : (szN (sub (c.at z) p)).x * ((szN c.t).d * (szN (sub z (c.inv.at p))).d) = (szN c.t).x * (szN (sub z (c.inv.at p))).x * (szN (sub (c.at z) p)).d := by
  have ki := Cp.can_at (Cp.inv_ok h) hp
  have e := dist_at h hz ki
  rw [Cp.at_inv h hp] at e
  have k1 := can_szN (ne_d (can_sub (Cp.can_at h hz) hp))
  have k2 := can_szN (ne_d h.1)
  have k3 := can_szN (ne_d (can_sub hz ki))
  generalize szN (sub (c.at z) p) = T at *
  generalize szN c.t = g at *
  generalize szN (sub z (c.inv.at p)) = S at *
  have c1 := cast_ne (ne_d k1)
  have c2 := cast_ne (ne_d k2)
  have c3 := cast_ne (ne_d k3)
  unfold re at e
  have q : ((T.x * (g.d * S.d) : Int) : Rat) = ((g.x * S.x * T.d : Int) : Rat) := by
    push_cast
    grind
  exact_mod_cast q
theorem zone_lt {M gx gd Sx Sd Tx Td : Int} (hg : 0 < gx) (hd : 0 < gd) (hS : 0 < Sd) (hT : 0 < Td) (e : Tx * (gd * Sd) = gx * Sx * Td) :
    (Sx * (low (M * gd) 0 gx).d < (low (M * gd) 0 gx).x * Sd ↔ Tx * 1 < M * Td) ∧ ((low (M * gd) 0 gx).x * Sd < Sx * (low (M * gd) 0 gx).d ↔ M * Td < Tx * 1) := by
  obtain ⟨k, hk, e1, e2, e3, e4, _⟩ := low_spec (x := M * gd) (y := 0) (show gx ≠ 0 by omega)
  generalize low (M * gd) 0 gx = n at *
  have kp : 0 < k := by
    rcases Int.lt_or_gt_of_ne hk with q | q
    · exfalso
      have : k * n.d < 0 := Int.mul_neg_of_neg_of_pos q e4
      omega
    · exact q
  have gs : 0 < gd * Sd := Int.mul_pos hd hS
  have kt : 0 < k * Td := Int.mul_pos kp hT
  have a1 : Sx * n.d * (k * Td) = Tx * 1 * (gd * Sd) := by
    have : Sx * n.d * (k * Td) = gx * Sx * Td := by rw [e3]; grind
    rw [this, ← e]
    grind
  have a2 : n.x * Sd * (k * Td) = M * Td * (gd * Sd) := by
    have : n.x * Sd * (k * Td) = k * n.x * Sd * Td := by grind
    rw [this, ← e1]
    grind
  constructor
  · rw [← Int.mul_lt_mul_right kt, a1, a2, Int.mul_lt_mul_right gs]
  · rw [← Int.mul_lt_mul_right kt, a1, a2, Int.mul_lt_mul_right gs]
theorem szN_dpos {z : Num} (h : Can z) : 0 < (szN z).d := (can_szN (ne_d h)).1
/-- a spot is in the zone as its carried spot is in reach -/
theorem zone_reach {c : Cp} {a : Am} {z : Num} (h : c.ok) (ka : a.ok) (hz : Can z) :
    (!decide ((szN (sub z (zoneOf c a).c)).x * (zoneOf c a).lo.d < (zoneOf c a).lo.x * (szN (sub z (zoneOf c a).c)).d) && !decide ((zoneOf c a).hi.x * (szN (sub z (zoneOf c a).c)).d < (szN (sub z (zoneOf c a).c)).x * (zoneOf c a).hi.d)) = reachB a (c.at z) := by
  have e := dist_int h hz ka.1
  have kp := Cp.can_at (Cp.inv_ok h) ka.1
  have p1 := szN_pos h.1 h.2.1
  have p2 := szN_dpos h.1
  have p3 := szN_dpos (can_sub hz kp)
  have p4 := szN_dpos (can_sub (Cp.can_at h hz) ka.1)
  have l1 := (zone_lt (M := a.lo * a.lo) p1 p2 p3 p4 e).1
  have l2 := (zone_lt (M := a.hi * a.hi) p1 p2 p3 p4 e).2
  unfold reachB
  congr 1
  · exact congrArg (fun b => !b) (decide_eq_decide.mpr l1)
  · exact congrArg (fun b => !b) (decide_eq_decide.mpr l2)
theorem szN_mul {z w : Num} (hz : Can z) (hw : Can w) : szN (mul z w) = mul (szN z) (szN w) := by
  have km := can_mul hz hw
  have k1 := can_szN (ne_d hz)
  have k2 := can_szN (ne_d hw)
  refine NM.ext (can_szN (ne_d km)) (can_mul k1 k2) ?_ ?_
  · rw [re_szN km, re_mul hz hw, im_mul hz hw, re_mul k1 k2, re_szN hz, re_szN hw, im_szN hz, im_szN hw]
    grind
  · rw [im_szN km, im_mul k1 k2, im_szN hz, im_szN hw]
    grind
theorem effFrom_app : ∀ (pre r : List Am) (c : Cp), effFrom c (pre ++ r) = effFrom (effFrom c pre) r
  | [], r, c => rfl
  | a :: pre, r, c => effFrom_app pre r (c.comp a.eff)
theorem zones_get : ∀ (pre : List Am) (a : Am) (r : List Am) (c : Cp), (zonesL c (pre ++ a :: r))[pre.length]? = some (zoneOf (effFrom c pre) a)
  | [], a, r, c => rfl
  | b :: pre, a, r, c => by
    show (zoneOf c b :: zonesL (c.comp b.eff) (pre ++ a :: r))[pre.length + 1]? = _
    rw [List.getElem?_cons_succ]
    exact zones_get pre a r (c.comp b.eff)
theorem zones_len : ∀ (as : List Am) (c : Cp), (zonesL c as).length = as.length
  | [], c => rfl
  | a :: r, c => by
    show (zonesL _ r).length + 1 = r.length + 1
    rw [zones_len r]
theorem map_get {α : Type} {f : α → D} {l : List α} {n : Nat} {x : α} (h : l[n]? = some x) : atI (l.map f) (n : Int) = some (f x) := by
  rw [atI_lit, List.getElem?_map, h]
  rfl
theorem pre_get {α : Type} (pre : List α) (a : α) (r : List α) : (pre ++ a :: r)[pre.length]? = some a := by
  rw [List.getElem?_append_right (Nat.le_refl _), Nat.sub_self]
  rfl
theorem cut_pre {α : Type} (f : α → D) (pre r : List α) : cutD ((pre ++ r).map f) none (some (pre.length : Int)) = pre.map f := by
  unfold cutD
  rw [HT.sIx_none, HT.sIx_nat, List.drop_zero, Nat.sub_zero, List.length_map, List.length_append, Nat.min_eq_left (by omega), List.map_append, List.take_left' (by rw [List.length_map])]
/-! ### the walk -/
section
variable {Γ : CL}
theorem reached_i {μ : MH} {Q : D → MH → Prop} {a : Am} {z : Num} (k : a.ok) (s : Sz quart a.p) (kz : Can z) (sz : Sz quart z) (q : Q (.bl (reachB a z)) μ) : sp_law_reached Γ [armTD a, numD z] μ Q := ⟨a, z, rfl, k, s, kz, sz, q⟩
theorem about_i {μ : MH} {Q : D → MH → Prop} {a : Am} (k : a.ok) (s : a.sz quart) (q : Q (toldD a.eff) μ) : sp_law_about Γ [armTD a] μ Q := ⟨a, rfl, k, s, q⟩
theorem pre_sz {pre : List Am} (hs : ∀ b ∈ pre, b.small) (hl : pre.length ≤ 3) : (effFrom Cp.id pre).ok ∧ (effFrom Cp.id pre).sz 115 := by
  obtain ⟨_, k, s⟩ := K22.chain_sz pre Cp.id 1 hs Cp.id_ok K22.id_sz (by omega)
  exact ⟨k, s.1.mono (by omega), s.2.mono (by omega)⟩
theorem zone_sz {c : Cp} {a : Am} (h : c.ok) (s : c.sz 115) (ka : a.small) : (Can (zoneOf c a).c ∧ Sz 701 (zoneOf c a).c) ∧ Sz 256 (zoneOf c a).lo ∧ Sz 256 (zoneOf c a).hi := by
  have ki := Cp.inv_ok h
  have si := Cp.inv_sz h s
  have ss := sz_szN h.1 s.1
  have ps := szN_pos h.1 h.2.1
  obtain ⟨_, _, _, b1, b2, b3, b4⟩ := id ka
  have l1 : Bt 10 a.lo := by unfold Bt; omega
  have l2 : Bt 10 a.hi := by unfold Bt; omega
  have z0 : Bt 256 0 := by unfold Bt; exact Nat.two_pow_pos _
  refine ⟨⟨Cp.can_at ki ka.1.1, (Cp.sz_at ki ka.1.1 si ka.1.2).mono (by decide)⟩, ?_, ?_⟩
  · exact low_sz (by omega) (((l1.mul l1).mul ss.2.2).mono (by decide)) z0 (ss.1.mono (by decide))
  · exact low_sz (by omega) (((l2.mul l2).mul ss.2.2).mono (by decide)) z0 (ss.1.mono (by decide))
theorem f1_loop {μ : MH} {E : Ed} {s0 sd s4 s13 s14 s15 s16 s17 : Option D} {as : List Am} {z : Num} (hs : ∀ a ∈ as, a.small) (hl : as.length ≤ 4) (kz : Can z) (sz : Sz 701 z)
    (h : ∀ x3 x7 x8 x9 x10 x11 x12, E.nx [s0, sd, some (.lst (as.map armTD)), x3, s4, some (.lst ((zonesL Cp.id as).map rgD)), some (numD z), x7, x8, x9, x10, x11, x12, s13, s14, s15, s16, s17] μ) :
    ∀ (r pre : List Am) (w : Num) (x3 x8 x9 x10 x11 x12 : Option D), as = pre ++ r → Can w → Sz (701 + 38 * pre.length) w → w = (effFrom Cp.id pre).at z →
    forD (rGN 3) (rd_law_f1 Γ) tru E (rangeD (pre.length : Int) r.length) [s0, sd, some (.lst (as.map armTD)), x3, s4, some (.lst ((zonesL Cp.id as).map rgD)), some (numD z), some (numD w), x8, x9, x10, x11, x12, s13, s14, s15, s16, s17] μ
  | [], pre, w, x3, x8, x9, x10, x11, x12, _, _, _, _ => ⟨trivial, h _ _ _ _ _ _ _⟩
  | a :: r, pre, w, x3, x8, x9, x10, x11, x12, e, kw, sw, ew => by
    refine ⟨trivial, ?_⟩
    have hlen : pre.length + (r.length + 1) ≤ 4 := by rw [e, List.length_append, List.length_cons] at hl; exact hl
    have ka : a.small := hs a (by rw [e]; simp)
    have kp : ∀ b ∈ pre, b.small := fun b hb => hs b (by rw [e]; exact List.mem_append_left _ hb)
    obtain ⟨kc, sc⟩ := pre_sz kp (by omega)
    obtain ⟨⟨k1, s1⟩, s2, s3⟩ := zone_sz kc sc ka
    have g1 : atI ((zonesL Cp.id as).map rgD) (pre.length : Int) = some (rgD (zoneOf (effFrom Cp.id pre) a)) := map_get (by rw [e]; exact zones_get pre a r Cp.id)
    have g2 : atI (as.map armTD) (pre.length : Int) = some (armTD a) := map_get (by rw [e]; exact pre_get pre a r)
    have ko := K22.Am.small.ok ka
    have so := K22.Am.small.sz ka
    have seff := Am.eff_sz ko so
    have keff := Am.eff_ok ko
    have zr := zone_reach (z := z) kc ko kz
    have sw2 : Sz 815 w := sw.mono (by omega)
    simp only [rGN, st]
    unfold rd_law_f1
    refine seq_g fun N hN => ?_
    simp only [rAsg, rOp, rVar, gt, gIx_l, g1]
    refine ⟨rfl, ?_⟩
    simp only [rGCons, rGNil, rGN, st, true_and]
    refine hN _ _ ?_
    clear hN N
    refine seq_g fun N hN => ?_
    simp only [rAsg, rCl, rCons, rVar, rNil, gt]
    refine minus_i kz k1 (sz.mono (by decide)) (s1.mono (by decide)) ?_
    have kd := can_sub kz k1
    have sd' : Sz 1403 (sub z (zoneOf (effFrom Cp.id pre) a).c) := Sz.add kz (can_opp k1) sz s1.opp
    refine lsize_i kd (sd'.mono (by decide)) ?_
    simp only [rGN, st]
    refine hN _ _ ?_
    clear hN N
    have ssd : Sz 2807 (szN (sub z (zoneOf (effFrom Cp.id pre) a).c)) := sz_szN kd sd'
    refine seq_g fun N hN => ?_
    have nx : N [s0, sd, some (.lst (as.map armTD)), some (.int (pre.length : Int)), s4, some (.lst ((zonesL Cp.id as).map rgD)), some (numD z), some (numD w), some (numD (zoneOf (effFrom Cp.id pre) a).c), some (frD (zoneOf (effFrom Cp.id pre) a).lo), some (frD (zoneOf (effFrom Cp.id pre) a).hi), some (frD (szN (sub z (zoneOf (effFrom Cp.id pre) a).c))), some (.bl (reachB a w)), s13, s14, s15, s16, s17] μ := by
      refine hN _ _ ?_
      clear hN N
      refine seq_g fun N hN => ?_
      simp only [rIf, rB, rOp, rCl, rCons, rVar, rNil, gt, gIx_l, g2]
      refine reached_i ko (so.1.mono (by decide)) kw (sw2.mono (by decide)) ?_
      simp only [gNe_b]
      refine ite_no (by simp) ?_
      refine hN _ _ ?_
      clear hN N
      simp only [rAsg, rCl, rCons, rOp, rVar, rNil, gt, gIx_l, g2]
      refine about_i ko ⟨so.1.mono (by decide), so.2.mono (by decide)⟩ ?_
      refine lcar_i keff (seff.mono (by decide)) kw (sw2.mono (by decide)) ?_
      simp only [rGN, st]
      have ih := f1_loop hs hl kz sz h r (pre ++ [a]) (a.eff.at w) (some (.int (pre.length : Int))) (some (numD (zoneOf (effFrom Cp.id pre) a).c)) (some (frD (zoneOf (effFrom Cp.id pre) a).lo)) (some (frD (zoneOf (effFrom Cp.id pre) a).hi)) (some (frD (szN (sub z (zoneOf (effFrom Cp.id pre) a).c)))) (some (.bl (reachB a w))) (by rw [e, List.append_assoc]; rfl) (Cp.can_at keff kw)
        (by rw [List.length_append]; exact (Cp.sz_at keff kw seff sw).mono (by show _ ≤ 701 + 38 * (pre.length + 1); omega)) (by rw [effFrom_app]; show _ = ((effFrom Cp.id pre).comp a.eff).at z; rw [Cp.comp_at kc keff kz, ← ew])
      rw [List.length_append] at ih
      exact ih
    clear hN
    rw [ew, ← zr] at nx
    simp only [rAsg, rAndV, rNotV, rCl, rCons, rVar, rNil, gt]
    refine lfr_i (ssd.mono (by decide)) (s2.mono (by decide)) ?_
    by_cases q : (szN (sub z (zoneOf (effFrom Cp.id pre) a).c)).x * (zoneOf (effFrom Cp.id pre) a).lo.d < (zoneOf (effFrom Cp.id pre) a).lo.x * (szN (sub z (zoneOf (effFrom Cp.id pre) a).c)).d
    · rw [decide_eq_true q] at nx ⊢
      simp only [Bool.not_true, Bool.false_eq_true, if_false, rGN, st]
      rw [ew]
      exact nx
    · rw [decide_eq_false q] at nx ⊢
      simp only [Bool.not_false, if_true]
      refine lfr_i (s3.mono (by decide)) (ssd.mono (by decide)) ?_
      simp only [rGN, st]
      rw [ew]
      exact nx
theorem f2_i {μ : MH} {E : Ed} {s0 sd x3 s4 x7 x8 x9 x10 x11 x12 s13 s14 s15 s16 s17 : Option D} {as : List Am} {z : Num} (hs : ∀ a ∈ as, a.small) (hl : as.length ≤ 4) (kz : Can z) (sz : Sz 701 z)
    (h : ∀ x3 x7 x8 x9 x10 x11 x12, E.nx [s0, sd, some (.lst (as.map armTD)), x3, s4, some (.lst ((zonesL Cp.id as).map rgD)), some (numD z), x7, x8, x9, x10, x11, x12, s13, s14, s15, s16, s17] μ) :
    rd_law_f2 Γ E [s0, sd, some (.lst (as.map armTD)), x3, s4, some (.lst ((zonesL Cp.id as).map rgD)), some (numD z), x7, x8, x9, x10, x11, x12, s13, s14, s15, s16, s17] μ := by
  unfold rd_law_f2
  refine seq_g fun N hN => ?_
  simp only [rAsg, rVar, rGN, st, gt]
  refine hN _ _ ?_
  clear hN N
  rw [rFor]
  simp only [rIRng1, rCl, rCons, rVar, rNil, gt, gLen, res, seqD, List.length_map]
  refine ⟨by unfold inR; omega, ?_⟩
  rw [Int.toNat_natCast]
  exact f1_loop hs hl kz sz h as [] z x3 x8 x9 x10 x11 x12 rfl kz sz (Cp.id_at kz).symm
theorem spots_loop {μ : MH} {E : Ed} {s0 sd s4 s13 s14 s15 s16 s17 : Option D} {as : List Am} (hs : ∀ a ∈ as, a.small) (hl : as.length ≤ 4)
    (h : ∀ x3 x6 x7 x8 x9 x10 x11 x12, E.nx [s0, sd, some (.lst (as.map armTD)), x3, s4, some (.lst ((zonesL Cp.id as).map rgD)), x6, x7, x8, x9, x10, x11, x12, s13, s14, s15, s16, s17] μ) :
    ∀ (zs : List Num) (x3 x6 x7 x8 x9 x10 x11 x12 : Option D), (∀ z ∈ zs, Can z ∧ Sz 701 z) →
    forD (rGN 6) (rd_law_f2 Γ) tru E (zs.map numD) [s0, sd, some (.lst (as.map armTD)), x3, s4, some (.lst ((zonesL Cp.id as).map rgD)), x6, x7, x8, x9, x10, x11, x12, s13, s14, s15, s16, s17] μ
  | [], _, _, _, _, _, _, _, _, _ => ⟨trivial, h _ _ _ _ _ _ _ _⟩
  | z :: zs, x3, x6, x7, x8, x9, x10, x11, x12, hz => by
    refine ⟨trivial, ?_⟩
    obtain ⟨kz, sz⟩ := hz z (List.mem_cons_self ..)
    simp only [rGN, st]
    exact f2_i hs hl kz sz fun _ _ _ _ _ _ _ => spots_loop hs hl h zs _ _ _ _ _ _ _ _ fun w hw => hz w (List.mem_cons_of_mem _ hw)
/-! ### the second half -/
theorem f3_loop {μ : MH} {E : Ed} {s0 sd s2 x3 s4 s5 s6 x8 x9 x10 x11 x12 x15 x16 x17 : Option D} {ctr : Num} (kctr : Can ctr) :
    ∀ (r done : List Am) (w P : Num) (x14 : Option D), (∀ a ∈ done ++ r, a.small) → (done ++ r).length ≤ 3 → Can w → Sz (701 + 38 * done.length) w → Can P → Sz (1 + 6 * done.length) P → w = (effFrom Cp.id done).at ctr → szN P = szN (effFrom Cp.id done).t →
    (∀ (w P : Num) x14, Can w → Can P → Sz 19 P → w = (effFrom Cp.id (done ++ r)).at ctr → szN P = szN (effFrom Cp.id (done ++ r)).t → E.nx [s0, sd, s2, x3, s4, s5, s6, some (numD w), x8, x9, x10, x11, x12, some (numD P), x14, x15, x16, x17] μ) →
    forD (rGN 14) (rd_law_f3 Γ) tru E (r.map armTD) [s0, sd, s2, x3, s4, s5, s6, some (numD w), x8, x9, x10, x11, x12, some (numD P), x14, x15, x16, x17] μ
  | [], done, w, P, x14, ha, hl, kw, sw, kP, sP, ew, eP, h => by
    rw [List.append_nil] at h hl
    exact ⟨trivial, h w P x14 kw kP (sP.mono (by omega)) ew eP⟩
  | a :: r, done, w, P, x14, ha, hl, kw, sw, kP, sP, ew, eP, h => by
    refine ⟨trivial, ?_⟩
    have hlen : done.length + (r.length + 1) ≤ 3 := by rw [List.length_append, List.length_cons] at hl; exact hl
    have ka : a.small := ha a (by simp)
    have kp : ∀ b ∈ done, b.small := fun b hb => ha b (List.mem_append_left _ hb)
    obtain ⟨kc, sc⟩ := pre_sz kp (by omega)
    have ko := K22.Am.small.ok ka
    have so := K22.Am.small.sz ka
    have seff := Am.eff_sz ko so
    have keff := Am.eff_ok ko
    have i1 : ∀ (μ : MH) (Q : D → MH → Prop), gIx (armTD a) (.int 1) μ Q = Q (numD a.t) μ := fun _ _ => rfl
    simp only [rGN, st]
    unfold rd_law_f3
    simp only [rPar, rCl, rCons, rOp, rVar, rC, rNil, gt, i1]
    refine about_i ko ⟨so.1.mono (by decide), so.2.mono (by decide)⟩ ?_
    refine lcar_i keff (seff.mono (by decide)) kw (sw.mono (by show _ ≤ 900; omega)) ?_
    refine times_i kP ko.2.1 (sP.mono (by show _ ≤ 2000; omega)) (so.2.mono (by decide)) ?_
    simp only [st]
    refine f3_loop kctr r (done ++ [a]) (a.eff.at w) (mul P a.t) _ (by rw [List.append_assoc]; exact ha) (by rw [List.append_assoc]; exact hl) (Cp.can_at keff kw)
      (by rw [List.length_append]; exact (Cp.sz_at keff kw seff sw).mono (by show _ ≤ 701 + 38 * (done.length + 1); omega)) (can_mul kP ko.2.1) (by rw [List.length_append]; exact (Sz.mul kP ko.2.1 sP so.2).mono (by show _ ≤ 1 + 6 * (done.length + 1); omega))
      (by rw [effFrom_app]; show _ = ((effFrom Cp.id done).comp a.eff).at ctr; rw [Cp.comp_at kc keff kctr, ← ew]) (by rw [effFrom_app]; show _ = szN ((effFrom Cp.id done).comp a.eff).t; rw [szN_mul kP ko.2.1, eP, ← szN_comp kc keff]; rfl) (fun w P x14 k1 k2 k3 e1 e2 => h w P x14 k1 k2 k3 (by rw [List.append_assoc] at e1; exact e1) (by rw [List.append_assoc] at e2; exact e2))
theorem okq_fr2 {a b : Num} : okq 4 (.lst [frD a, frD b]) = true := rfl
theorem f4_loop {μ : MH} {E : Ed} {s0 sd s4 x6 x8 x9 x10 x11 x12 : Option D} {as : List Am} (hs : ∀ a ∈ as, a.small) (hl : as.length ≤ 4)
    (h : ∀ x3 x7 x13 x14 x15 x16 x17, E.nx [s0, sd, some (.lst (as.map armTD)), x3, s4, some (.lst ((zonesL Cp.id as).map rgD)), x6, x7, x8, x9, x10, x11, x12, x13, x14, x15, x16, x17] μ) :
    ∀ (r pre : List Am) (x3 x7 x13 x14 x15 x16 x17 : Option D), as = pre ++ r →
    forD (rGN 3) (rd_law_f4 Γ) tru E (rangeD (pre.length : Int) r.length) [s0, sd, some (.lst (as.map armTD)), x3, s4, some (.lst ((zonesL Cp.id as).map rgD)), x6, x7, x8, x9, x10, x11, x12, x13, x14, x15, x16, x17] μ
  | [], pre, x3, x7, x13, x14, x15, x16, x17, _ => ⟨trivial, h _ _ _ _ _ _ _⟩
  | a :: r, pre, x3, x7, x13, x14, x15, x16, x17, e => by
    refine ⟨trivial, ?_⟩
    have hlen : pre.length + (r.length + 1) ≤ 4 := by rw [e, List.length_append, List.length_cons] at hl; exact hl
    have ka : a.small := hs a (by rw [e]; simp)
    have kp : ∀ b ∈ pre, b.small := fun b hb => hs b (by rw [e]; exact List.mem_append_left _ hb)
    obtain ⟨kc, sc⟩ := pre_sz kp (by omega)
    obtain ⟨⟨k1, s1⟩, s2, s3⟩ := zone_sz kc sc ka
    have g1 : atI ((zonesL Cp.id as).map rgD) (pre.length : Int) = some (rgD (zoneOf (effFrom Cp.id pre) a)) := map_get (by rw [e]; exact zones_get pre a r Cp.id)
    have g2 : atI (as.map armTD) (pre.length : Int) = some (armTD a) := map_get (by rw [e]; exact pre_get pre a r)
    have ko := K22.Am.small.ok ka
    have ih := f4_loop hs hl h r (pre ++ [a])
    have r0 : ∀ (μ : MH) (Q : D → MH → Prop), gIx (rgD (zoneOf (effFrom Cp.id pre) a)) (.int 0) μ Q = Q (numD (zoneOf (effFrom Cp.id pre) a).c) μ := fun _ _ => rfl
    have r1 : ∀ (μ : MH) (Q : D → MH → Prop), gIx (rgD (zoneOf (effFrom Cp.id pre) a)) (.int 1) μ Q = Q (frD (zoneOf (effFrom Cp.id pre) a).lo) μ := fun _ _ => rfl
    have r2 : ∀ (μ : MH) (Q : D → MH → Prop), gIx (rgD (zoneOf (effFrom Cp.id pre) a)) (.int 2) μ Q = Q (frD (zoneOf (effFrom Cp.id pre) a).hi) μ := fun _ _ => rfl
    have t0 : ∀ (μ : MH) (Q : D → MH → Prop), gIx (armTD a) (.int 0) μ Q = Q (numD a.p) μ := fun _ _ => rfl
    have t2 : ∀ (μ : MH) (Q : D → MH → Prop), gIx (armTD a) (.int 2) μ Q = Q (.int a.lo) μ := fun _ _ => rfl
    have t3 : ∀ (μ : MH) (Q : D → MH → Prop), gIx (armTD a) (.int 3) μ Q = Q (.int a.hi) μ := fun _ _ => rfl
    simp only [rGN, st]
    unfold rd_law_f4
    refine seq_g fun N hN => ?_
    simp only [rPar, rCons, rOp, rTup, rVar, rC, rNil, gt, gIx_l, g1, r0, st]
    refine ⟨by show 3 ≤ 2 ^ 24; decide, ?_⟩
    refine hN _ _ ?_
    clear hN N
    refine seq_g fun N hN => ?_
    rw [rFor]
    simp only [rILst, rSl, rVar, rNoPart, rPart, gt, gSl, res]
    have ec : cutD (as.map armTD) none (some (pre.length : Int)) = pre.map armTD := by rw [e]; exact cut_pre armTD pre (a :: r)
    rw [ec]
    refine f3_loop k1 pre [] (zoneOf (effFrom Cp.id pre) a).c one _ kp (by show pre.length ≤ 3; omega) k1 s1 can_one Sz.one (Cp.id_at k1).symm rfl fun w P x14 kw kP sP ew eP => ?_
    have ew2 : w = a.p := by rw [ew]; exact Cp.at_inv kc ko.1
    refine hN _ _ ?_
    clear hN N
    refine seq_g fun N hN => ?_
    simp only [rAsg, rCl, rCons, rVar, rNil, gt]
    refine lsize_i kP (sP.mono (by decide)) ?_
    rw [eP, ew2]
    simp only [rGN, st]
    refine hN _ _ ?_
    clear hN N
    have ss := sz_szN kc.1 sc.1
    have ps := szN_pos kc.1 kc.2.1
    obtain ⟨_, _, _, b1, b2, b3, b4⟩ := id ka
    have l1 : Bt 10 a.lo := by unfold Bt; omega
    have l2 : Bt 10 a.hi := by unfold Bt; omega
    refine seq_g fun N hN => ?_
    simp only [rAsg, rLc, rITup, rTup, rCons, rOp, rVar, rC, rNil, gt, gIx_l, g2, t2, t3, rms, rm]
    refine ⟨by show 2 ≤ 2 ^ 24; decide, by show 2 ≤ 2 ^ 24; decide, ?_⟩
    simp only [lcD, rGN, st, rTrue, if_true, rCl, rCons, rOp, rVar, rC, rNil, gt, gIx_f0, gIx_f1, gMul, gI]
    refine ⟨trivial, CB l1 l1 (by decide) (by decide), ⟨(l1.mul l1).mono (by decide), ss.2.2.mono (by decide)⟩, ?_⟩
    refine lratio_i (show (szN (effFrom Cp.id pre).t).x ≠ 0 by omega) (((l1.mul l1).mul ss.2.2).mono (by decide)) (ss.1.mono (by decide)) ?_
    refine ⟨trivial, CB l2 l2 (by decide) (by decide), ⟨(l2.mul l2).mono (by decide), ss.2.2.mono (by decide)⟩, ?_⟩
    refine lratio_i (show (szN (effFrom Cp.id pre).t).x ≠ 0 by omega) (((l2.mul l2).mul ss.2.2).mono (by decide)) (ss.1.mono (by decide)) ?_
    refine ⟨trivial, ?_⟩
    refine hN _ _ ?_
    clear hN N
    simp only [rIf, rOr, rNot, rB, rCl, rCons, rOp, rLst, rVar, rC, rNil, gt, gIx_l, g1, g2, t0, r1, r2, List.nil_append, List.cons_append]
    refine equal_i rfl okq_num ?_
    simp only [Bool.not_true, Bool.false_eq_true, if_false]
    refine ⟨by show 2 ≤ 2 ^ 24; decide, ?_⟩
    refine equal_i rfl okq_fr2 ?_
    refine ite_no (by simp) ?_
    have q := ih (some (.int (pre.length : Int))) (some (numD a.p)) (some (numD P)) x14 (some (frD (szN (effFrom Cp.id ([] ++ pre)).t))) (some (.lst [frD (zoneOf (effFrom Cp.id pre) a).lo, frD (zoneOf (effFrom Cp.id pre) a).hi])) x17 (by rw [e, List.append_assoc]; rfl)
    rw [List.length_append] at q
    exact q
theorem empty_zones : zonesL Cp.id [] = [] := rfl
theorem k19_t1 {R : D → MH → Prop} {μ : MH} {s0 sd x3 s4 x6 x7 x8 x9 x10 x11 x12 : Option D} {as : List Am} (hs : ∀ a ∈ as, a.small) (hl : as.length ≤ 4) (hR : ∀ μ', R (.bl true) μ') :
    rd_law_t1 Γ (fin R) [s0, sd, some (.lst (as.map armTD)), x3, s4, some (.lst ((zonesL Cp.id as).map rgD)), x6, x7, x8, x9, x10, x11, x12, none, none, none, none, none] μ := by
  unfold rd_law_t1
  refine seq_g fun N hN => ?_
  simp only [rFor, rIRng1, rCl, rCons, rVar, rNil, gt, gLen, res, seqD, List.length_map]
  refine ⟨by unfold inR; omega, ?_⟩
  rw [Int.toNat_natCast]
  refine f4_loop hs hl (fun _ _ _ _ _ _ _ => ?_) as [] _ _ _ _ _ _ _ rfl
  refine hN _ _ ?_
  clear hN N
  simp only [rRet, rOp, rCl, rCons, rLst, rNil]
  refine make_chainA (as := []) (by decide) ?_
  refine ⟨[], rfl, trivial, trivial, by decide, ?_⟩
  refine ⟨by show 0 ≤ 2 ^ 24; decide, ?_⟩
  exact ⟨rfl, rfl, hR _⟩
theorem k19_t2 {R : D → MH → Prop} {μ : MH} {s0 x3 s4 : Option D} {g : Addr} {as : List Am} {a : Am} {pre : List Am} {xs : List D} (hg : μ g = some (.lst xs)) (hx : RL xs) (e : as = pre ++ [a]) (hs : ∀ a ∈ as, a.small) (hl : as.length ≤ 4) (hR : ∀ μ', R (.bl true) μ') :
    rd_law_t2 Γ (fin R) [s0, some (.ref g), some (.lst (as.map armTD)), x3, s4, some (.lst ((zonesL Cp.id as).map rgD)), none, none, none, none, none, none, none, none, none, none, none, none] μ := by
  have ka : a.small := hs a (by rw [e]; simp)
  have kp : ∀ b ∈ pre, b.small := fun b hb => hs b (by rw [e]; exact List.mem_append_left _ hb)
  have hlen : pre.length + 1 ≤ 4 := by rw [e, List.length_append] at hl; exact hl
  obtain ⟨kc, sc⟩ := pre_sz kp (by omega)
  obtain ⟨⟨k1, s1⟩, _, _⟩ := zone_sz kc sc ka
  have el : ∃ l, zonesL Cp.id as = l ++ [zoneOf (effFrom Cp.id pre) a] := by
    refine ⟨(zonesL Cp.id as).take pre.length, ?_⟩
    have g := zones_get pre a [] Cp.id
    rw [← e] at g
    have hn : (zonesL Cp.id as).length = pre.length + 1 := by rw [zones_len, e, List.length_append]; rfl
    have d : (zonesL Cp.id as).drop pre.length = [zoneOf (effFrom Cp.id pre) a] := by
      rw [List.drop_eq_getElem_cons (by omega), List.drop_eq_nil_of_le (by omega)]
      rw [List.getElem?_eq_getElem (by omega)] at g
      rw [Option.some.inj g]
    rw [← d, List.take_append_drop]
  obtain ⟨l, el⟩ := el
  have gl : atI ((zonesL Cp.id as).map rgD) (-(1 : Int)) = some (rgD (zoneOf (effFrom Cp.id pre) a)) := by
    rw [el, List.map_append]
    exact atI_last _ _
  have r0 : ∀ (μ : MH) (Q : D → MH → Prop), gIx (rgD (zoneOf (effFrom Cp.id pre) a)) (.int 0) μ Q = Q (numD (zoneOf (effFrom Cp.id pre) a).c) μ := fun _ _ => rfl
  unfold rd_law_t2
  refine seq_g fun N hN => ?_
  rw [rFor]
  simp only [rILst, rOp, rLc, rIRng1, rCons, rC, rNil, rms, rm]
  refine ⟨by unfold inR; decide, by show 5 ≤ 2 ^ 24; decide, ?_⟩
  refine lc_spots (fun d => rfl) _ [] μ xs hg hx fun zs ys hl5 hz hy => ?_
  have hl5 : zs.length = 5 := hl5
  simp only [rLst, rCons, rOp, rUn, rVar, rC, rNil, gt, gU, gIx_l, gl, r0, List.nil_append]
  refine ⟨by show 1 ≤ 2 ^ 24; decide, ?_⟩
  simp only [gAdd, res]
  refine ⟨by rw [List.length_map, hl5]; show 5 + 1 ≤ 2 ^ 24; decide, ?_⟩
  have e3 : zs.map numD ++ [numD (zoneOf (effFrom Cp.id pre) a).c] = (zs ++ [(zoneOf (effFrom Cp.id pre) a).c]).map numD := by rw [List.map_append]; rfl
  rw [e3]
  refine spots_loop hs hl (fun _ _ _ _ _ _ _ _ => hN _ _ (k19_t1 hs hl hR)) _ _ _ _ _ _ _ _ _ fun z hz2 => ?_
  rcases List.mem_append.mp hz2 with q | q
  · exact ⟨(hz z q).1, (hz z q).2.mono (by decide)⟩
  · simp only [List.mem_cons, List.not_mem_nil, or_false] at q
    subst q
    exact ⟨k1, s1⟩
theorem chain_okZ : ∀ (as : List Am) (c : Cp) (n : Nat), (∀ a ∈ as, a.small) → c.ok → c.sz n → n + 38 * as.length ≤ 188 → okZ c as
  | [], c, n, _, kc, sc, _ => trivial
  | a :: r, c, n, h, kc, sc, hl => by
    have ka := (h a (List.mem_cons_self ..))
    have k := K22.Am.small.ok ka
    have s := K22.Am.small.sz ka
    have se := Am.eff_sz k s
    rw [List.length_cons] at hl
    exact ⟨kc, sc.mono (by omega), k, ⟨s.1.mono (by decide), s.2.mono (by decide)⟩, chain_okZ r (c.comp a.eff) (n + 38) (fun b hb => h b (List.mem_cons_of_mem _ hb)) (Cp.comp_ok kc (Am.eff_ok k)) ((Cp.comp_sz kc (Am.eff_ok k) sc se).mono (by omega)) (by omega)⟩
end
theorem vc_law (Γ : CL) : ∀ ds μ R, lawS ds μ R → rd_law Γ (fin R) (startD 18 ds) μ := by
  rintro ds μ R ⟨ns, rfl, hn, hμ, hR⟩
  unfold rd_law
  rw [show startD 18 [.scr (ns.map D.int)] = [some (.scr (ns.map D.int)), none, none, none, none, none, none, none, none, none, none, none, none, none, none, none, none, none] from rfl]
  refine seq_g fun N hN => ?_
  simp only [rAsg, rCl, rCons, rVar, rC, gt, List.getElem?_cons_zero, rNil]
  refine ⟨ns, 19, rfl, by decide, by decide, hn, fun g xs hg hx => ?_⟩
  refine hN _ _ ?_
  clear hN N
  refine seq_g fun N hN => ?_
  simp only [rAsg, rLc, rIRng1, rCl, rCons, rOp, rVar, rC, gt, st, rGN, rNil, rms, rm]
  refine ⟨g, 4, xs, rfl, by decide, by decide, updM_same, hx, fun n x1 n0 n1 hx1 => ?_⟩
  simp only [gAdd, gI0]
  have hln : (rangeD 0 (1 + n).toNat).length = (1 + n).toNat := rangeD_len ..
  refine ⟨by unfold inR; omega, by rw [hln]; show (1 + n).toNat ≤ 2 ^ 24; omega, ?_⟩
  refine K22.lc_arms (j := 1) (fun d => rfl) _ [] _ x1 updM_same hx1 fun as ys hl ha hy => ?_
  rw [hln] at hl
  simp only [List.nil_append, updM_updM]
  refine hN _ _ ?_
  clear hN N
  have l4 : as.length ≤ 4 := by omega
  have ne : as ≠ [] := by
    intro q
    rw [q] at hl
    have : (0 : Nat) = (1 + n).toNat := hl
    omega
  obtain ⟨hk, _, _⟩ := K22.chain_sz as Cp.id 1 ha Cp.id_ok K22.id_sz (by omega)
  have hz := chain_okZ as Cp.id 1 ha Cp.id_ok K22.id_sz (by omega)
  have hd := (List.dropLast_concat_getLast ne).symm
  unfold rd_law_t3
  refine seq_g fun N hN => ?_
  simp only [rAsg, rCl, rCons, rVar, rNil, gt]
  refine ⟨as, rfl, fun a h => ⟨K22.Am.small.ok (ha a h), ⟨(K22.Am.small.sz (ha a h)).1.mono (by decide), (K22.Am.small.sz (ha a h)).2.mono (by decide)⟩⟩, by omega, ?_⟩
  simp only [rGN, st]
  refine hN _ _ ?_
  clear hN N
  refine seq_g fun N hN => ?_
  simp only [rAsg, rCl, rCons, rVar, rNil, gt]
  refine ⟨as, rfl, hk, hz, by omega, ?_⟩
  simp only [rGN, st]
  refine hN _ _ ?_
  clear hN N
  refine seq_g fun N hN => ?_
  simp only [rIf, rB, rOp, rCl, rCons, rVar, rNil, gt, gLen, res, seqD, List.length_map, zones_len, gNe_i]
  refine ite_no (by simp) ?_
  exact hN _ _ (k19_t2 updM_same hy hd ha l4 hR)
end L3.K19

/-! ## D_k19 -/
set_option Elab.async false
set_option linter.all false
set_option maxRecDepth 100000
set_option maxHeartbeats 4000000
namespace L3.K19
open PySem PySem.Spec PyProof.Rows L2 NM
def top (i : Nat) : Stmt := PySem.Challenge.pw_copyarms_k19_zones_of_arms.main.body.getD i (.Pass ⟨0, 0, 0, 0⟩)
structure Fc (K : PySem.W.Frag) (mg : Str → Option Value) (Γ : CL) : Prop where
  f_abs : mg "abs" = none
  f_len : mg "len" = none
  c_MAX_ARMS : ConstOk K mg "MAX_ARMS" c_MAX_ARMS
  cl_Chain : Cls K Γ.Chain
  n_Chain_arms : NoAttr K Γ.Chain "arms"
  f_bool : mg "bool" = none
  f_int : mg "int" = none
  f_isinstance : mg "isinstance" = none
  f_all : mg "all" = none
  f_tuple : mg "tuple" = none
  c_ZERO : ConstOk K mg "ZERO" c_ZERO
  c_MAX_REACH : ConstOk K mg "MAX_REACH" c_MAX_REACH
  cl_Arm : Cls K Γ.Arm
  n_Arm_far : NoAttr K Γ.Arm "far"
  n_Arm_key : NoAttr K Γ.Arm "key"
  n_Arm_mirrored : NoAttr K Γ.Arm "mirrored"
  n_Arm_near : NoAttr K Γ.Arm "near"
  n_Arm_pole : NoAttr K Γ.Arm "pole"
  n_Arm_turn : NoAttr K Γ.Arm "turn"
  sf_Chain : PySem.W.selfFirst K Γ.Chain = true
  w_Chain___add : PySem.W.findIn K (.ref Γ.Chain) "__add__" = some (some (.ref (He.ma K Γ.Chain "__add__")))
  v_Chain___add : PySem.W.isFn K (.ref (He.ma K Γ.Chain "__add__")) = true
  cl_Copy : Cls K Γ.Copy
  n_Copy_key : NoAttr K Γ.Copy "key"
  n_Copy_mirrored : NoAttr K Γ.Copy "mirrored"
  n_Copy_shift : NoAttr K Γ.Copy "shift"
  n_Copy_turn : NoAttr K Γ.Copy "turn"
  c_ONE : ConstOk K mg "ONE" c_ONE
  sf_Copy : PySem.W.selfFirst K Γ.Copy = true
  w_Copy___rshift : PySem.W.findIn K (.ref Γ.Copy) "__rshift__" = some (some (.ref (He.ma K Γ.Copy "__rshift__")))
  v_Copy___rshift : PySem.W.isFn K (.ref (He.ma K Γ.Copy "__rshift__")) = true
  p_Arm_effect : PropOf K Γ.Arm "effect" (He.ma K Γ.Arm "effect") (gtA K Γ.Arm "effect")
  f_zip : mg "zip" = none
  w_Copy___invert : PySem.W.findIn K (.ref Γ.Copy) "__invert__" = some (some (.ref (He.ma K Γ.Copy "__invert__")))
  v_Copy___invert : PySem.W.isFn K (.ref (He.ma K Γ.Copy "__invert__")) = true
  p_Copy_growth : PropOf K Γ.Copy "growth" (He.ma K Γ.Copy "growth") (gtA K Γ.Copy "growth")
  f_list : mg "list" = none
  f_range : mg "range" = none
  f_str : mg "str" = none
theorem sc_law_random : FnScope ["_law_script", "_law_salt", "_law_seed", "_law_cell"] ["_law_script", "_law_salt"] (defScope (top 40)) := ⟨rfl, rfl, rfl, by decide +kernel, rfl, by decide +kernel, by decide +kernel⟩
theorem sc_law_below : FnScope ["_law_d", "_law_limit", "_law_result"] ["_law_d", "_law_limit"] (defScope (top 41)) := ⟨rfl, rfl, rfl, by decide +kernel, rfl, by decide +kernel, by decide +kernel⟩
theorem sc_law_step : FnScope ["_law_d", "_law_size_now"] ["_law_d", "_law_size_now"] (defScope (top 42)) := ⟨rfl, rfl, rfl, by decide +kernel, rfl, by decide +kernel, by decide +kernel⟩
theorem sc_law_common : FnScope ["_law_one", "_law_other"] ["_law_one", "_law_other"] (defScope (top 43)) := ⟨rfl, rfl, rfl, by decide +kernel, rfl, by decide +kernel, by decide +kernel⟩
theorem sc_law_lowest : FnScope ["_law_x", "_law_y", "_law_q", "_law_common_now"] ["_law_x", "_law_y", "_law_q"] (defScope (top 44)) := ⟨rfl, rfl, rfl, by decide +kernel, rfl, by decide +kernel, by decide +kernel⟩
theorem sc_law_spot : FnScope ["_law_d", "_law_below_here"] ["_law_d"] (defScope (top 45)) := ⟨rfl, rfl, rfl, by decide +kernel, rfl, by decide +kernel, by decide +kernel⟩
theorem sc_law_turn : FnScope ["_law_d", "_law_some"] ["_law_d"] (defScope (top 46)) := ⟨rfl, rfl, rfl, by decide +kernel, rfl, by decide +kernel, by decide +kernel⟩
theorem sc_law_arm_told : FnScope ["_law_d", "_law_near", "_law_pole"] ["_law_d"] (defScope (top 47)) := ⟨rfl, rfl, rfl, by decide +kernel, rfl, by decide +kernel, by decide +kernel⟩
theorem sc_Chain___init : FnScope ["self", "arms"] ["self", "arms"] (defScope (inClass (top 36) 0)) := ⟨rfl, rfl, rfl, by decide +kernel, rfl, by decide +kernel, by decide +kernel⟩
theorem sc_is_int : FnScope ["value"] ["value"] (defScope (top 9)) := ⟨rfl, rfl, rfl, by decide +kernel, rfl, by decide +kernel, by decide +kernel⟩
theorem sc_common_divisor : FnScope ["one", "other"] ["one", "other"] (defScope (top 10)) := ⟨rfl, rfl, rfl, by decide +kernel, rfl, by decide +kernel, by decide +kernel⟩
theorem sc_lowest : FnScope ["x", "y", "d", "divisor", "sign"] ["x", "y", "d"] (defScope (top 12)) := ⟨rfl, rfl, rfl, by decide +kernel, rfl, by decide +kernel, by decide +kernel⟩
theorem sc_is_number : FnScope ["value", "part"] ["value"] (defScope (top 15)) := ⟨rfl, rfl, rfl, by decide +kernel, rfl, by decide +kernel, by decide +kernel⟩
theorem sc_check_spot : FnScope ["value"] ["value"] (defScope (top 25)) := ⟨rfl, rfl, rfl, by decide +kernel, rfl, by decide +kernel, by decide +kernel⟩
theorem sc_check_turn : FnScope ["value"] ["value"] (defScope (top 26)) := ⟨rfl, rfl, rfl, by decide +kernel, rfl, by decide +kernel, by decide +kernel⟩
theorem sc_is_int_in : FnScope ["value", "low", "high"] ["value", "low", "high"] (defScope (top 8)) := ⟨rfl, rfl, rfl, by decide +kernel, rfl, by decide +kernel, by decide +kernel⟩
theorem sc_Arm___init : FnScope ["self", "pole", "turn", "near", "far", "mirrored"] ["self", "pole", "turn", "near", "far", "mirrored"] (defScope (inClass (top 31) 0)) := ⟨rfl, rfl, rfl, by decide +kernel, rfl, by decide +kernel, by decide +kernel⟩
theorem sc_law_arm : FnScope ["_law_told"] ["_law_told"] (defScope (top 48)) := ⟨rfl, rfl, rfl, by decide +kernel, rfl, by decide +kernel, by decide +kernel⟩
theorem sc_Chain___add : FnScope ["self", "other", "arms"] ["self", "other"] (defScope (inClass (top 36) 5)) := ⟨rfl, rfl, rfl, by decide +kernel, rfl, by decide +kernel, by decide +kernel⟩
theorem sc_law_chain : FnScope ["_law_tolds", "_law_chain_here", "_law_told"] ["_law_tolds"] (defScope (top 49)) := ⟨rfl, rfl, rfl, by decide +kernel, rfl, by decide +kernel, by decide +kernel⟩
theorem sc_Copy___init : FnScope ["self", "turn", "shift", "mirrored"] ["self", "turn", "shift", "mirrored"] (defScope (inClass (top 28) 0)) := ⟨rfl, rfl, rfl, by decide +kernel, rfl, by decide +kernel, by decide +kernel⟩
theorem sc_multiplied : FnScope ["one", "other", "x"] ["one", "other"] (defScope (top 19)) := ⟨rfl, rfl, rfl, by decide +kernel, rfl, by decide +kernel, by decide +kernel⟩
theorem sc_turned_over : FnScope ["one"] ["one"] (defScope (top 20)) := ⟨rfl, rfl, rfl, by decide +kernel, rfl, by decide +kernel, by decide +kernel⟩
theorem sc_added : FnScope ["one", "other"] ["one", "other"] (defScope (top 16)) := ⟨rfl, rfl, rfl, by decide +kernel, rfl, by decide +kernel, by decide +kernel⟩
theorem sc_opposite : FnScope ["one"] ["one"] (defScope (top 17)) := ⟨rfl, rfl, rfl, by decide +kernel, rfl, by decide +kernel, by decide +kernel⟩
theorem sc_less : FnScope ["one", "other"] ["one", "other"] (defScope (top 18)) := ⟨rfl, rfl, rfl, by decide +kernel, rfl, by decide +kernel, by decide +kernel⟩
theorem sc_copy_about : FnScope ["pole", "turn", "mirrored", "carried"] ["pole", "turn", "mirrored"] (defScope (top 32)) := ⟨rfl, rfl, rfl, by decide +kernel, rfl, by decide +kernel, by decide +kernel⟩
theorem sc_Arm_effect : FnScope ["self"] ["self"] (defScope (inClass (top 31) 1)) := ⟨rfl, rfl, rfl, by decide +kernel, rfl, by decide +kernel, by decide +kernel⟩
theorem sc_carried : FnScope ["copy", "spot"] ["copy", "spot"] (defScope (top 27)) := ⟨rfl, rfl, rfl, by decide +kernel, rfl, by decide +kernel, by decide +kernel⟩
theorem sc_Copy___rshift : FnScope ["self", "other", "turn"] ["self", "other"] (defScope (inClass (top 28) 3)) := ⟨rfl, rfl, rfl, by decide +kernel, rfl, by decide +kernel, by decide +kernel⟩
theorem sc_copies_ahead : FnScope ["arms", "found", "arm"] ["arms"] (defScope (top 37)) := ⟨rfl, rfl, rfl, by decide +kernel, rfl, by decide +kernel, by decide +kernel⟩
theorem sc_ratio : FnScope ["numerator", "denominator", "divisor"] ["numerator", "denominator"] (defScope (top 11)) := ⟨rfl, rfl, rfl, by decide +kernel, rfl, by decide +kernel, by decide +kernel⟩
theorem sc_size : FnScope ["one"] ["one"] (defScope (top 22)) := ⟨rfl, rfl, rfl, by decide +kernel, rfl, by decide +kernel, by decide +kernel⟩
theorem sc_Copy_growth : FnScope ["self"] ["self"] (defScope (inClass (top 28) 5)) := ⟨rfl, rfl, rfl, by decide +kernel, rfl, by decide +kernel, by decide +kernel⟩
theorem sc_inverse : FnScope ["one"] ["one"] (defScope (top 21)) := ⟨rfl, rfl, rfl, by decide +kernel, rfl, by decide +kernel, by decide +kernel⟩
theorem sc_Copy___invert : FnScope ["self", "back", "shift"] ["self"] (defScope (inClass (top 28) 4)) := ⟨rfl, rfl, rfl, by decide +kernel, rfl, by decide +kernel, by decide +kernel⟩
theorem sc_zones : FnScope ["chain", "found", "arm", "ahead", "growth", "ends", "reach"] ["chain"] (defScope (top 38)) := ⟨rfl, rfl, rfl, by decide +kernel, rfl, by decide +kernel, by decide +kernel⟩
theorem sc_law_ratio : FnScope ["_law_p", "_law_q"] ["_law_p", "_law_q"] (defScope (top 50)) := ⟨rfl, rfl, rfl, by decide +kernel, rfl, by decide +kernel, by decide +kernel⟩
theorem sc_law_size : FnScope ["_law_one"] ["_law_one"] (defScope (top 51)) := ⟨rfl, rfl, rfl, by decide +kernel, rfl, by decide +kernel, by decide +kernel⟩
theorem sc_law_plus : FnScope ["_law_one", "_law_other", "_law_x", "_law_y"] ["_law_one", "_law_other"] (defScope (top 52)) := ⟨rfl, rfl, rfl, by decide +kernel, rfl, by decide +kernel, by decide +kernel⟩
theorem sc_law_minus : FnScope ["_law_one", "_law_other"] ["_law_one", "_law_other"] (defScope (top 53)) := ⟨rfl, rfl, rfl, by decide +kernel, rfl, by decide +kernel, by decide +kernel⟩
theorem sc_law_less : FnScope ["_law_one", "_law_other"] ["_law_one", "_law_other"] (defScope (top 54)) := ⟨rfl, rfl, rfl, by decide +kernel, rfl, by decide +kernel, by decide +kernel⟩
theorem sc_law_reached : FnScope ["_law_told", "_law_spot_here", "_law_distance"] ["_law_told", "_law_spot_here"] (defScope (top 55)) := ⟨rfl, rfl, rfl, by decide +kernel, rfl, by decide +kernel, by decide +kernel⟩
theorem sc_law_times : FnScope ["_law_one", "_law_other", "_law_x", "_law_y"] ["_law_one", "_law_other"] (defScope (top 56)) := ⟨rfl, rfl, rfl, by decide +kernel, rfl, by decide +kernel, by decide +kernel⟩
theorem sc_law_over : FnScope ["_law_one"] ["_law_one"] (defScope (top 57)) := ⟨rfl, rfl, rfl, by decide +kernel, rfl, by decide +kernel, by decide +kernel⟩
theorem sc_law_carried : FnScope ["_law_told", "_law_spot_here"] ["_law_told", "_law_spot_here"] (defScope (top 58)) := ⟨rfl, rfl, rfl, by decide +kernel, rfl, by decide +kernel, by decide +kernel⟩
theorem sc_law_about : FnScope ["_law_told", "_law_pole", "_law_turn_here", "_law_near", "_law_far", "_law_flipped", "_law_carried_to"] ["_law_told"] (defScope (top 59)) := ⟨rfl, rfl, rfl, by decide +kernel, rfl, by decide +kernel, by decide +kernel⟩
theorem sc_law_equal : FnScope ["_law_actual", "_law_expected", "_law_k"] ["_law_actual", "_law_expected"] (defScope (top 60)) := ⟨rfl, rfl, rfl, by decide +kernel, rfl, by decide +kernel, by decide +kernel⟩
theorem sc_law : FnScope ["_law_script", "_law_d", "_law_tolds", "_law_k", "_law_chain_here", "_law_found", "_law_spot_here", "_law_here", "_law_center", "_law_near", "_law_far", "_law_distance", "_law_inside", "_law_size_now", "_law_told", "_law_growth", "_law_due", "_law_reach"] ["_law_script"] (defScope (top 61)) := ⟨rfl, rfl, rfl, by decide +kernel, rfl, by decide +kernel, by decide +kernel⟩
section
variable {P : Program} {w : World} {K : PySem.W.Frag} {mg : Str → Option Value} {base : Heap} {f : Addr}
theorem dv_law_random (Γ : CL) (T : Fc K mg Γ)  (cdv : Value) (A : Around) (outer : List Env) (s0 : Shared) (H : Hp) (E : XK) (hr : Room 0 (A.deeper (envOfC "_law_random" (defScope (top 40)) s0.heap.objs.size f cdv))) : DSs (cxOf CX0 P w K mg base ["_law_script", "_law_salt", "_law_seed", "_law_cell"] "_law_random" (defScope (top 40)) f cdv A outer s0 H E).nox (defBody (top 40)) (rd_law_random Γ) :=
 (dss_cons (ds_set (i := 2) sc_law_random.nd (de_var 1))
 (dss_cons (ds_for (vs := [3]) (di_list (de_var 0)) (dg_name (i := 3) sc_law_random.nd)
 (dss_one (ds_set (i := 2) sc_law_random.nd (de_mod (de_add (de_mul (de_var 2) de_int) (de_abs rfl T.f_abs (da_cons (de_var 3) da_nil))) de_int))))
 (dss_one (ds_ret (de_addM (de_lst (da_cons (de_var 2) (da_cons de_int da_nil))) (de_lc [("_law_cell", 3)] sc_law_random.nd (di_list (de_var 0)) (by kernel_rfl) (fun _ _ _ _ _ => (dg_name (i := 3) sc_law_random.nd)) (fun _ _ _ _ _ => (dts_one (dt_ge (de_var 3) (de_pow de_int de_int)))) (fun _ _ _ _ _ => (de_var 3))))))))
theorem dv_law_below (Γ : CL) (T : Fc K mg Γ)  (cdv : Value) (A : Around) (outer : List Env) (s0 : Shared) (H : Hp) (E : XK) (hr : Room 0 (A.deeper (envOfC "_law_below" (defScope (top 41)) s0.heap.objs.size f cdv))) : DSs (cxOf CX0 P w K mg base ["_law_d", "_law_limit", "_law_result"] "_law_below" (defScope (top 41)) f cdv A outer s0 H E).nox (defBody (top 41)) (rd_law_below Γ) :=
 (dss_cons (ds_if (dt_w (dw_and (dt_eq hr.units (de_ix (de_var 0) de_int) de_int) (dw_and1 (dt_gt (de_len rfl T.f_len (da_cons (de_var 0) da_nil)) de_int))))
 (dss_one (ds_setIx (de_popAt (de_var 0) (da_cons de_int da_nil)) (de_var 0) de_int))
 dss_nil)
 (dss_cons (ds_if (dt_gt (de_ix (de_var 0) de_int) de_int)
 (dss_cons (ds_set (i := 2) sc_law_below.nd (de_mod (de_ix (de_var 0) de_int) (de_var 1)))
 (dss_cons (ds_setIx (de_div (de_ix (de_var 0) de_int) (de_var 1)) (de_var 0) de_int)
 (dss_one (ds_ret (de_var 2)))))
 dss_nil)
 (dss_cons (ds_setIx (de_mod (de_add (de_mul (de_ix (de_var 0) de_int) de_int) de_int) de_int) (de_var 0) de_int)
 (dss_one (ds_ret (de_mod (de_div (de_ix (de_var 0) de_int) de_int) (de_var 1)))))))
theorem dv_law_step (Γ : CL) (T : Fc K mg Γ) (G_law_below : FnG P w K mg base 1 "_law_below" (sp_law_below Γ)) (cdv : Value) (A : Around) (outer : List Env) (s0 : Shared) (H : Hp) (E : XK) (hr : Room 1 (A.deeper (envOfC "_law_step" (defScope (top 42)) s0.heap.objs.size f cdv))) : DSs (cxOf CX0 P w K mg base ["_law_d", "_law_size_now"] "_law_step" (defScope (top 42)) f cdv A outer s0 H E).nox (defBody (top 42)) (rd_law_step Γ) :=
 (dss_one (ds_ret (de_tup (da_cons (de_sub (de_call G_law_below (hr.mono (by decide)) rfl (da_cons (de_var 0) (da_cons (de_add (de_mul de_int (de_var 1)) de_int) da_nil))) (de_var 1)) (da_cons (de_sub (de_call G_law_below (hr.mono (by decide)) rfl (da_cons (de_var 0) (da_cons (de_add (de_mul de_int (de_var 1)) de_int) da_nil))) (de_var 1)) (da_cons de_int da_nil))))))
theorem dv_law_common (Γ : CL) (T : Fc K mg Γ)  (cdv : Value) (A : Around) (outer : List Env) (s0 : Shared) (H : Hp) (E : XK) (hr : Room 0 (A.deeper (envOfC "_law_common" (defScope (top 43)) s0.heap.objs.size f cdv))) : DSs (cxOf CX0 P w K mg base ["_law_one", "_law_other"] "_law_common" (defScope (top 43)) f cdv A outer s0 H E).nox (defBody (top 43)) (rd_law_common Γ) :=
 (dss_cons (ds_par (i := 0) (j := 1) sc_law_common.nd (da_cons (de_abs rfl T.f_abs (da_cons (de_var 0) da_nil)) (da_cons (de_abs rfl T.f_abs (da_cons (de_var 1) da_nil)) da_nil)))
 (dss_cons (ds_while (dt_gt (de_var 1) de_int) (dss_one (ds_par (i := 0) (j := 1) sc_law_common.nd (da_cons (de_var 1) (da_cons (de_mod (de_var 0) (de_var 1)) da_nil)))))
 (dss_one (ds_ret (de_var 0)))))
theorem dv_law_lowest (Γ : CL) (T : Fc K mg Γ) (G_law_common : FnG P w K mg base 1 "_law_common" (sp_law_common Γ)) (cdv : Value) (A : Around) (outer : List Env) (s0 : Shared) (H : Hp) (E : XK) (hr : Room 1 (A.deeper (envOfC "_law_lowest" (defScope (top 44)) s0.heap.objs.size f cdv))) : DSs (cxOf CX0 P w K mg base ["_law_x", "_law_y", "_law_q", "_law_common_now"] "_law_lowest" (defScope (top 44)) f cdv A outer s0 H E).nox (defBody (top 44)) (rd_law_lowest Γ) :=
 (dss_cons (ds_set (i := 3) sc_law_lowest.nd (de_call G_law_common (hr.mono (by decide)) rfl (da_cons (de_call G_law_common (hr.mono (by decide)) rfl (da_cons (de_var 0) (da_cons (de_var 1) da_nil))) (da_cons (de_var 2) da_nil))))
 (dss_cons (ds_set (i := 3) sc_law_lowest.nd (de_if (dt_gt (de_var 2) de_int) (de_var 3) (de_sub de_int (de_var 3))))
 (dss_one (ds_ret (de_tup (da_cons (de_div (de_var 0) (de_var 3)) (da_cons (de_div (de_var 1) (de_var 3)) (da_cons (de_div (de_var 2) (de_var 3)) da_nil))))))))
theorem dv_law_spot (Γ : CL) (T : Fc K mg Γ) (G_law_below : FnG P w K mg base 1 "_law_below" (sp_law_below Γ)) (G_law_lowest : FnG P w K mg base 2 "_law_lowest" (sp_law_lowest Γ)) (cdv : Value) (A : Around) (outer : List Env) (s0 : Shared) (H : Hp) (E : XK) (hr : Room 2 (A.deeper (envOfC "_law_spot" (defScope (top 45)) s0.heap.objs.size f cdv))) : DSs (cxOf CX0 P w K mg base ["_law_d", "_law_below_here"] "_law_spot" (defScope (top 45)) f cdv A outer s0 H E).nox (defBody (top 45)) (rd_law_spot Γ) :=
 (dss_cons (ds_set (i := 1) sc_law_spot.nd (de_ix (de_lst (da_cons de_int (da_cons de_int (da_cons de_int (da_cons de_int (da_cons de_int (da_cons de_int da_nil))))))) (de_call G_law_below (hr.mono (by decide)) rfl (da_cons (de_var 0) (da_cons de_int da_nil)))))
 (dss_one (ds_ret (de_call G_law_lowest (hr.mono (by decide)) rfl (da_cons (de_sub (de_call G_law_below (hr.mono (by decide)) rfl (da_cons (de_var 0) (da_cons de_int da_nil))) de_int) (da_cons (de_sub (de_call G_law_below (hr.mono (by decide)) rfl (da_cons (de_var 0) (da_cons de_int da_nil))) de_int) (da_cons (de_var 1) da_nil)))))))
theorem dv_law_turn (Γ : CL) (T : Fc K mg Γ) (G_law_below : FnG P w K mg base 1 "_law_below" (sp_law_below Γ)) (cdv : Value) (A : Around) (outer : List Env) (s0 : Shared) (H : Hp) (E : XK) (hr : Room 1 (A.deeper (envOfC "_law_turn" (defScope (top 46)) s0.heap.objs.size f cdv))) : DSs (cxOf CX0 P w K mg base ["_law_d", "_law_some"] "_law_turn" (defScope (top 46)) f cdv A outer s0 H E).nox (defBody (top 46)) (rd_law_turn Γ) :=
 (dss_cons (ds_set (i := 1) sc_law_turn.nd (de_lst (da_cons (de_tup (da_cons de_int (da_cons de_int (da_cons de_int da_nil)))) (da_cons (de_tup (da_cons (de_sub de_int de_int) (da_cons de_int (da_cons de_int da_nil)))) (da_cons (de_tup (da_cons de_int (da_cons de_int (da_cons de_int da_nil)))) (da_cons (de_tup (da_cons de_int (da_cons (de_sub de_int de_int) (da_cons de_int da_nil)))) (da_cons (de_tup (da_cons de_int (da_cons de_int (da_cons de_int da_nil)))) (da_cons (de_tup (da_cons de_int (da_cons de_int (da_cons de_int da_nil)))) (da_cons (de_tup (da_cons de_int (da_cons de_int (da_cons de_int da_nil)))) (da_cons (de_tup (da_cons de_int (da_cons de_int (da_cons de_int da_nil)))) da_nil))))))))))
 (dss_cons (ds_set (i := 1) sc_law_turn.nd (de_add (de_var 1) (de_lst (da_cons (de_tup (da_cons de_int (da_cons de_int (da_cons de_int da_nil)))) (da_cons (de_tup (da_cons (de_sub de_int de_int) (da_cons de_int (da_cons de_int da_nil)))) (da_cons (de_tup (da_cons de_int (da_cons (de_sub de_int de_int) (da_cons de_int da_nil)))) (da_cons (de_tup (da_cons de_int (da_cons de_int (da_cons de_int da_nil)))) (da_cons (de_tup (da_cons (de_sub de_int de_int) (da_cons de_int (da_cons de_int da_nil)))) da_nil))))))))
 (dss_one (ds_ret (de_ix (de_var 1) (de_call G_law_below (hr.mono (by decide)) rfl (da_cons (de_var 0) (da_cons de_int da_nil))))))))
theorem dv_law_arm_told (Γ : CL) (T : Fc K mg Γ) (G_law_below : FnG P w K mg base 1 "_law_below" (sp_law_below Γ)) (G_law_step : FnG P w K mg base 2 "_law_step" (sp_law_step Γ)) (G_law_spot : FnG P w K mg base 3 "_law_spot" (sp_law_spot Γ)) (G_law_turn : FnG P w K mg base 2 "_law_turn" (sp_law_turn Γ)) (cdv : Value) (A : Around) (outer : List Env) (s0 : Shared) (H : Hp) (E : XK) (hr : Room 3 (A.deeper (envOfC "_law_arm_told" (defScope (top 47)) s0.heap.objs.size f cdv))) : DSs (cxOf CX0 P w K mg base ["_law_d", "_law_near", "_law_pole"] "_law_arm_told" (defScope (top 47)) f cdv A outer s0 H E).nox (defBody (top 47)) (rd_law_arm_told Γ) :=
 (dss_cons (ds_set (i := 1) sc_law_arm_told.nd (de_ix (de_lst (da_cons de_int (da_cons de_int (da_cons de_int (da_cons de_int da_nil))))) (de_call G_law_below (hr.mono (by decide)) rfl (da_cons (de_var 0) (da_cons de_int da_nil)))))
 (dss_cons (ds_set (i := 2) sc_law_arm_told.nd (de_if (dt_gt (de_call G_law_below (hr.mono (by decide)) rfl (da_cons (de_var 0) (da_cons de_int da_nil))) de_int) (de_call G_law_step (hr.mono (by decide)) rfl (da_cons (de_var 0) (da_cons de_int da_nil))) (de_call G_law_spot (hr.mono (by decide)) rfl (da_cons (de_var 0) da_nil))))
 (dss_one (ds_ret (de_tup (da_cons (de_var 2) (da_cons (de_call G_law_turn (hr.mono (by decide)) rfl (da_cons (de_var 0) da_nil)) (da_cons (de_var 1) (da_cons (de_add (de_var 1) (de_ix (de_lst (da_cons de_int (da_cons de_int (da_cons de_int (da_cons de_int da_nil))))) (de_call G_law_below (hr.mono (by decide)) rfl (da_cons (de_var 0) (da_cons de_int da_nil))))) (da_cons (de_eq hr.units (de_call G_law_below (hr.mono (by decide)) rfl (da_cons (de_var 0) (da_cons de_int da_nil))) de_int) da_nil))))))))))
theorem dv_Chain___init (Γ : CL) (T : Fc K mg Γ)  (cdv : Value) (A : Around) (outer : List Env) (s0 : Shared) (H : Hp) (E : XK) (hr : Room 0 (A.deeper (envOfC "Chain.__init__" (defScope (inClass (top 36) 0)) s0.heap.objs.size f cdv))) : DSs (cxOf CX0 P w K mg base ["self", "arms"] "Chain.__init__" (defScope (inClass (top 36) 0)) f cdv A outer s0 H E).nox (defBody (inClass (top 36) 0)) (rd_Chain___init Γ) :=
 (dss_cons (ds_if (dt_gt (de_len rfl T.f_len (da_cons (de_var 1) da_nil)) T.c_MAX_ARMS.de)
 (dss_one ds_never)
 dss_nil)
 (dss_one (ds_fld (de_var 0) (de_var 1) T.cl_Chain T.n_Chain_arms)))
theorem dv_is_int (Γ : CL) (T : Fc K mg Γ)  (cdv : Value) (A : Around) (outer : List Env) (s0 : Shared) (H : Hp) (E : XK) (hr : Room 0 (A.deeper (envOfC "is_int" (defScope (top 9)) s0.heap.objs.size f cdv))) : DSs (cxOf CX0 P w K mg base ["value"] "is_int" (defScope (top 9)) f cdv A outer s0 H E).nox (defBody (top 9)) (rd_is_int Γ) :=
 (dss_one (ds_ret (de_and (de_isi rfl T.f_isinstance (da_cons (de_var 0) (da_cons (de_ty (n := "int") rfl T.f_int (by decide +kernel)) da_nil))) (de_one (de_not (de_isi rfl T.f_isinstance (da_cons (de_var 0) (da_cons (de_ty (n := "bool") rfl T.f_bool (by decide +kernel)) da_nil))))))))
theorem dv_common_divisor (Γ : CL) (T : Fc K mg Γ)  (cdv : Value) (A : Around) (outer : List Env) (s0 : Shared) (H : Hp) (E : XK) (hr : Room 0 (A.deeper (envOfC "common_divisor" (defScope (top 10)) s0.heap.objs.size f cdv))) : DSs (cxOf CX0 P w K mg base ["one", "other"] "common_divisor" (defScope (top 10)) f cdv A outer s0 H E).nox (defBody (top 10)) (rd_common_divisor Γ) :=
 (dss_cons (ds_par (i := 0) (j := 1) sc_common_divisor.nd (da_cons (de_abs rfl T.f_abs (da_cons (de_var 0) da_nil)) (da_cons (de_abs rfl T.f_abs (da_cons (de_var 1) da_nil)) da_nil)))
 (dss_cons (ds_while (dt_gt (de_var 1) de_int) (dss_one (ds_par (i := 0) (j := 1) sc_common_divisor.nd (da_cons (de_var 1) (da_cons (de_mod (de_var 0) (de_var 1)) da_nil)))))
 (dss_one (ds_ret (de_var 0)))))
theorem dv_lowest (Γ : CL) (T : Fc K mg Γ) (G_common_divisor : FnG P w K mg base 1 "common_divisor" (sp_common_divisor Γ)) (cdv : Value) (A : Around) (outer : List Env) (s0 : Shared) (H : Hp) (E : XK) (hr : Room 1 (A.deeper (envOfC "lowest" (defScope (top 12)) s0.heap.objs.size f cdv))) : DSs (cxOf CX0 P w K mg base ["x", "y", "d", "divisor", "sign"] "lowest" (defScope (top 12)) f cdv A outer s0 H E).nox (defBody (top 12)) (rd_lowest Γ) :=
 (dss_cons (ds_set (i := 3) sc_lowest.nd (de_call G_common_divisor (hr.mono (by decide)) rfl (da_cons (de_call G_common_divisor (hr.mono (by decide)) rfl (da_cons (de_var 0) (da_cons (de_var 1) da_nil))) (da_cons (de_var 2) da_nil))))
 (dss_cons (ds_set (i := 4) sc_lowest.nd (de_if (dt_gt (de_var 2) de_int) de_int (de_neg de_int)))
 (dss_one (ds_ret (de_tup (da_cons (de_div (de_mul (de_var 4) (de_var 0)) (de_var 3)) (da_cons (de_div (de_mul (de_var 4) (de_var 1)) (de_var 3)) (da_cons (de_div (de_mul (de_var 4) (de_var 2)) (de_var 3)) da_nil))))))))
theorem dv_is_number (Γ : CL) (T : Fc K mg Γ) (G_is_int : FnG P w K mg base 1 "is_int" (sp_is_int Γ)) (G_lowest : FnG P w K mg base 2 "lowest" (sp_lowest Γ)) (cdv : Value) (A : Around) (outer : List Env) (s0 : Shared) (H : Hp) (E : XK) (hr : Room 2 (A.deeper (envOfC "is_number" (defScope (top 15)) s0.heap.objs.size f cdv))) : DSs (cxOf CX0 P w K mg base ["value", "part"] "is_number" (defScope (top 15)) f cdv A outer s0 H E).nox (defBody (top 15)) (rd_is_number Γ) :=
 (dss_cons (ds_if (dt_w (dw_or (dt_not (dt_val (de_isi rfl T.f_isinstance (da_cons (de_var 0) (da_cons (de_ty (n := "tuple") rfl T.f_tuple (by decide +kernel)) da_nil))))) (dw_or (dt_ne hr.units (de_len rfl T.f_len (da_cons (de_var 0) da_nil)) de_int) (dw_or1 (dt_not (dt_val (de_all rfl T.f_all (da_cons (de_lc [("part", 1)] sc_is_number.nd (di_tup (de_var 0)) (by kernel_rfl) (fun _ _ _ _ _ => (dg_name (i := 1) sc_is_number.nd)) (fun _ _ _ _ _ => dts_nil) (fun _ _ _ _ _ => (de_call G_is_int (hr.mono (by decide)) rfl (da_cons (de_var 1) da_nil)))) da_nil))))))))
 (dss_one (ds_ret de_bl))
 dss_nil)
 (dss_one (ds_ret (de_and (de_gt (de_ix (de_var 0) de_int) de_int) (de_one (de_eq hr.units (de_callS1 G_lowest (hr.mono (by decide)) rfl (de_var 0)) (de_var 0)))))))
theorem dv_check_spot (Γ : CL) (T : Fc K mg Γ) (G_is_number : FnG P w K mg base 3 "is_number" (sp_is_number Γ)) (cdv : Value) (A : Around) (outer : List Env) (s0 : Shared) (H : Hp) (E : XK) (hr : Room 3 (A.deeper (envOfC "check_spot" (defScope (top 25)) s0.heap.objs.size f cdv))) : DSs (cxOf CX0 P w K mg base ["value"] "check_spot" (defScope (top 25)) f cdv A outer s0 H E).nox (defBody (top 25)) (rd_check_spot Γ) :=
 (dss_one (ds_if (dt_not (dt_val (de_call G_is_number (hr.mono (by decide)) rfl (da_cons (de_var 0) da_nil))))
 (dss_one ds_never)
 dss_nil))
theorem dv_check_turn (Γ : CL) (T : Fc K mg Γ) (G_is_number : FnG P w K mg base 3 "is_number" (sp_is_number Γ)) (cdv : Value) (A : Around) (outer : List Env) (s0 : Shared) (H : Hp) (E : XK) (hr : Room 3 (A.deeper (envOfC "check_turn" (defScope (top 26)) s0.heap.objs.size f cdv))) : DSs (cxOf CX0 P w K mg base ["value"] "check_turn" (defScope (top 26)) f cdv A outer s0 H E).nox (defBody (top 26)) (rd_check_turn Γ) :=
 (dss_one (ds_if (dt_w (dw_or (dt_not (dt_val (de_call G_is_number (hr.mono (by decide)) rfl (da_cons (de_var 0) da_nil)))) (dw_or1 (dt_eq hr.units (de_var 0) T.c_ZERO.de))))
 (dss_one ds_never)
 dss_nil))
theorem dv_is_int_in (Γ : CL) (T : Fc K mg Γ)  (cdv : Value) (A : Around) (outer : List Env) (s0 : Shared) (H : Hp) (E : XK) (hr : Room 0 (A.deeper (envOfC "is_int_in" (defScope (top 8)) s0.heap.objs.size f cdv))) : DSs (cxOf CX0 P w K mg base ["value", "low", "high"] "is_int_in" (defScope (top 8)) f cdv A outer s0 H E).nox (defBody (top 8)) (rd_is_int_in Γ) :=
 (dss_one (ds_ret (de_and (de_isi rfl T.f_isinstance (da_cons (de_var 0) (da_cons (de_ty (n := "int") rfl T.f_int (by decide +kernel)) da_nil))) (de_and (de_not (de_isi rfl T.f_isinstance (da_cons (de_var 0) (da_cons (de_ty (n := "bool") rfl T.f_bool (by decide +kernel)) da_nil)))) (de_one (de_chain_le_le (de_var 1) (de_var 0) (de_var 2)))))))
theorem dv_Arm___init (Γ : CL) (T : Fc K mg Γ) (G_check_spot : FnG P w K mg base 4 "check_spot" (sp_check_spot Γ)) (G_check_turn : FnG P w K mg base 4 "check_turn" (sp_check_turn Γ)) (G_is_int_in : FnG P w K mg base 1 "is_int_in" (sp_is_int_in Γ)) (cdv : Value) (A : Around) (outer : List Env) (s0 : Shared) (H : Hp) (E : XK) (hr : Room 4 (A.deeper (envOfC "Arm.__init__" (defScope (inClass (top 31) 0)) s0.heap.objs.size f cdv))) : DSs (cxOf CX0 P w K mg base ["self", "pole", "turn", "near", "far", "mirrored"] "Arm.__init__" (defScope (inClass (top 31) 0)) f cdv A outer s0 H E).nox (defBody (inClass (top 31) 0)) (rd_Arm___init Γ) :=
 (dss_cons (ds_expr (de_call G_check_spot (hr.mono (by decide)) rfl (da_cons (de_var 1) da_nil)))
 (dss_cons (ds_expr (de_call G_check_turn (hr.mono (by decide)) rfl (da_cons (de_var 2) da_nil)))
 (dss_cons (ds_if (dt_w (dw_or (dt_not (dt_val (de_call G_is_int_in (hr.mono (by decide)) rfl (da_cons (de_var 3) (da_cons de_int (da_cons T.c_MAX_REACH.de da_nil)))))) (dw_or1 (dt_not (dt_val (de_call G_is_int_in (hr.mono (by decide)) rfl (da_cons (de_var 4) (da_cons (de_var 3) (da_cons T.c_MAX_REACH.de da_nil)))))))))
 (dss_one ds_never)
 dss_nil)
 (dss_cons (ds_fld (de_var 0) (de_var 1) T.cl_Arm T.n_Arm_pole)
 (dss_cons (ds_fld (de_var 0) (de_var 2) T.cl_Arm T.n_Arm_turn)
 (dss_cons (ds_fld (de_var 0) (de_var 3) T.cl_Arm T.n_Arm_near)
 (dss_cons (ds_fld (de_var 0) (de_var 4) T.cl_Arm T.n_Arm_far)
 (dss_cons (ds_fld (de_var 0) (de_var 5) T.cl_Arm T.n_Arm_mirrored)
 (dss_one (ds_fld (de_var 0) (de_tup (da_cons (de_var 1) (da_cons (de_var 2) (da_cons (de_var 3) (da_cons (de_var 4) (da_cons (de_var 5) da_nil)))))) T.cl_Arm T.n_Arm_key))))))))))
theorem dv_law_arm (Γ : CL) (T : Fc K mg Γ) (G_Arm___init_k_mirrored : MkK P w K mg base 5 "Arm" Γ.Arm (sp_Arm___init Γ) 4 ["mirrored"] gD_Arm_mirrored) (cdv : Value) (A : Around) (outer : List Env) (s0 : Shared) (H : Hp) (E : XK) (hr : Room 6 (A.deeper (envOfC "_law_arm" (defScope (top 48)) s0.heap.objs.size f cdv))) : DSs (cxOf CX0 P w K mg base ["_law_told"] "_law_arm" (defScope (top 48)) f cdv A outer s0 H E).nox (defBody (top 48)) (rd_law_arm Γ) :=
 (dss_one (ds_ret (de_makeK G_Arm___init_k_mirrored (hr.mono (by decide)) rfl (da_cons (de_ix (de_var 0) de_int) (da_cons (de_ix (de_var 0) de_int) (da_cons (de_ix (de_var 0) de_int) (da_cons (de_ix (de_var 0) de_int) da_nil)))) (dk_cons (de_ix (de_var 0) de_int) dk_nil))))
theorem dv_Chain___add (Γ : CL) (T : Fc K mg Γ) (G_Chain___init : MkS P w K mg base 1 "Chain" Γ.Chain (sp_Chain___init Γ)) (cdv : Value) (A : Around) (outer : List Env) (s0 : Shared) (H : Hp) (E : XK) (hr : Room 2 (A.deeper (envOfC "Chain.__add__" (defScope (inClass (top 36) 5)) s0.heap.objs.size f cdv))) : DSs (cxOf CX0 P w K mg base ["self", "other", "arms"] "Chain.__add__" (defScope (inClass (top 36) 5)) f cdv A outer s0 H E).nox (defBody (inClass (top 36) 5)) (rd_Chain___add Γ) :=
 (dss_cons (ds_set (i := 2) sc_Chain___add.nd (de_tup (da_star (de_fld (de_var 0) T.cl_Chain T.n_Chain_arms) (da_star (de_fld (de_var 1) T.cl_Chain T.n_Chain_arms) da_nil))))
 (dss_one (ds_ret (de_makeS1 G_Chain___init (hr.mono (by decide)) rfl (de_var 2)))))
theorem dv_law_chain (Γ : CL) (T : Fc K mg Γ) (G_law_arm : FnG P w K mg base 7 "_law_arm" (sp_law_arm Γ)) (G_Chain___add : MtG P w K mg base 3 Γ.Chain (He.ma K Γ.Chain "__add__") (sp_Chain___add Γ)) (G_Chain___init : MkS P w K mg base 1 "Chain" Γ.Chain (sp_Chain___init Γ)) (cdv : Value) (A : Around) (outer : List Env) (s0 : Shared) (H : Hp) (E : XK) (hr : Room 7 (A.deeper (envOfC "_law_chain" (defScope (top 49)) s0.heap.objs.size f cdv))) : DSs (cxOf CX0 P w K mg base ["_law_tolds", "_law_chain_here", "_law_told"] "_law_chain" (defScope (top 49)) f cdv A outer s0 H E).nox (defBody (top 49)) (rd_law_chain Γ) :=
 (dss_cons (ds_set (i := 1) sc_law_chain.nd (de_makeS0 G_Chain___init (hr.mono (by decide)) rfl))
 (dss_cons (ds_for (vs := [2]) (di_list (de_var 0)) (dg_name (i := 2) sc_law_chain.nd)
 (dss_one (ds_set (i := 1) sc_law_chain.nd (de_opO G_Chain___add (hr.mono (by decide)) T.sf_Chain T.w_Chain___add T.v_Chain___add (de_var 1) (de_makeS G_Chain___init (hr.mono (by decide)) rfl (da_cons (de_call G_law_arm (hr.mono (by decide)) rfl (da_cons (de_var 2) da_nil)) da_nil))))))
 (dss_one (ds_ret (de_var 1)))))
theorem dv_Copy___init (Γ : CL) (T : Fc K mg Γ) (G_check_turn : FnG P w K mg base 4 "check_turn" (sp_check_turn Γ)) (G_check_spot : FnG P w K mg base 4 "check_spot" (sp_check_spot Γ)) (cdv : Value) (A : Around) (outer : List Env) (s0 : Shared) (H : Hp) (E : XK) (hr : Room 4 (A.deeper (envOfC "Copy.__init__" (defScope (inClass (top 28) 0)) s0.heap.objs.size f cdv))) : DSs (cxOf CX0 P w K mg base ["self", "turn", "shift", "mirrored"] "Copy.__init__" (defScope (inClass (top 28) 0)) f cdv A outer s0 H E).nox (defBody (inClass (top 28) 0)) (rd_Copy___init Γ) :=
 (dss_cons (ds_expr (de_call G_check_turn (hr.mono (by decide)) rfl (da_cons (de_var 1) da_nil)))
 (dss_cons (ds_expr (de_call G_check_spot (hr.mono (by decide)) rfl (da_cons (de_var 2) da_nil)))
 (dss_cons (ds_fld (de_var 0) (de_var 1) T.cl_Copy T.n_Copy_turn)
 (dss_cons (ds_fld (de_var 0) (de_var 2) T.cl_Copy T.n_Copy_shift)
 (dss_cons (ds_fld (de_var 0) (de_var 3) T.cl_Copy T.n_Copy_mirrored)
 (dss_one (ds_fld (de_var 0) (de_tup (da_cons (de_var 1) (da_cons (de_var 2) (da_cons (de_var 3) da_nil)))) T.cl_Copy T.n_Copy_key)))))))
theorem dv_multiplied (Γ : CL) (T : Fc K mg Γ) (G_lowest : FnG P w K mg base 2 "lowest" (sp_lowest Γ)) (cdv : Value) (A : Around) (outer : List Env) (s0 : Shared) (H : Hp) (E : XK) (hr : Room 2 (A.deeper (envOfC "multiplied" (defScope (top 19)) s0.heap.objs.size f cdv))) : DSs (cxOf CX0 P w K mg base ["one", "other", "x"] "multiplied" (defScope (top 19)) f cdv A outer s0 H E).nox (defBody (top 19)) (rd_multiplied Γ) :=
 (dss_cons (ds_set (i := 2) sc_multiplied.nd (de_sub (de_mul (de_ix (de_var 0) de_int) (de_ix (de_var 1) de_int)) (de_mul (de_ix (de_var 0) de_int) (de_ix (de_var 1) de_int))))
 (dss_one (ds_ret (de_call G_lowest (hr.mono (by decide)) rfl (da_cons (de_var 2) (da_cons (de_add (de_mul (de_ix (de_var 0) de_int) (de_ix (de_var 1) de_int)) (de_mul (de_ix (de_var 0) de_int) (de_ix (de_var 1) de_int))) (da_cons (de_mul (de_ix (de_var 0) de_int) (de_ix (de_var 1) de_int)) da_nil)))))))
theorem dv_turned_over (Γ : CL) (T : Fc K mg Γ)  (cdv : Value) (A : Around) (outer : List Env) (s0 : Shared) (H : Hp) (E : XK) (hr : Room 0 (A.deeper (envOfC "turned_over" (defScope (top 20)) s0.heap.objs.size f cdv))) : DSs (cxOf CX0 P w K mg base ["one"] "turned_over" (defScope (top 20)) f cdv A outer s0 H E).nox (defBody (top 20)) (rd_turned_over Γ) :=
 (dss_one (ds_ret (de_tup (da_cons (de_ix (de_var 0) de_int) (da_cons (de_sub de_int (de_ix (de_var 0) de_int)) (da_cons (de_ix (de_var 0) de_int) da_nil))))))
theorem dv_added (Γ : CL) (T : Fc K mg Γ) (G_lowest : FnG P w K mg base 2 "lowest" (sp_lowest Γ)) (cdv : Value) (A : Around) (outer : List Env) (s0 : Shared) (H : Hp) (E : XK) (hr : Room 2 (A.deeper (envOfC "added" (defScope (top 16)) s0.heap.objs.size f cdv))) : DSs (cxOf CX0 P w K mg base ["one", "other"] "added" (defScope (top 16)) f cdv A outer s0 H E).nox (defBody (top 16)) (rd_added Γ) :=
 (dss_one (ds_ret (de_call G_lowest (hr.mono (by decide)) rfl (da_cons (de_add (de_mul (de_ix (de_var 0) de_int) (de_ix (de_var 1) de_int)) (de_mul (de_ix (de_var 1) de_int) (de_ix (de_var 0) de_int))) (da_cons (de_add (de_mul (de_ix (de_var 0) de_int) (de_ix (de_var 1) de_int)) (de_mul (de_ix (de_var 1) de_int) (de_ix (de_var 0) de_int))) (da_cons (de_mul (de_ix (de_var 0) de_int) (de_ix (de_var 1) de_int)) da_nil))))))
theorem dv_opposite (Γ : CL) (T : Fc K mg Γ)  (cdv : Value) (A : Around) (outer : List Env) (s0 : Shared) (H : Hp) (E : XK) (hr : Room 0 (A.deeper (envOfC "opposite" (defScope (top 17)) s0.heap.objs.size f cdv))) : DSs (cxOf CX0 P w K mg base ["one"] "opposite" (defScope (top 17)) f cdv A outer s0 H E).nox (defBody (top 17)) (rd_opposite Γ) :=
 (dss_one (ds_ret (de_tup (da_cons (de_sub de_int (de_ix (de_var 0) de_int)) (da_cons (de_sub de_int (de_ix (de_var 0) de_int)) (da_cons (de_ix (de_var 0) de_int) da_nil))))))
theorem dv_less (Γ : CL) (T : Fc K mg Γ) (G_added : FnG P w K mg base 3 "added" (sp_added Γ)) (G_opposite : FnG P w K mg base 1 "opposite" (sp_opposite Γ)) (cdv : Value) (A : Around) (outer : List Env) (s0 : Shared) (H : Hp) (E : XK) (hr : Room 3 (A.deeper (envOfC "less" (defScope (top 18)) s0.heap.objs.size f cdv))) : DSs (cxOf CX0 P w K mg base ["one", "other"] "less" (defScope (top 18)) f cdv A outer s0 H E).nox (defBody (top 18)) (rd_less Γ) :=
 (dss_one (ds_ret (de_call G_added (hr.mono (by decide)) rfl (da_cons (de_var 0) (da_cons (de_call G_opposite (hr.mono (by decide)) rfl (da_cons (de_var 1) da_nil)) da_nil)))))
theorem dv_copy_about (Γ : CL) (T : Fc K mg Γ) (G_multiplied : FnG P w K mg base 3 "multiplied" (sp_multiplied Γ)) (G_turned_over : FnG P w K mg base 1 "turned_over" (sp_turned_over Γ)) (G_less : FnG P w K mg base 4 "less" (sp_less Γ)) (G_Copy___init_k_mirrored : MkK P w K mg base 5 "Copy" Γ.Copy (sp_Copy___init Γ) 2 ["mirrored"] gD_Copy_mirrored) (cdv : Value) (A : Around) (outer : List Env) (s0 : Shared) (H : Hp) (E : XK) (hr : Room 6 (A.deeper (envOfC "copy_about" (defScope (top 32)) s0.heap.objs.size f cdv))) : DSs (cxOf CX0 P w K mg base ["pole", "turn", "mirrored", "carried"] "copy_about" (defScope (top 32)) f cdv A outer s0 H E).nox (defBody (top 32)) (rd_copy_about Γ) :=
 (dss_cons (ds_set (i := 3) sc_copy_about.nd (de_call G_multiplied (hr.mono (by decide)) rfl (da_cons (de_var 1) (da_cons (de_if (dt_val (de_var 2)) (de_call G_turned_over (hr.mono (by decide)) rfl (da_cons (de_var 0) da_nil)) (de_var 0)) da_nil))))
 (dss_one (ds_ret (de_makeK G_Copy___init_k_mirrored (hr.mono (by decide)) rfl (da_cons (de_var 1) (da_cons (de_call G_less (hr.mono (by decide)) rfl (da_cons (de_var 0) (da_cons (de_var 3) da_nil))) da_nil)) (dk_cons (de_var 2) dk_nil)))))
theorem dv_Arm_effect (Γ : CL) (T : Fc K mg Γ) (G_copy_about : FnG P w K mg base 7 "copy_about" (sp_copy_about Γ)) (cdv : Value) (A : Around) (outer : List Env) (s0 : Shared) (H : Hp) (E : XK) (hr : Room 7 (A.deeper (envOfC "Arm.effect" (defScope (inClass (top 31) 1)) s0.heap.objs.size f cdv))) : DSs (cxOf CX0 P w K mg base ["self"] "Arm.effect" (defScope (inClass (top 31) 1)) f cdv A outer s0 H E).nox (defBody (inClass (top 31) 1)) (rd_Arm_effect Γ) :=
 (dss_one (ds_ret (de_call G_copy_about (hr.mono (by decide)) rfl (da_cons (de_fld (de_var 0) T.cl_Arm T.n_Arm_pole) (da_cons (de_fld (de_var 0) T.cl_Arm T.n_Arm_turn) (da_cons (de_fld (de_var 0) T.cl_Arm T.n_Arm_mirrored) da_nil))))))
theorem dv_carried (Γ : CL) (T : Fc K mg Γ) (G_added : FnG P w K mg base 3 "added" (sp_added Γ)) (G_multiplied : FnG P w K mg base 3 "multiplied" (sp_multiplied Γ)) (G_turned_over : FnG P w K mg base 1 "turned_over" (sp_turned_over Γ)) (cdv : Value) (A : Around) (outer : List Env) (s0 : Shared) (H : Hp) (E : XK) (hr : Room 3 (A.deeper (envOfC "carried" (defScope (top 27)) s0.heap.objs.size f cdv))) : DSs (cxOf CX0 P w K mg base ["copy", "spot"] "carried" (defScope (top 27)) f cdv A outer s0 H E).nox (defBody (top 27)) (rd_carried Γ) :=
 (dss_one (ds_ret (de_call G_added (hr.mono (by decide)) rfl (da_cons (de_call G_multiplied (hr.mono (by decide)) rfl (da_cons (de_fld (de_var 0) T.cl_Copy T.n_Copy_turn) (da_cons (de_if (dt_val (de_fld (de_var 0) T.cl_Copy T.n_Copy_mirrored)) (de_call G_turned_over (hr.mono (by decide)) rfl (da_cons (de_var 1) da_nil)) (de_var 1)) da_nil))) (da_cons (de_fld (de_var 0) T.cl_Copy T.n_Copy_shift) da_nil)))))
theorem dv_Copy___rshift (Γ : CL) (T : Fc K mg Γ) (G_turned_over : FnG P w K mg base 1 "turned_over" (sp_turned_over Γ)) (G_carried : FnG P w K mg base 4 "carried" (sp_carried Γ)) (G_multiplied : FnG P w K mg base 3 "multiplied" (sp_multiplied Γ)) (G_Copy___init_k_mirrored : MkK P w K mg base 5 "Copy" Γ.Copy (sp_Copy___init Γ) 2 ["mirrored"] gD_Copy_mirrored) (cdv : Value) (A : Around) (outer : List Env) (s0 : Shared) (H : Hp) (E : XK) (hr : Room 6 (A.deeper (envOfC "Copy.__rshift__" (defScope (inClass (top 28) 3)) s0.heap.objs.size f cdv))) : DSs (cxOf CX0 P w K mg base ["self", "other", "turn"] "Copy.__rshift__" (defScope (inClass (top 28) 3)) f cdv A outer s0 H E).nox (defBody (inClass (top 28) 3)) (rd_Copy___rshift Γ) :=
 (dss_cons (ds_set (i := 2) sc_Copy___rshift.nd (de_if (dt_val (de_fld (de_var 1) T.cl_Copy T.n_Copy_mirrored)) (de_call G_turned_over (hr.mono (by decide)) rfl (da_cons (de_fld (de_var 0) T.cl_Copy T.n_Copy_turn) da_nil)) (de_fld (de_var 0) T.cl_Copy T.n_Copy_turn)))
 (dss_one (ds_ret (de_makeK G_Copy___init_k_mirrored (hr.mono (by decide)) rfl (da_cons (de_call G_multiplied (hr.mono (by decide)) rfl (da_cons (de_fld (de_var 1) T.cl_Copy T.n_Copy_turn) (da_cons (de_var 2) da_nil))) (da_cons (de_call G_carried (hr.mono (by decide)) rfl (da_cons (de_var 1) (da_cons (de_fld (de_var 0) T.cl_Copy T.n_Copy_shift) da_nil))) da_nil)) (dk_cons (de_ne hr.units (de_fld (de_var 0) T.cl_Copy T.n_Copy_mirrored) (de_fld (de_var 1) T.cl_Copy T.n_Copy_mirrored)) dk_nil)))))
theorem dv_copies_ahead (Γ : CL) (T : Fc K mg Γ) (G_Arm_effect : MtG P w K mg base 8 Γ.Arm (gtA K Γ.Arm "effect") (sp_Arm_effect Γ)) (G_Copy___rshift : MtG P w K mg base 7 Γ.Copy (He.ma K Γ.Copy "__rshift__") (sp_Copy___rshift Γ)) (G_Copy___init_k : MkD P w K mg base 5 "Copy" Γ.Copy (sp_Copy___init Γ) [.bl false]) (cdv : Value) (A : Around) (outer : List Env) (s0 : Shared) (H : Hp) (E : XK) (hr : Room 9 (A.deeper (envOfC "copies_ahead" (defScope (top 37)) s0.heap.objs.size f cdv))) : DSs (cxOf CX0 P w K mg base ["arms", "found", "arm"] "copies_ahead" (defScope (top 37)) f cdv A outer s0 H E).nox (defBody (top 37)) (rd_copies_ahead Γ) :=
 (dss_cons (ds_set (i := 1) sc_copies_ahead.nd (de_lstM (da_cons (de_makeD G_Copy___init_k (hr.mono (by decide)) rfl (da_cons T.c_ONE.de (da_cons T.c_ZERO.de da_nil))) da_nil)))
 (dss_cons (ds_for (vs := [2]) (di_tup (de_var 0)) (dg_name (i := 2) sc_copies_ahead.nd)
 (dss_one (ds_expr (de_append (de_var 1) (da_cons (de_opO G_Copy___rshift (hr.mono (by decide)) T.sf_Copy T.w_Copy___rshift T.v_Copy___rshift (de_ix (de_var 1) (de_neg de_int)) (de_prop G_Arm_effect (hr.mono (by decide)) T.cl_Arm T.p_Arm_effect (de_var 2))) da_nil)))))
 (dss_one (ds_ret (de_frz (de_var 1))))))
theorem dv_ratio (Γ : CL) (T : Fc K mg Γ) (G_common_divisor : FnG P w K mg base 1 "common_divisor" (sp_common_divisor Γ)) (cdv : Value) (A : Around) (outer : List Env) (s0 : Shared) (H : Hp) (E : XK) (hr : Room 1 (A.deeper (envOfC "ratio" (defScope (top 11)) s0.heap.objs.size f cdv))) : DSs (cxOf CX0 P w K mg base ["numerator", "denominator", "divisor"] "ratio" (defScope (top 11)) f cdv A outer s0 H E).nox (defBody (top 11)) (rd_ratio Γ) :=
 (dss_cons (ds_set (i := 2) sc_ratio.nd (de_call G_common_divisor (hr.mono (by decide)) rfl (da_cons (de_var 0) (da_cons (de_var 1) da_nil))))
 (dss_one (ds_ret (de_tup (da_cons (de_div (de_var 0) (de_var 2)) (da_cons (de_div (de_var 1) (de_var 2)) da_nil))))))
theorem dv_size (Γ : CL) (T : Fc K mg Γ) (G_ratio : FnG P w K mg base 2 "ratio" (sp_ratio Γ)) (cdv : Value) (A : Around) (outer : List Env) (s0 : Shared) (H : Hp) (E : XK) (hr : Room 2 (A.deeper (envOfC "size" (defScope (top 22)) s0.heap.objs.size f cdv))) : DSs (cxOf CX0 P w K mg base ["one"] "size" (defScope (top 22)) f cdv A outer s0 H E).nox (defBody (top 22)) (rd_size Γ) :=
 (dss_one (ds_ret (de_call G_ratio (hr.mono (by decide)) rfl (da_cons (de_add (de_mul (de_ix (de_var 0) de_int) (de_ix (de_var 0) de_int)) (de_mul (de_ix (de_var 0) de_int) (de_ix (de_var 0) de_int))) (da_cons (de_mul (de_ix (de_var 0) de_int) (de_ix (de_var 0) de_int)) da_nil)))))
theorem dv_Copy_growth (Γ : CL) (T : Fc K mg Γ) (G_size : FnG P w K mg base 3 "size" (sp_size Γ)) (cdv : Value) (A : Around) (outer : List Env) (s0 : Shared) (H : Hp) (E : XK) (hr : Room 3 (A.deeper (envOfC "Copy.growth" (defScope (inClass (top 28) 5)) s0.heap.objs.size f cdv))) : DSs (cxOf CX0 P w K mg base ["self"] "Copy.growth" (defScope (inClass (top 28) 5)) f cdv A outer s0 H E).nox (defBody (inClass (top 28) 5)) (rd_Copy_growth Γ) :=
 (dss_one (ds_ret (de_call G_size (hr.mono (by decide)) rfl (da_cons (de_fld (de_var 0) T.cl_Copy T.n_Copy_turn) da_nil))))
theorem dv_inverse (Γ : CL) (T : Fc K mg Γ) (G_lowest : FnG P w K mg base 2 "lowest" (sp_lowest Γ)) (cdv : Value) (A : Around) (outer : List Env) (s0 : Shared) (H : Hp) (E : XK) (hr : Room 2 (A.deeper (envOfC "inverse" (defScope (top 21)) s0.heap.objs.size f cdv))) : DSs (cxOf CX0 P w K mg base ["one"] "inverse" (defScope (top 21)) f cdv A outer s0 H E).nox (defBody (top 21)) (rd_inverse Γ) :=
 (dss_one (ds_ret (de_call G_lowest (hr.mono (by decide)) rfl (da_cons (de_mul (de_ix (de_var 0) de_int) (de_ix (de_var 0) de_int)) (da_cons (de_sub de_int (de_mul (de_ix (de_var 0) de_int) (de_ix (de_var 0) de_int))) (da_cons (de_add (de_mul (de_ix (de_var 0) de_int) (de_ix (de_var 0) de_int)) (de_mul (de_ix (de_var 0) de_int) (de_ix (de_var 0) de_int))) da_nil))))))
theorem dv_Copy___invert (Γ : CL) (T : Fc K mg Γ) (G_inverse : FnG P w K mg base 3 "inverse" (sp_inverse Γ)) (G_turned_over : FnG P w K mg base 1 "turned_over" (sp_turned_over Γ)) (G_opposite : FnG P w K mg base 1 "opposite" (sp_opposite Γ)) (G_multiplied : FnG P w K mg base 3 "multiplied" (sp_multiplied Γ)) (G_Copy___init_k_mirrored : MkK P w K mg base 5 "Copy" Γ.Copy (sp_Copy___init Γ) 2 ["mirrored"] gD_Copy_mirrored) (cdv : Value) (A : Around) (outer : List Env) (s0 : Shared) (H : Hp) (E : XK) (hr : Room 6 (A.deeper (envOfC "Copy.__invert__" (defScope (inClass (top 28) 4)) s0.heap.objs.size f cdv))) : DSs (cxOf CX0 P w K mg base ["self", "back", "shift"] "Copy.__invert__" (defScope (inClass (top 28) 4)) f cdv A outer s0 H E).nox (defBody (inClass (top 28) 4)) (rd_Copy___invert Γ) :=
 (dss_cons (ds_set (i := 1) sc_Copy___invert.nd (de_call G_inverse (hr.mono (by decide)) rfl (da_cons (de_if (dt_val (de_fld (de_var 0) T.cl_Copy T.n_Copy_mirrored)) (de_call G_turned_over (hr.mono (by decide)) rfl (da_cons (de_fld (de_var 0) T.cl_Copy T.n_Copy_turn) da_nil)) (de_fld (de_var 0) T.cl_Copy T.n_Copy_turn)) da_nil)))
 (dss_cons (ds_set (i := 2) sc_Copy___invert.nd (de_if (dt_val (de_fld (de_var 0) T.cl_Copy T.n_Copy_mirrored)) (de_call G_turned_over (hr.mono (by decide)) rfl (da_cons (de_fld (de_var 0) T.cl_Copy T.n_Copy_shift) da_nil)) (de_fld (de_var 0) T.cl_Copy T.n_Copy_shift)))
 (dss_one (ds_ret (de_makeK G_Copy___init_k_mirrored (hr.mono (by decide)) rfl (da_cons (de_var 1) (da_cons (de_call G_opposite (hr.mono (by decide)) rfl (da_cons (de_call G_multiplied (hr.mono (by decide)) rfl (da_cons (de_var 1) (da_cons (de_var 2) da_nil))) da_nil)) da_nil)) (dk_cons (de_fld (de_var 0) T.cl_Copy T.n_Copy_mirrored) dk_nil))))))
theorem dv_zones (Γ : CL) (T : Fc K mg Γ) (G_copies_ahead : FnG P w K mg base 10 "copies_ahead" (sp_copies_ahead Γ)) (G_Copy_growth : MtG P w K mg base 4 Γ.Copy (gtA K Γ.Copy "growth") (sp_Copy_growth Γ)) (G_ratio : FnG P w K mg base 2 "ratio" (sp_ratio Γ)) (G_carried : FnG P w K mg base 4 "carried" (sp_carried Γ)) (G_Copy___invert : MtG P w K mg base 7 Γ.Copy (He.ma K Γ.Copy "__invert__") (sp_Copy___invert Γ)) (cdv : Value) (A : Around) (outer : List Env) (s0 : Shared) (H : Hp) (E : XK) (hr : Room 10 (A.deeper (envOfC "zones" (defScope (top 38)) s0.heap.objs.size f cdv))) : DSs (cxOf CX0 P w K mg base ["chain", "found", "arm", "ahead", "growth", "ends", "reach"] "zones" (defScope (top 38)) f cdv A outer s0 H E).nox (defBody (top 38)) (rd_zones Γ) :=
 (dss_cons (ds_set (i := 1) sc_zones.nd (de_lstM da_nil))
 (dss_cons (ds_for (vs := [2, 3]) (di_zip rfl T.f_zip (da_cons (de_fld (de_var 0) T.cl_Chain T.n_Chain_arms) (da_cons (de_call G_copies_ahead (hr.mono (by decide)) rfl (da_cons (de_fld (de_var 0) T.cl_Chain T.n_Chain_arms) da_nil)) da_nil))) (dg_tup (dgs_cons (dg_name (i := 2) sc_zones.nd) (dgs_cons (dg_name (i := 3) sc_zones.nd) dgs_nil)))
 (dss_cons (ds_set (i := 4) sc_zones.nd (de_prop G_Copy_growth (hr.mono (by decide)) T.cl_Copy T.p_Copy_growth (de_var 3)))
 (dss_cons (ds_setLc (i := 5) [("reach", 6)] sc_zones.nd (sw_true rfl rfl rfl (by kernel_rfl)) (di_tup (de_tup (da_cons (de_fld (de_var 2) T.cl_Arm T.n_Arm_near) (da_cons (de_fld (de_var 2) T.cl_Arm T.n_Arm_far) da_nil)))) (by kernel_rfl) (fun _ _ _ _ _ => (dg_name (i := 6) sc_zones.nd)) (fun _ _ _ _ _ => dts_nil) (fun _ _ _ _ _ => (de_call G_ratio (hr.mono (by decide)) rfl (da_cons (de_mul (de_mul (de_var 6) (de_var 6)) (de_ix (de_var 4) de_int)) (da_cons (de_ix (de_var 4) de_int) da_nil)))))
 (dss_one (ds_expr (de_append (de_var 1) (da_cons (de_tup (da_cons (de_call G_carried (hr.mono (by decide)) rfl (da_cons (de_inv G_Copy___invert (hr.mono (by decide)) T.w_Copy___invert T.v_Copy___invert (de_var 3)) (da_cons (de_fld (de_var 2) T.cl_Arm T.n_Arm_pole) da_nil))) (da_cons (de_ix (de_var 5) de_int) (da_cons (de_ix (de_var 5) de_int) da_nil)))) da_nil)))))))
 (dss_one (ds_ret (de_frz (de_var 1))))))
theorem dv_law_ratio (Γ : CL) (T : Fc K mg Γ) (G_law_lowest : FnG P w K mg base 2 "_law_lowest" (sp_law_lowest Γ)) (cdv : Value) (A : Around) (outer : List Env) (s0 : Shared) (H : Hp) (E : XK) (hr : Room 2 (A.deeper (envOfC "_law_ratio" (defScope (top 50)) s0.heap.objs.size f cdv))) : DSs (cxOf CX0 P w K mg base ["_law_p", "_law_q"] "_law_ratio" (defScope (top 50)) f cdv A outer s0 H E).nox (defBody (top 50)) (rd_law_ratio Γ) :=
 (dss_one (ds_ret (de_tup (da_cons (de_ix (de_call G_law_lowest (hr.mono (by decide)) rfl (da_cons (de_var 0) (da_cons de_int (da_cons (de_var 1) da_nil)))) de_int) (da_cons (de_ix (de_call G_law_lowest (hr.mono (by decide)) rfl (da_cons (de_var 0) (da_cons de_int (da_cons (de_var 1) da_nil)))) de_int) da_nil)))))
theorem dv_law_size (Γ : CL) (T : Fc K mg Γ) (G_law_ratio : FnG P w K mg base 3 "_law_ratio" (sp_law_ratio Γ)) (cdv : Value) (A : Around) (outer : List Env) (s0 : Shared) (H : Hp) (E : XK) (hr : Room 3 (A.deeper (envOfC "_law_size" (defScope (top 51)) s0.heap.objs.size f cdv))) : DSs (cxOf CX0 P w K mg base ["_law_one"] "_law_size" (defScope (top 51)) f cdv A outer s0 H E).nox (defBody (top 51)) (rd_law_size Γ) :=
 (dss_one (ds_ret (de_call G_law_ratio (hr.mono (by decide)) rfl (da_cons (de_add (de_mul (de_ix (de_var 0) de_int) (de_ix (de_var 0) de_int)) (de_mul (de_ix (de_var 0) de_int) (de_ix (de_var 0) de_int))) (da_cons (de_mul (de_ix (de_var 0) de_int) (de_ix (de_var 0) de_int)) da_nil)))))
theorem dv_law_plus (Γ : CL) (T : Fc K mg Γ) (G_law_lowest : FnG P w K mg base 2 "_law_lowest" (sp_law_lowest Γ)) (cdv : Value) (A : Around) (outer : List Env) (s0 : Shared) (H : Hp) (E : XK) (hr : Room 2 (A.deeper (envOfC "_law_plus" (defScope (top 52)) s0.heap.objs.size f cdv))) : DSs (cxOf CX0 P w K mg base ["_law_one", "_law_other", "_law_x", "_law_y"] "_law_plus" (defScope (top 52)) f cdv A outer s0 H E).nox (defBody (top 52)) (rd_law_plus Γ) :=
 (dss_cons (ds_set (i := 2) sc_law_plus.nd (de_add (de_mul (de_ix (de_var 0) de_int) (de_ix (de_var 1) de_int)) (de_mul (de_ix (de_var 1) de_int) (de_ix (de_var 0) de_int))))
 (dss_cons (ds_set (i := 3) sc_law_plus.nd (de_add (de_mul (de_ix (de_var 0) de_int) (de_ix (de_var 1) de_int)) (de_mul (de_ix (de_var 1) de_int) (de_ix (de_var 0) de_int))))
 (dss_one (ds_ret (de_call G_law_lowest (hr.mono (by decide)) rfl (da_cons (de_var 2) (da_cons (de_var 3) (da_cons (de_mul (de_ix (de_var 0) de_int) (de_ix (de_var 1) de_int)) da_nil))))))))
theorem dv_law_minus (Γ : CL) (T : Fc K mg Γ) (G_law_plus : FnG P w K mg base 3 "_law_plus" (sp_law_plus Γ)) (cdv : Value) (A : Around) (outer : List Env) (s0 : Shared) (H : Hp) (E : XK) (hr : Room 3 (A.deeper (envOfC "_law_minus" (defScope (top 53)) s0.heap.objs.size f cdv))) : DSs (cxOf CX0 P w K mg base ["_law_one", "_law_other"] "_law_minus" (defScope (top 53)) f cdv A outer s0 H E).nox (defBody (top 53)) (rd_law_minus Γ) :=
 (dss_one (ds_ret (de_call G_law_plus (hr.mono (by decide)) rfl (da_cons (de_var 0) (da_cons (de_tup (da_cons (de_sub de_int (de_ix (de_var 1) de_int)) (da_cons (de_sub de_int (de_ix (de_var 1) de_int)) (da_cons (de_ix (de_var 1) de_int) da_nil)))) da_nil)))))
theorem dv_law_less (Γ : CL) (T : Fc K mg Γ)  (cdv : Value) (A : Around) (outer : List Env) (s0 : Shared) (H : Hp) (E : XK) (hr : Room 0 (A.deeper (envOfC "_law_less" (defScope (top 54)) s0.heap.objs.size f cdv))) : DSs (cxOf CX0 P w K mg base ["_law_one", "_law_other"] "_law_less" (defScope (top 54)) f cdv A outer s0 H E).nox (defBody (top 54)) (rd_law_less Γ) :=
 (dss_one (ds_ret (de_lt (de_mul (de_ix (de_var 0) de_int) (de_ix (de_var 1) de_int)) (de_mul (de_ix (de_var 1) de_int) (de_ix (de_var 0) de_int)))))
theorem dv_law_reached (Γ : CL) (T : Fc K mg Γ) (G_law_size : FnG P w K mg base 4 "_law_size" (sp_law_size Γ)) (G_law_minus : FnG P w K mg base 4 "_law_minus" (sp_law_minus Γ)) (G_law_less : FnG P w K mg base 1 "_law_less" (sp_law_less Γ)) (cdv : Value) (A : Around) (outer : List Env) (s0 : Shared) (H : Hp) (E : XK) (hr : Room 4 (A.deeper (envOfC "_law_reached" (defScope (top 55)) s0.heap.objs.size f cdv))) : DSs (cxOf CX0 P w K mg base ["_law_told", "_law_spot_here", "_law_distance"] "_law_reached" (defScope (top 55)) f cdv A outer s0 H E).nox (defBody (top 55)) (rd_law_reached Γ) :=
 (dss_cons (ds_set (i := 2) sc_law_reached.nd (de_call G_law_size (hr.mono (by decide)) rfl (da_cons (de_call G_law_minus (hr.mono (by decide)) rfl (da_cons (de_var 1) (da_cons (de_ix (de_var 0) de_int) da_nil))) da_nil)))
 (dss_one (ds_ret (de_and (de_not (de_call G_law_less (hr.mono (by decide)) rfl (da_cons (de_var 2) (da_cons (de_tup (da_cons (de_mul (de_ix (de_var 0) de_int) (de_ix (de_var 0) de_int)) (da_cons de_int da_nil))) da_nil)))) (de_one (de_not (de_call G_law_less (hr.mono (by decide)) rfl (da_cons (de_tup (da_cons (de_mul (de_ix (de_var 0) de_int) (de_ix (de_var 0) de_int)) (da_cons de_int da_nil))) (da_cons (de_var 2) da_nil)))))))))
theorem dv_law_times (Γ : CL) (T : Fc K mg Γ) (G_law_lowest : FnG P w K mg base 2 "_law_lowest" (sp_law_lowest Γ)) (cdv : Value) (A : Around) (outer : List Env) (s0 : Shared) (H : Hp) (E : XK) (hr : Room 2 (A.deeper (envOfC "_law_times" (defScope (top 56)) s0.heap.objs.size f cdv))) : DSs (cxOf CX0 P w K mg base ["_law_one", "_law_other", "_law_x", "_law_y"] "_law_times" (defScope (top 56)) f cdv A outer s0 H E).nox (defBody (top 56)) (rd_law_times Γ) :=
 (dss_cons (ds_set (i := 2) sc_law_times.nd (de_sub (de_mul (de_ix (de_var 0) de_int) (de_ix (de_var 1) de_int)) (de_mul (de_ix (de_var 0) de_int) (de_ix (de_var 1) de_int))))
 (dss_cons (ds_set (i := 3) sc_law_times.nd (de_add (de_mul (de_ix (de_var 0) de_int) (de_ix (de_var 1) de_int)) (de_mul (de_ix (de_var 0) de_int) (de_ix (de_var 1) de_int))))
 (dss_one (ds_ret (de_call G_law_lowest (hr.mono (by decide)) rfl (da_cons (de_var 2) (da_cons (de_var 3) (da_cons (de_mul (de_ix (de_var 0) de_int) (de_ix (de_var 1) de_int)) da_nil))))))))
theorem dv_law_over (Γ : CL) (T : Fc K mg Γ)  (cdv : Value) (A : Around) (outer : List Env) (s0 : Shared) (H : Hp) (E : XK) (hr : Room 0 (A.deeper (envOfC "_law_over" (defScope (top 57)) s0.heap.objs.size f cdv))) : DSs (cxOf CX0 P w K mg base ["_law_one"] "_law_over" (defScope (top 57)) f cdv A outer s0 H E).nox (defBody (top 57)) (rd_law_over Γ) :=
 (dss_one (ds_ret (de_tup (da_cons (de_ix (de_var 0) de_int) (da_cons (de_sub de_int (de_ix (de_var 0) de_int)) (da_cons (de_ix (de_var 0) de_int) da_nil))))))
theorem dv_law_carried (Γ : CL) (T : Fc K mg Γ) (G_law_plus : FnG P w K mg base 3 "_law_plus" (sp_law_plus Γ)) (G_law_times : FnG P w K mg base 3 "_law_times" (sp_law_times Γ)) (G_law_over : FnG P w K mg base 1 "_law_over" (sp_law_over Γ)) (cdv : Value) (A : Around) (outer : List Env) (s0 : Shared) (H : Hp) (E : XK) (hr : Room 3 (A.deeper (envOfC "_law_carried" (defScope (top 58)) s0.heap.objs.size f cdv))) : DSs (cxOf CX0 P w K mg base ["_law_told", "_law_spot_here"] "_law_carried" (defScope (top 58)) f cdv A outer s0 H E).nox (defBody (top 58)) (rd_law_carried Γ) :=
 (dss_one (ds_ret (de_call G_law_plus (hr.mono (by decide)) rfl (da_cons (de_call G_law_times (hr.mono (by decide)) rfl (da_cons (de_ix (de_var 0) de_int) (da_cons (de_if (dt_val (de_ix (de_var 0) de_int)) (de_call G_law_over (hr.mono (by decide)) rfl (da_cons (de_var 1) da_nil)) (de_var 1)) da_nil))) (da_cons (de_ix (de_var 0) de_int) da_nil)))))
theorem dv_law_about (Γ : CL) (T : Fc K mg Γ) (G_law_times : FnG P w K mg base 3 "_law_times" (sp_law_times Γ)) (G_law_over : FnG P w K mg base 1 "_law_over" (sp_law_over Γ)) (G_law_minus : FnG P w K mg base 4 "_law_minus" (sp_law_minus Γ)) (cdv : Value) (A : Around) (outer : List Env) (s0 : Shared) (H : Hp) (E : XK) (hr : Room 4 (A.deeper (envOfC "_law_about" (defScope (top 59)) s0.heap.objs.size f cdv))) : DSs (cxOf CX0 P w K mg base ["_law_told", "_law_pole", "_law_turn_here", "_law_near", "_law_far", "_law_flipped", "_law_carried_to"] "_law_about" (defScope (top 59)) f cdv A outer s0 H E).nox (defBody (top 59)) (rd_law_about Γ) :=
 (dss_cons (ds_asg (vs := [1, 2, 3, 4, 5]) (de_var 0) (dg_tup (dgs_cons (dg_name (i := 1) sc_law_about.nd) (dgs_cons (dg_name (i := 2) sc_law_about.nd) (dgs_cons (dg_name (i := 3) sc_law_about.nd) (dgs_cons (dg_name (i := 4) sc_law_about.nd) (dgs_cons (dg_name (i := 5) sc_law_about.nd) dgs_nil)))))))
 (dss_cons (ds_set (i := 6) sc_law_about.nd (de_call G_law_times (hr.mono (by decide)) rfl (da_cons (de_var 2) (da_cons (de_if (dt_val (de_var 5)) (de_call G_law_over (hr.mono (by decide)) rfl (da_cons (de_var 1) da_nil)) (de_var 1)) da_nil))))
 (dss_one (ds_ret (de_tup (da_cons (de_var 2) (da_cons (de_call G_law_minus (hr.mono (by decide)) rfl (da_cons (de_var 1) (da_cons (de_var 6) da_nil))) (da_cons (de_var 5) da_nil))))))))
theorem dv_law_equal (Γ : CL) (T : Fc K mg Γ) {k m : Nat} (G_law_equal : FnG P w K mg base k "_law_equal" (sp_law_equal Γ m)) (cdv : Value) (A : Around) (outer : List Env) (s0 : Shared) (H : Hp) (E : XK) (hr : Room k (A.deeper (envOfC "_law_equal" (defScope (top 60)) s0.heap.objs.size f cdv))) : DSs (cxOf CX0 P w K mg base ["_law_actual", "_law_expected", "_law_k"] "_law_equal" (defScope (top 60)) f cdv A outer s0 H E).nox (defBody (top 60)) (rd_law_equal Γ m) :=
 (dss_cons (ds_if (dt_isN (de_var 1) de_non)
 (dss_one (ds_ret (de_isN (de_var 0) de_non)))
 dss_nil)
 (dss_cons (ds_if (dt_val (de_isi rfl T.f_isinstance (da_cons (de_var 1) (da_cons (de_ty (n := "bool") rfl T.f_bool (by decide +kernel)) da_nil))))
 (dss_one (ds_ret (de_and (de_isi rfl T.f_isinstance (da_cons (de_var 0) (da_cons (de_ty (n := "bool") rfl T.f_bool (by decide +kernel)) da_nil))) (de_one (de_eq hr.units (de_var 0) (de_var 1))))))
 dss_nil)
 (dss_cons (ds_if (dt_val (de_isi rfl T.f_isinstance (da_cons (de_var 1) (da_cons (de_ty (n := "int") rfl T.f_int (by decide +kernel)) da_nil))))
 (dss_one (ds_ret (de_and (de_isi rfl T.f_isinstance (da_cons (de_var 0) (da_cons (de_ty (n := "int") rfl T.f_int (by decide +kernel)) da_nil))) (de_and (de_not (de_isi rfl T.f_isinstance (da_cons (de_var 0) (da_cons (de_ty (n := "bool") rfl T.f_bool (by decide +kernel)) da_nil)))) (de_one (de_eq hr.units (de_var 0) (de_var 1)))))))
 dss_nil)
 (dss_cons (ds_if (dt_val (de_isi rfl T.f_isinstance (da_cons (de_var 1) (da_cons (de_ty (n := "str") rfl T.f_str (by decide +kernel)) da_nil))))
 (dss_one (ds_ret (de_and (de_isi rfl T.f_isinstance (da_cons (de_var 0) (da_cons (de_ty (n := "str") rfl T.f_str (by decide +kernel)) da_nil))) (de_one (de_eq hr.units (de_var 0) (de_var 1))))))
 dss_nil)
 (dss_cons (ds_if (dt_ne hr.units (de_isi rfl T.f_isinstance (da_cons (de_var 1) (da_cons (de_ty (n := "tuple") rfl T.f_tuple (by decide +kernel)) da_nil))) (de_isi rfl T.f_isinstance (da_cons (de_var 0) (da_cons (de_ty (n := "tuple") rfl T.f_tuple (by decide +kernel)) da_nil))))
 (dss_one (ds_ret de_bl))
 dss_nil)
 (dss_cons (ds_if (dt_ne hr.units (de_isi rfl T.f_isinstance (da_cons (de_var 1) (da_cons (de_ty (n := "list") rfl T.f_list (by decide +kernel)) da_nil))) (de_isi rfl T.f_isinstance (da_cons (de_var 0) (da_cons (de_ty (n := "list") rfl T.f_list (by decide +kernel)) da_nil))))
 (dss_one (ds_ret de_bl))
 dss_nil)
 (dss_cons (ds_if (dt_ne hr.units (de_len rfl T.f_len (da_cons (de_var 0) da_nil)) (de_len rfl T.f_len (da_cons (de_var 1) da_nil)))
 (dss_one (ds_ret de_bl))
 dss_nil)
 (dss_one (ds_ret (de_all rfl T.f_all (da_cons (de_lc [("_law_k", 2)] sc_law_equal.nd (di_range1 rfl T.f_range (da_cons (de_len rfl T.f_len (da_cons (de_var 1) da_nil)) da_nil)) (by kernel_rfl) (fun _ _ _ _ _ => (dg_name (i := 2) sc_law_equal.nd)) (fun _ _ _ _ _ => dts_nil) (fun _ _ _ _ _ => (de_call G_law_equal hr rfl (da_cons (de_ix (de_var 0) (de_var 2)) (da_cons (de_ix (de_var 1) (de_var 2)) da_nil))))) da_nil)))))))))))
theorem dv_law (Γ : CL) (T : Fc K mg Γ) (G_law_random : FnG P w K mg base 1 "_law_random" (sp_law_random Γ)) (G_law_below : FnG P w K mg base 1 "_law_below" (sp_law_below Γ)) (G_law_arm_told : FnG P w K mg base 4 "_law_arm_told" (sp_law_arm_told Γ)) (G_law_chain : FnG P w K mg base 8 "_law_chain" (sp_law_chain Γ)) (G_zones : FnG P w K mg base 11 "zones" (sp_zones Γ)) (G_law_spot : FnG P w K mg base 3 "_law_spot" (sp_law_spot Γ)) (G_law_size : FnG P w K mg base 4 "_law_size" (sp_law_size Γ)) (G_law_minus : FnG P w K mg base 4 "_law_minus" (sp_law_minus Γ)) (G_law_less : FnG P w K mg base 1 "_law_less" (sp_law_less Γ)) (G_law_reached : FnG P w K mg base 5 "_law_reached" (sp_law_reached Γ)) (G_law_carried : FnG P w K mg base 4 "_law_carried" (sp_law_carried Γ)) (G_law_about : FnG P w K mg base 5 "_law_about" (sp_law_about Γ)) (G_law_times : FnG P w K mg base 3 "_law_times" (sp_law_times Γ)) (G_law_ratio : FnG P w K mg base 3 "_law_ratio" (sp_law_ratio Γ)) (G_law_equal : FnG P w K mg base 5 "_law_equal" (sp_law_equal Γ 5)) (G_Chain___init : MkS P w K mg base 1 "Chain" Γ.Chain (sp_Chain___init Γ)) (cdv : Value) (A : Around) (outer : List Env) (s0 : Shared) (H : Hp) (E : XK) (hr : Room 11 (A.deeper (envOfC "law" (defScope (top 61)) s0.heap.objs.size f cdv))) : DSs (cxOf CX0 P w K mg base ["_law_script", "_law_d", "_law_tolds", "_law_k", "_law_chain_here", "_law_found", "_law_spot_here", "_law_here", "_law_center", "_law_near", "_law_far", "_law_distance", "_law_inside", "_law_size_now", "_law_told", "_law_growth", "_law_due", "_law_reach"] "law" (defScope (top 61)) f cdv A outer s0 H E).nox (defBody (top 61)) (rd_law Γ) :=
 (dss_cons (ds_set (i := 1) sc_law.nd (de_call G_law_random (hr.mono (by decide)) rfl (da_cons (de_var 0) (da_cons de_int da_nil))))
 (dss_cons (ds_setLc (i := 2) [("_law_k", 3)] sc_law.nd (sw_true rfl rfl rfl (by kernel_rfl)) (di_range1 rfl T.f_range (da_cons (de_add de_int (de_call G_law_below (hr.mono (by decide)) rfl (da_cons (de_var 1) (da_cons de_int da_nil)))) da_nil)) (by kernel_rfl) (fun _ _ _ _ _ => (dg_name (i := 3) sc_law.nd)) (fun _ _ _ _ _ => dts_nil) (fun _ _ _ _ _ => (de_call G_law_arm_told (hr.mono (by decide)) rfl (da_cons (de_var 1) da_nil))))
 (dss_cons (ds_set (i := 4) sc_law.nd (de_call G_law_chain (hr.mono (by decide)) rfl (da_cons (de_var 2) da_nil)))
 (dss_cons (ds_set (i := 5) sc_law.nd (de_call G_zones (hr.mono (by decide)) rfl (da_cons (de_var 4) da_nil)))
 (dss_cons (ds_if (dt_ne hr.units (de_len rfl T.f_len (da_cons (de_var 5) da_nil)) (de_len rfl T.f_len (da_cons (de_var 2) da_nil)))
 (dss_one (ds_ret de_bl))
 dss_nil)
 (dss_cons (ds_for (vs := [6]) (di_list (de_add (de_lc [("_law_k", 3)] sc_law.nd (di_range1 rfl T.f_range (da_cons de_int da_nil)) (by kernel_rfl) (fun _ _ _ _ _ => (dg_name (i := 3) sc_law.nd)) (fun _ _ _ _ _ => dts_nil) (fun _ _ _ _ _ => (de_call G_law_spot (hr.mono (by decide)) rfl (da_cons (de_var 1) da_nil)))) (de_lst (da_cons (de_ix (de_ix (de_var 5) (de_neg de_int)) de_int) da_nil)))) (dg_name (i := 6) sc_law.nd)
 (dss_cons (ds_set (i := 7) sc_law.nd (de_var 6))
 (dss_one (ds_for (vs := [3]) (di_range1 rfl T.f_range (da_cons (de_len rfl T.f_len (da_cons (de_var 2) da_nil)) da_nil)) (dg_name (i := 3) sc_law.nd)
 (dss_cons (ds_asg (vs := [8, 9, 10]) (de_ix (de_var 5) (de_var 3)) (dg_tup (dgs_cons (dg_name (i := 8) sc_law.nd) (dgs_cons (dg_name (i := 9) sc_law.nd) (dgs_cons (dg_name (i := 10) sc_law.nd) dgs_nil)))))
 (dss_cons (ds_set (i := 11) sc_law.nd (de_call G_law_size (hr.mono (by decide)) rfl (da_cons (de_call G_law_minus (hr.mono (by decide)) rfl (da_cons (de_var 6) (da_cons (de_var 8) da_nil))) da_nil)))
 (dss_cons (ds_set (i := 12) sc_law.nd (de_and (de_not (de_call G_law_less (hr.mono (by decide)) rfl (da_cons (de_var 11) (da_cons (de_var 9) da_nil)))) (de_one (de_not (de_call G_law_less (hr.mono (by decide)) rfl (da_cons (de_var 10) (da_cons (de_var 11) da_nil)))))))
 (dss_cons (ds_if (dt_ne hr.units (de_var 12) (de_call G_law_reached (hr.mono (by decide)) rfl (da_cons (de_ix (de_var 2) (de_var 3)) (da_cons (de_var 7) da_nil))))
 (dss_one (ds_ret de_bl))
 dss_nil)
 (dss_one (ds_set (i := 7) sc_law.nd (de_call G_law_carried (hr.mono (by decide)) rfl (da_cons (de_call G_law_about (hr.mono (by decide)) rfl (da_cons (de_ix (de_var 2) (de_var 3)) da_nil)) (da_cons (de_var 7) da_nil)))))))))))))
 (dss_cons (ds_for (vs := [3]) (di_range1 rfl T.f_range (da_cons (de_len rfl T.f_len (da_cons (de_var 2) da_nil)) da_nil)) (dg_name (i := 3) sc_law.nd)
 (dss_cons (ds_par (i := 7) (j := 13) sc_law.nd (da_cons (de_ix (de_ix (de_var 5) (de_var 3)) de_int) (da_cons (de_tup (da_cons de_int (da_cons de_int (da_cons de_int da_nil)))) da_nil)))
 (dss_cons (ds_for (vs := [14]) (di_list (de_slice (de_var 2) do_none (do_some (de_var 3)))) (dg_name (i := 14) sc_law.nd)
 (dss_one (ds_par (i := 7) (j := 13) sc_law.nd (da_cons (de_call G_law_carried (hr.mono (by decide)) rfl (da_cons (de_call G_law_about (hr.mono (by decide)) rfl (da_cons (de_var 14) da_nil)) (da_cons (de_var 7) da_nil))) (da_cons (de_call G_law_times (hr.mono (by decide)) rfl (da_cons (de_var 13) (da_cons (de_ix (de_var 14) de_int) da_nil))) da_nil)))))
 (dss_cons (ds_set (i := 15) sc_law.nd (de_call G_law_size (hr.mono (by decide)) rfl (da_cons (de_var 13) da_nil)))
 (dss_cons (ds_setLc (i := 16) [("_law_reach", 17)] sc_law.nd (sw_true rfl rfl rfl (by kernel_rfl)) (di_tup (de_tup (da_cons (de_ix (de_ix (de_var 2) (de_var 3)) de_int) (da_cons (de_ix (de_ix (de_var 2) (de_var 3)) de_int) da_nil)))) (by kernel_rfl) (fun _ _ _ _ _ => (dg_name (i := 17) sc_law.nd)) (fun _ _ _ _ _ => dts_nil) (fun _ _ _ _ _ => (de_call G_law_ratio (hr.mono (by decide)) rfl (da_cons (de_mul (de_mul (de_var 17) (de_var 17)) (de_ix (de_var 15) de_int)) (da_cons (de_ix (de_var 15) de_int) da_nil)))))
 (dss_one (ds_if (dt_w (dw_or (dt_not (dt_val (de_call G_law_equal (hr.mono (by decide)) rfl (da_cons (de_var 7) (da_cons (de_ix (de_ix (de_var 2) (de_var 3)) de_int) da_nil))))) (dw_or1 (dt_not (dt_val (de_call G_law_equal (hr.mono (by decide)) rfl (da_cons (de_lst (da_cons (de_ix (de_ix (de_var 5) (de_var 3)) de_int) (da_cons (de_ix (de_ix (de_var 5) (de_var 3)) de_int) da_nil))) (da_cons (de_var 16) da_nil))))))))
 (dss_one (ds_ret de_bl))
 dss_nil)))))))
 (dss_one (ds_ret (de_eq hr.units (de_call G_zones (hr.mono (by decide)) rfl (da_cons (de_makeS0 G_Chain___init (hr.mono (by decide)) rfl) da_nil)) (de_lst da_nil)))))))))))
end

end L3.K19

/-! ## A_k19 -/
set_option Elab.async false
set_option linter.all false
set_option maxRecDepth 100000
set_option maxHeartbeats 0
namespace L3
open PySem PySem.W PySem.Spec PyProof.Rows L2
theorem map3 {S A B C : Type} {a : S → A} {b : S → B} {c : S → C} {x : A} {y : B} {z : C} : ∀ {o : Option S}, o.map a = some x → o.map b = some y → o.map c = some z → o.map (fun s => (a s, b s, c s)) = some (x, y, z)
  | none, h, _, _ => nomatch h
  | some s, h1, h2, h3 => by
    cases h1
    cases h2
    cases h3
    rfl
def Look1 (r : OpenRow) (M : Nat) (w : World) : Prop := ∀ os : OsState, (HandSHeadRun.endF (HandSHeadRun.stepQ (HandSHeadRun.denQ HandSHeadRun.tabQ) r.prog w) M r.prog w os).map (fun s => HandSHeadRun.looksF r.prog (boot_heap w.params) s.abs) = some true
def Look2 (r : OpenRow) (q : Program) (M : Nat) (loose : List PySem.Str) (w : World) : Prop := ∀ os : OsState, (HandSHeadRun.endF (HandSHeadRun.stepQ (HandSHeadRun.denQ HandSHeadRun.tabQ) r.prog w) M r.prog w os).map (fun s => HandSHeadRun.seenQ q loose (importedModules r.prog.main.body) (fun s => xlAt q [] s && recOk r.toRowW.records s) s.abs) = some (openGood q loose)
def Look3 (r : OpenRow) (H : Hook) (ob : SharedT → H.α) (M : Nat) (w : World) : Prop := ∀ os : OsState, (HandSHeadRun.endF (HandSHeadRun.stepQ (HandSHeadRun.denQ HandSHeadRun.tabQ) r.prog w) M r.prog w os).map (fun s => ob s) = some (H.val w)
theorem runEq_of {r : OpenRow} {q : Program} {H : Hook} {ob : SharedT → H.α} {M : Nat} {loose : List PySem.Str} {w : World} (h1 : Look1 r M w) (h2 : Look2 r q M loose w) (h3 : Look3 r H ob M w) : HandSHeadRun.RunEq r q H ob M loose w := fun os => map3 (h1 os) (h2 os) (h3 os)
end L3
namespace L3.K19
open PySem PySem.Spec PyProof.Rows L2 NM
def Γ0 (K : PySem.W.Frag) : CL := ⟨He.ga K "Copy", He.ga K "Drawing", He.ga K "Arm", He.ga K "Chain"⟩
section
variable {P : Program} {w : World} {K : PySem.W.Frag} {mg : Str → Option Value} {base : Heap}
theorem ln_law_random (Γ : CL) : ∀ ds μ R, sp_law_random Γ ds μ R → ds.length = 2 := by
  intro ds μ R h
  first | (unfold sp_law_random at h; split at h <;> first | rfl | exact h.elim) | (obtain ⟨rfl, _⟩ := h; rfl) | (obtain ⟨_, rfl, _⟩ := h; rfl) | (obtain ⟨_, _, rfl, _⟩ := h; rfl) | (obtain ⟨_, _, _, rfl, _⟩ := h; rfl) | (obtain ⟨_, _, _, _, rfl, _⟩ := h; rfl) | (obtain ⟨_, _, _, _, _, rfl, _⟩ := h; rfl)
theorem ok_law_random {fd : FuncData} (T : Fc K mg (Γ0 K)) (F : FunD K "_law_random" "_law_random" (defArgs (top 40)) (defBody (top 40)) (defScope (top 40)) [] [] (He.ga K "_law_random") fd)  : FnOk P w K mg base CX0 1 (He.ga K "_law_random") fd ["_law_script", "_law_salt"] (spD K (sp_law_random (Γ0 K))) :=
  fnD F sc_law_random (ln_law_random (Γ0 K)) (fun cdv A outer s0 H E hr => dv_law_random (Γ0 K) T  cdv A outer s0 H E hr) (vc_law_random (Γ0 K))
theorem ln_law_below (Γ : CL) : ∀ ds μ R, sp_law_below Γ ds μ R → ds.length = 2 := by
  intro ds μ R h
  first | (unfold sp_law_below at h; split at h <;> first | rfl | exact h.elim) | (obtain ⟨rfl, _⟩ := h; rfl) | (obtain ⟨_, rfl, _⟩ := h; rfl) | (obtain ⟨_, _, rfl, _⟩ := h; rfl) | (obtain ⟨_, _, _, rfl, _⟩ := h; rfl) | (obtain ⟨_, _, _, _, rfl, _⟩ := h; rfl) | (obtain ⟨_, _, _, _, _, rfl, _⟩ := h; rfl)
theorem ok_law_below {fd : FuncData} (T : Fc K mg (Γ0 K)) (F : FunD K "_law_below" "_law_below" (defArgs (top 41)) (defBody (top 41)) (defScope (top 41)) [] [] (He.ga K "_law_below") fd)  : FnOk P w K mg base CX0 1 (He.ga K "_law_below") fd ["_law_d", "_law_limit"] (spD K (sp_law_below (Γ0 K))) :=
  fnD F sc_law_below (ln_law_below (Γ0 K)) (fun cdv A outer s0 H E hr => dv_law_below (Γ0 K) T  cdv A outer s0 H E hr) (vc_law_below (Γ0 K))
theorem ln_law_step (Γ : CL) : ∀ ds μ R, sp_law_step Γ ds μ R → ds.length = 2 := by
  intro ds μ R h
  first | (unfold sp_law_step at h; split at h <;> first | rfl | exact h.elim) | (obtain ⟨rfl, _⟩ := h; rfl) | (obtain ⟨_, rfl, _⟩ := h; rfl) | (obtain ⟨_, _, rfl, _⟩ := h; rfl) | (obtain ⟨_, _, _, rfl, _⟩ := h; rfl) | (obtain ⟨_, _, _, _, rfl, _⟩ := h; rfl) | (obtain ⟨_, _, _, _, _, rfl, _⟩ := h; rfl)
theorem ok_law_step {fd : FuncData} (T : Fc K mg (Γ0 K)) (F : FunD K "_law_step" "_law_step" (defArgs (top 42)) (defBody (top 42)) (defScope (top 42)) [] [] (He.ga K "_law_step") fd) (G_law_below : FnG P w K mg base 1 "_law_below" (sp_law_below (Γ0 K))) : FnOk P w K mg base CX0 2 (He.ga K "_law_step") fd ["_law_d", "_law_size_now"] (spD K (sp_law_step (Γ0 K))) :=
  fnD F sc_law_step (ln_law_step (Γ0 K)) (fun cdv A outer s0 H E hr => dv_law_step (Γ0 K) T G_law_below cdv A outer s0 H E hr) (vc_law_step (Γ0 K))
theorem ln_law_common (Γ : CL) : ∀ ds μ R, sp_law_common Γ ds μ R → ds.length = 2 := by
  intro ds μ R h
  first | (unfold sp_law_common sp_common_divisor at h; split at h <;> first | rfl | exact h.elim) | (replace h : sp_common_divisor Γ ds μ R := h; obtain ⟨_, _, rfl, _⟩ := h; rfl) | (obtain ⟨rfl, _⟩ := h; rfl) | (obtain ⟨_, rfl, _⟩ := h; rfl) | (obtain ⟨_, _, rfl, _⟩ := h; rfl) | (obtain ⟨_, _, _, rfl, _⟩ := h; rfl) | (obtain ⟨_, _, _, _, rfl, _⟩ := h; rfl) | (obtain ⟨_, _, _, _, _, rfl, _⟩ := h; rfl)
theorem ok_law_common {fd : FuncData} (T : Fc K mg (Γ0 K)) (F : FunD K "_law_common" "_law_common" (defArgs (top 43)) (defBody (top 43)) (defScope (top 43)) [] [] (He.ga K "_law_common") fd)  : FnOk P w K mg base CX0 1 (He.ga K "_law_common") fd ["_law_one", "_law_other"] (spD K (sp_law_common (Γ0 K))) :=
  fnD F sc_law_common (ln_law_common (Γ0 K)) (fun cdv A outer s0 H E hr => dv_law_common (Γ0 K) T  cdv A outer s0 H E hr) (vc_law_common (Γ0 K))
theorem ln_law_lowest (Γ : CL) : ∀ ds μ R, sp_law_lowest Γ ds μ R → ds.length = 3 := by
  intro ds μ R h
  first | (unfold sp_law_lowest sp_lowest at h; split at h <;> first | rfl | exact h.elim) | (replace h : sp_lowest Γ ds μ R := h; obtain ⟨_, _, rfl, _⟩ := h; rfl) | (obtain ⟨rfl, _⟩ := h; rfl) | (obtain ⟨_, rfl, _⟩ := h; rfl) | (obtain ⟨_, _, rfl, _⟩ := h; rfl) | (obtain ⟨_, _, _, rfl, _⟩ := h; rfl) | (obtain ⟨_, _, _, _, rfl, _⟩ := h; rfl) | (obtain ⟨_, _, _, _, _, rfl, _⟩ := h; rfl)
theorem ok_law_lowest {fd : FuncData} (T : Fc K mg (Γ0 K)) (F : FunD K "_law_lowest" "_law_lowest" (defArgs (top 44)) (defBody (top 44)) (defScope (top 44)) [] [] (He.ga K "_law_lowest") fd) (G_law_common : FnG P w K mg base 1 "_law_common" (sp_law_common (Γ0 K))) : FnOk P w K mg base CX0 2 (He.ga K "_law_lowest") fd ["_law_x", "_law_y", "_law_q"] (spD K (sp_law_lowest (Γ0 K))) :=
  fnD F sc_law_lowest (ln_law_lowest (Γ0 K)) (fun cdv A outer s0 H E hr => dv_law_lowest (Γ0 K) T G_law_common cdv A outer s0 H E hr) (vc_law_lowest (Γ0 K))
theorem ln_law_spot (Γ : CL) : ∀ ds μ R, sp_law_spot Γ ds μ R → ds.length = 1 := by
  intro ds μ R h
  first | (unfold sp_law_spot at h; split at h <;> first | rfl | exact h.elim) | (obtain ⟨rfl, _⟩ := h; rfl) | (obtain ⟨_, rfl, _⟩ := h; rfl) | (obtain ⟨_, _, rfl, _⟩ := h; rfl) | (obtain ⟨_, _, _, rfl, _⟩ := h; rfl) | (obtain ⟨_, _, _, _, rfl, _⟩ := h; rfl) | (obtain ⟨_, _, _, _, _, rfl, _⟩ := h; rfl)
theorem ok_law_spot {fd : FuncData} (T : Fc K mg (Γ0 K)) (F : FunD K "_law_spot" "_law_spot" (defArgs (top 45)) (defBody (top 45)) (defScope (top 45)) [] [] (He.ga K "_law_spot") fd) (G_law_below : FnG P w K mg base 1 "_law_below" (sp_law_below (Γ0 K))) (G_law_lowest : FnG P w K mg base 2 "_law_lowest" (sp_law_lowest (Γ0 K))) : FnOk P w K mg base CX0 3 (He.ga K "_law_spot") fd ["_law_d"] (spD K (sp_law_spot (Γ0 K))) :=
  fnD F sc_law_spot (ln_law_spot (Γ0 K)) (fun cdv A outer s0 H E hr => dv_law_spot (Γ0 K) T G_law_below G_law_lowest cdv A outer s0 H E hr) (vc_law_spot (Γ0 K))
theorem ln_law_turn (Γ : CL) : ∀ ds μ R, sp_law_turn Γ ds μ R → ds.length = 1 := by
  intro ds μ R h
  first | (unfold sp_law_turn at h; split at h <;> first | rfl | exact h.elim) | (obtain ⟨rfl, _⟩ := h; rfl) | (obtain ⟨_, rfl, _⟩ := h; rfl) | (obtain ⟨_, _, rfl, _⟩ := h; rfl) | (obtain ⟨_, _, _, rfl, _⟩ := h; rfl) | (obtain ⟨_, _, _, _, rfl, _⟩ := h; rfl) | (obtain ⟨_, _, _, _, _, rfl, _⟩ := h; rfl)
theorem ok_law_turn {fd : FuncData} (T : Fc K mg (Γ0 K)) (F : FunD K "_law_turn" "_law_turn" (defArgs (top 46)) (defBody (top 46)) (defScope (top 46)) [] [] (He.ga K "_law_turn") fd) (G_law_below : FnG P w K mg base 1 "_law_below" (sp_law_below (Γ0 K))) : FnOk P w K mg base CX0 2 (He.ga K "_law_turn") fd ["_law_d"] (spD K (sp_law_turn (Γ0 K))) :=
  fnD F sc_law_turn (ln_law_turn (Γ0 K)) (fun cdv A outer s0 H E hr => dv_law_turn (Γ0 K) T G_law_below cdv A outer s0 H E hr) (vc_law_turn (Γ0 K))
theorem ln_law_arm_told (Γ : CL) : ∀ ds μ R, sp_law_arm_told Γ ds μ R → ds.length = 1 := by
  intro ds μ R h
  first | (unfold sp_law_arm_told at h; split at h <;> first | rfl | exact h.elim) | (obtain ⟨rfl, _⟩ := h; rfl) | (obtain ⟨_, rfl, _⟩ := h; rfl) | (obtain ⟨_, _, rfl, _⟩ := h; rfl) | (obtain ⟨_, _, _, rfl, _⟩ := h; rfl) | (obtain ⟨_, _, _, _, rfl, _⟩ := h; rfl) | (obtain ⟨_, _, _, _, _, rfl, _⟩ := h; rfl)
theorem ok_law_arm_told {fd : FuncData} (T : Fc K mg (Γ0 K)) (F : FunD K "_law_arm_told" "_law_arm_told" (defArgs (top 47)) (defBody (top 47)) (defScope (top 47)) [] [] (He.ga K "_law_arm_told") fd) (G_law_below : FnG P w K mg base 1 "_law_below" (sp_law_below (Γ0 K))) (G_law_step : FnG P w K mg base 2 "_law_step" (sp_law_step (Γ0 K))) (G_law_spot : FnG P w K mg base 3 "_law_spot" (sp_law_spot (Γ0 K))) (G_law_turn : FnG P w K mg base 2 "_law_turn" (sp_law_turn (Γ0 K))) : FnOk P w K mg base CX0 4 (He.ga K "_law_arm_told") fd ["_law_d"] (spD K (sp_law_arm_told (Γ0 K))) :=
  fnD F sc_law_arm_told (ln_law_arm_told (Γ0 K)) (fun cdv A outer s0 H E hr => dv_law_arm_told (Γ0 K) T G_law_below G_law_step G_law_spot G_law_turn cdv A outer s0 H E hr) (vc_law_arm_told (Γ0 K))
theorem ok_Chain___init {fd : FuncData} (T : Fc K mg (Γ0 K)) (F : FunD K "__init__" "Chain.__init__" (defArgs (inClass (top 36) 0)) (defBody (inClass (top 36) 0)) (defScope (inClass (top 36) 0)) [] [] (He.ma K (He.ga K "Chain") "__init__") fd)  : FnR P w K mg base CX0 1 (He.ma K (He.ga K "Chain") "__init__") (starSp (spD K (sp_Chain___init (Γ0 K)))) :=
  fnS F sc_Chain___init (fun _ _ _ _ _ _ => ⟨fun _ => rfl, fun _ _ _ => rfl⟩) (fun cdv A outer s0 H E hr => dv_Chain___init (Γ0 K) T  cdv A outer s0 H E hr) (vc_Chain___init (Γ0 K))
theorem ln_is_int (Γ : CL) : ∀ ds μ R, sp_is_int Γ ds μ R → ds.length = 1 := by
  intro ds μ R h
  first | (unfold sp_is_int at h; split at h <;> first | rfl | exact h.elim) | (obtain ⟨rfl, _⟩ := h; rfl) | (obtain ⟨_, rfl, _⟩ := h; rfl) | (obtain ⟨_, _, rfl, _⟩ := h; rfl) | (obtain ⟨_, _, _, rfl, _⟩ := h; rfl) | (obtain ⟨_, _, _, _, rfl, _⟩ := h; rfl) | (obtain ⟨_, _, _, _, _, rfl, _⟩ := h; rfl)
theorem ok_is_int {fd : FuncData} (T : Fc K mg (Γ0 K)) (F : FunD K "is_int" "is_int" (defArgs (top 9)) (defBody (top 9)) (defScope (top 9)) [] [] (He.ga K "is_int") fd)  : FnOk P w K mg base CX0 1 (He.ga K "is_int") fd ["value"] (spD K (sp_is_int (Γ0 K))) :=
  fnD F sc_is_int (ln_is_int (Γ0 K)) (fun cdv A outer s0 H E hr => dv_is_int (Γ0 K) T  cdv A outer s0 H E hr) (vc_is_int (Γ0 K))
theorem ln_common_divisor (Γ : CL) : ∀ ds μ R, sp_common_divisor Γ ds μ R → ds.length = 2 := by
  intro ds μ R h
  first | (unfold sp_common_divisor at h; split at h <;> first | rfl | exact h.elim) | (obtain ⟨rfl, _⟩ := h; rfl) | (obtain ⟨_, rfl, _⟩ := h; rfl) | (obtain ⟨_, _, rfl, _⟩ := h; rfl) | (obtain ⟨_, _, _, rfl, _⟩ := h; rfl) | (obtain ⟨_, _, _, _, rfl, _⟩ := h; rfl) | (obtain ⟨_, _, _, _, _, rfl, _⟩ := h; rfl)
theorem ok_common_divisor {fd : FuncData} (T : Fc K mg (Γ0 K)) (F : FunD K "common_divisor" "common_divisor" (defArgs (top 10)) (defBody (top 10)) (defScope (top 10)) [] [] (He.ga K "common_divisor") fd)  : FnOk P w K mg base CX0 1 (He.ga K "common_divisor") fd ["one", "other"] (spD K (sp_common_divisor (Γ0 K))) :=
  fnD F sc_common_divisor (ln_common_divisor (Γ0 K)) (fun cdv A outer s0 H E hr => dv_common_divisor (Γ0 K) T  cdv A outer s0 H E hr) (vc_common_divisor (Γ0 K))
theorem ln_lowest (Γ : CL) : ∀ ds μ R, sp_lowest Γ ds μ R → ds.length = 3 := by
  intro ds μ R h
  first | (unfold sp_lowest at h; split at h <;> first | rfl | exact h.elim) | (obtain ⟨rfl, _⟩ := h; rfl) | (obtain ⟨_, rfl, _⟩ := h; rfl) | (obtain ⟨_, _, rfl, _⟩ := h; rfl) | (obtain ⟨_, _, _, rfl, _⟩ := h; rfl) | (obtain ⟨_, _, _, _, rfl, _⟩ := h; rfl) | (obtain ⟨_, _, _, _, _, rfl, _⟩ := h; rfl)
theorem ok_lowest {fd : FuncData} (T : Fc K mg (Γ0 K)) (F : FunD K "lowest" "lowest" (defArgs (top 12)) (defBody (top 12)) (defScope (top 12)) [] [] (He.ga K "lowest") fd) (G_common_divisor : FnG P w K mg base 1 "common_divisor" (sp_common_divisor (Γ0 K))) : FnOk P w K mg base CX0 2 (He.ga K "lowest") fd ["x", "y", "d"] (spD K (sp_lowest (Γ0 K))) :=
  fnD F sc_lowest (ln_lowest (Γ0 K)) (fun cdv A outer s0 H E hr => dv_lowest (Γ0 K) T G_common_divisor cdv A outer s0 H E hr) (vc_lowest (Γ0 K))
theorem ln_is_number (Γ : CL) : ∀ ds μ R, sp_is_number Γ ds μ R → ds.length = 1 := by
  intro ds μ R h
  first | (unfold sp_is_number at h; split at h <;> first | rfl | exact h.elim) | (obtain ⟨rfl, _⟩ := h; rfl) | (obtain ⟨_, rfl, _⟩ := h; rfl) | (obtain ⟨_, _, rfl, _⟩ := h; rfl) | (obtain ⟨_, _, _, rfl, _⟩ := h; rfl) | (obtain ⟨_, _, _, _, rfl, _⟩ := h; rfl) | (obtain ⟨_, _, _, _, _, rfl, _⟩ := h; rfl)
theorem ok_is_number {fd : FuncData} (T : Fc K mg (Γ0 K)) (F : FunD K "is_number" "is_number" (defArgs (top 15)) (defBody (top 15)) (defScope (top 15)) [] [] (He.ga K "is_number") fd) (G_is_int : FnG P w K mg base 1 "is_int" (sp_is_int (Γ0 K))) (G_lowest : FnG P w K mg base 2 "lowest" (sp_lowest (Γ0 K))) : FnOk P w K mg base CX0 3 (He.ga K "is_number") fd ["value"] (spD K (sp_is_number (Γ0 K))) :=
  fnD F sc_is_number (ln_is_number (Γ0 K)) (fun cdv A outer s0 H E hr => dv_is_number (Γ0 K) T G_is_int G_lowest cdv A outer s0 H E hr) (vc_is_number (Γ0 K))
theorem ln_check_spot (Γ : CL) : ∀ ds μ R, sp_check_spot Γ ds μ R → ds.length = 1 := by
  intro ds μ R h
  first | (unfold sp_check_spot at h; split at h <;> first | rfl | exact h.elim) | (obtain ⟨rfl, _⟩ := h; rfl) | (obtain ⟨_, rfl, _⟩ := h; rfl) | (obtain ⟨_, _, rfl, _⟩ := h; rfl) | (obtain ⟨_, _, _, rfl, _⟩ := h; rfl) | (obtain ⟨_, _, _, _, rfl, _⟩ := h; rfl) | (obtain ⟨_, _, _, _, _, rfl, _⟩ := h; rfl)
theorem ok_check_spot {fd : FuncData} (T : Fc K mg (Γ0 K)) (F : FunD K "check_spot" "check_spot" (defArgs (top 25)) (defBody (top 25)) (defScope (top 25)) [] [] (He.ga K "check_spot") fd) (G_is_number : FnG P w K mg base 3 "is_number" (sp_is_number (Γ0 K))) : FnOk P w K mg base CX0 4 (He.ga K "check_spot") fd ["value"] (spD K (sp_check_spot (Γ0 K))) :=
  fnD F sc_check_spot (ln_check_spot (Γ0 K)) (fun cdv A outer s0 H E hr => dv_check_spot (Γ0 K) T G_is_number cdv A outer s0 H E hr) (vc_check_spot (Γ0 K))
theorem ln_check_turn (Γ : CL) : ∀ ds μ R, sp_check_turn Γ ds μ R → ds.length = 1 := by
  intro ds μ R h
  first | (unfold sp_check_turn at h; split at h <;> first | rfl | exact h.elim) | (obtain ⟨rfl, _⟩ := h; rfl) | (obtain ⟨_, rfl, _⟩ := h; rfl) | (obtain ⟨_, _, rfl, _⟩ := h; rfl) | (obtain ⟨_, _, _, rfl, _⟩ := h; rfl) | (obtain ⟨_, _, _, _, rfl, _⟩ := h; rfl) | (obtain ⟨_, _, _, _, _, rfl, _⟩ := h; rfl)
theorem ok_check_turn {fd : FuncData} (T : Fc K mg (Γ0 K)) (F : FunD K "check_turn" "check_turn" (defArgs (top 26)) (defBody (top 26)) (defScope (top 26)) [] [] (He.ga K "check_turn") fd) (G_is_number : FnG P w K mg base 3 "is_number" (sp_is_number (Γ0 K))) : FnOk P w K mg base CX0 4 (He.ga K "check_turn") fd ["value"] (spD K (sp_check_turn (Γ0 K))) :=
  fnD F sc_check_turn (ln_check_turn (Γ0 K)) (fun cdv A outer s0 H E hr => dv_check_turn (Γ0 K) T G_is_number cdv A outer s0 H E hr) (vc_check_turn (Γ0 K))
theorem ln_is_int_in (Γ : CL) : ∀ ds μ R, sp_is_int_in Γ ds μ R → ds.length = 3 := by
  intro ds μ R h
  first | (unfold sp_is_int_in at h; split at h <;> first | rfl | exact h.elim) | (obtain ⟨rfl, _⟩ := h; rfl) | (obtain ⟨_, rfl, _⟩ := h; rfl) | (obtain ⟨_, _, rfl, _⟩ := h; rfl) | (obtain ⟨_, _, _, rfl, _⟩ := h; rfl) | (obtain ⟨_, _, _, _, rfl, _⟩ := h; rfl) | (obtain ⟨_, _, _, _, _, rfl, _⟩ := h; rfl)
theorem ok_is_int_in {fd : FuncData} (T : Fc K mg (Γ0 K)) (F : FunD K "is_int_in" "is_int_in" (defArgs (top 8)) (defBody (top 8)) (defScope (top 8)) [] [] (He.ga K "is_int_in") fd)  : FnOk P w K mg base CX0 1 (He.ga K "is_int_in") fd ["value", "low", "high"] (spD K (sp_is_int_in (Γ0 K))) :=
  fnD F sc_is_int_in (ln_is_int_in (Γ0 K)) (fun cdv A outer s0 H E hr => dv_is_int_in (Γ0 K) T  cdv A outer s0 H E hr) (vc_is_int_in (Γ0 K))
theorem ln_Arm___init (Γ : CL) : ∀ ds μ R, sp_Arm___init Γ ds μ R → ds.length = 6 := by
  intro ds μ R h
  first | (unfold sp_Arm___init at h; split at h <;> first | rfl | exact h.elim) | (obtain ⟨rfl, _⟩ := h; rfl) | (obtain ⟨_, rfl, _⟩ := h; rfl) | (obtain ⟨_, _, rfl, _⟩ := h; rfl) | (obtain ⟨_, _, _, rfl, _⟩ := h; rfl) | (obtain ⟨_, _, _, _, rfl, _⟩ := h; rfl) | (obtain ⟨_, _, _, _, _, rfl, _⟩ := h; rfl)
theorem ok_Arm___init {fd : FuncData} (T : Fc K mg (Γ0 K)) (F : FunD K "__init__" "Arm.__init__" (defArgs (inClass (top 31) 0)) (defBody (inClass (top 31) 0)) (defScope (inClass (top 31) 0)) [] [("mirrored", (.bl false))] (He.ma K (He.ga K "Arm") "__init__") fd) (G_check_spot : FnG P w K mg base 4 "check_spot" (sp_check_spot (Γ0 K))) (G_check_turn : FnG P w K mg base 4 "check_turn" (sp_check_turn (Γ0 K))) (G_is_int_in : FnG P w K mg base 1 "is_int_in" (sp_is_int_in (Γ0 K))) : FnOk P w K mg base CX0 5 (He.ma K (He.ga K "Arm") "__init__") fd ["self", "pole", "turn", "near", "far", "mirrored"] (spD K (sp_Arm___init (Γ0 K))) :=
  fnD F sc_Arm___init (ln_Arm___init (Γ0 K)) (fun cdv A outer s0 H E hr => dv_Arm___init (Γ0 K) T G_check_spot G_check_turn G_is_int_in cdv A outer s0 H E hr) (vc_Arm___init (Γ0 K))
theorem ln_law_arm (Γ : CL) : ∀ ds μ R, sp_law_arm Γ ds μ R → ds.length = 1 := by
  intro ds μ R h
  first | (unfold sp_law_arm at h; split at h <;> first | rfl | exact h.elim) | (obtain ⟨rfl, _⟩ := h; rfl) | (obtain ⟨_, rfl, _⟩ := h; rfl) | (obtain ⟨_, _, rfl, _⟩ := h; rfl) | (obtain ⟨_, _, _, rfl, _⟩ := h; rfl) | (obtain ⟨_, _, _, _, rfl, _⟩ := h; rfl) | (obtain ⟨_, _, _, _, _, rfl, _⟩ := h; rfl)
theorem ok_law_arm {fd : FuncData} (T : Fc K mg (Γ0 K)) (F : FunD K "_law_arm" "_law_arm" (defArgs (top 48)) (defBody (top 48)) (defScope (top 48)) [] [] (He.ga K "_law_arm") fd) (G_Arm___init_k_mirrored : MkK P w K mg base 5 "Arm" (Γ0 K).Arm (sp_Arm___init (Γ0 K)) 4 ["mirrored"] gD_Arm_mirrored) : FnOk P w K mg base CX0 7 (He.ga K "_law_arm") fd ["_law_told"] (spD K (sp_law_arm (Γ0 K))) :=
  fnD F sc_law_arm (ln_law_arm (Γ0 K)) (fun cdv A outer s0 H E hr => dv_law_arm (Γ0 K) T G_Arm___init_k_mirrored cdv A outer s0 H E hr) (vc_law_arm (Γ0 K))
theorem ln_Chain___add (Γ : CL) : ∀ ds μ R, sp_Chain___add Γ ds μ R → ds.length = 2 := by
  intro ds μ R h
  first | (unfold sp_Chain___add at h; split at h <;> first | rfl | exact h.elim) | (obtain ⟨rfl, _⟩ := h; rfl) | (obtain ⟨_, rfl, _⟩ := h; rfl) | (obtain ⟨_, _, rfl, _⟩ := h; rfl) | (obtain ⟨_, _, _, rfl, _⟩ := h; rfl) | (obtain ⟨_, _, _, _, rfl, _⟩ := h; rfl) | (obtain ⟨_, _, _, _, _, rfl, _⟩ := h; rfl)
theorem ok_Chain___add {fd : FuncData} (T : Fc K mg (Γ0 K)) (F : FunD K "__add__" "Chain.__add__" (defArgs (inClass (top 36) 5)) (defBody (inClass (top 36) 5)) (defScope (inClass (top 36) 5)) [] [] (He.ma K (He.ga K "Chain") "__add__") fd) (G_Chain___init : MkS P w K mg base 1 "Chain" (Γ0 K).Chain (sp_Chain___init (Γ0 K))) : FnOk P w K mg base CX0 3 (He.ma K (He.ga K "Chain") "__add__") fd ["self", "other"] (spD K (sp_Chain___add (Γ0 K))) :=
  fnD F sc_Chain___add (ln_Chain___add (Γ0 K)) (fun cdv A outer s0 H E hr => dv_Chain___add (Γ0 K) T G_Chain___init cdv A outer s0 H E hr) (vc_Chain___add (Γ0 K))
theorem ln_law_chain (Γ : CL) : ∀ ds μ R, sp_law_chain Γ ds μ R → ds.length = 1 := by
  intro ds μ R h
  first | (unfold sp_law_chain at h; split at h <;> first | rfl | exact h.elim) | (obtain ⟨rfl, _⟩ := h; rfl) | (obtain ⟨_, rfl, _⟩ := h; rfl) | (obtain ⟨_, _, rfl, _⟩ := h; rfl) | (obtain ⟨_, _, _, rfl, _⟩ := h; rfl) | (obtain ⟨_, _, _, _, rfl, _⟩ := h; rfl) | (obtain ⟨_, _, _, _, _, rfl, _⟩ := h; rfl)
theorem ok_law_chain {fd : FuncData} (T : Fc K mg (Γ0 K)) (F : FunD K "_law_chain" "_law_chain" (defArgs (top 49)) (defBody (top 49)) (defScope (top 49)) [] [] (He.ga K "_law_chain") fd) (G_law_arm : FnG P w K mg base 7 "_law_arm" (sp_law_arm (Γ0 K))) (G_Chain___add : MtG P w K mg base 3 (Γ0 K).Chain (He.ma K (Γ0 K).Chain "__add__") (sp_Chain___add (Γ0 K))) (G_Chain___init : MkS P w K mg base 1 "Chain" (Γ0 K).Chain (sp_Chain___init (Γ0 K))) : FnOk P w K mg base CX0 8 (He.ga K "_law_chain") fd ["_law_tolds"] (spD K (sp_law_chain (Γ0 K))) :=
  fnD F sc_law_chain (ln_law_chain (Γ0 K)) (fun cdv A outer s0 H E hr => dv_law_chain (Γ0 K) T G_law_arm G_Chain___add G_Chain___init cdv A outer s0 H E hr) (vc_law_chain (Γ0 K))
theorem ln_Copy___init (Γ : CL) : ∀ ds μ R, sp_Copy___init Γ ds μ R → ds.length = 4 := by
  intro ds μ R h
  first | (unfold sp_Copy___init at h; split at h <;> first | rfl | exact h.elim) | (obtain ⟨rfl, _⟩ := h; rfl) | (obtain ⟨_, rfl, _⟩ := h; rfl) | (obtain ⟨_, _, rfl, _⟩ := h; rfl) | (obtain ⟨_, _, _, rfl, _⟩ := h; rfl) | (obtain ⟨_, _, _, _, rfl, _⟩ := h; rfl) | (obtain ⟨_, _, _, _, _, rfl, _⟩ := h; rfl)
theorem ok_Copy___init {fd : FuncData} (T : Fc K mg (Γ0 K)) (F : FunD K "__init__" "Copy.__init__" (defArgs (inClass (top 28) 0)) (defBody (inClass (top 28) 0)) (defScope (inClass (top 28) 0)) [] [("mirrored", (.bl false))] (He.ma K (He.ga K "Copy") "__init__") fd) (G_check_turn : FnG P w K mg base 4 "check_turn" (sp_check_turn (Γ0 K))) (G_check_spot : FnG P w K mg base 4 "check_spot" (sp_check_spot (Γ0 K))) : FnOk P w K mg base CX0 5 (He.ma K (He.ga K "Copy") "__init__") fd ["self", "turn", "shift", "mirrored"] (spD K (sp_Copy___init (Γ0 K))) :=
  fnD F sc_Copy___init (ln_Copy___init (Γ0 K)) (fun cdv A outer s0 H E hr => dv_Copy___init (Γ0 K) T G_check_turn G_check_spot cdv A outer s0 H E hr) (vc_Copy___init (Γ0 K))
theorem ln_multiplied (Γ : CL) : ∀ ds μ R, sp_multiplied Γ ds μ R → ds.length = 2 := by
  intro ds μ R h
  first | (unfold sp_multiplied at h; split at h <;> first | rfl | exact h.elim) | (obtain ⟨rfl, _⟩ := h; rfl) | (obtain ⟨_, rfl, _⟩ := h; rfl) | (obtain ⟨_, _, rfl, _⟩ := h; rfl) | (obtain ⟨_, _, _, rfl, _⟩ := h; rfl) | (obtain ⟨_, _, _, _, rfl, _⟩ := h; rfl) | (obtain ⟨_, _, _, _, _, rfl, _⟩ := h; rfl)
theorem ok_multiplied {fd : FuncData} (T : Fc K mg (Γ0 K)) (F : FunD K "multiplied" "multiplied" (defArgs (top 19)) (defBody (top 19)) (defScope (top 19)) [] [] (He.ga K "multiplied") fd) (G_lowest : FnG P w K mg base 2 "lowest" (sp_lowest (Γ0 K))) : FnOk P w K mg base CX0 3 (He.ga K "multiplied") fd ["one", "other"] (spD K (sp_multiplied (Γ0 K))) :=
  fnD F sc_multiplied (ln_multiplied (Γ0 K)) (fun cdv A outer s0 H E hr => dv_multiplied (Γ0 K) T G_lowest cdv A outer s0 H E hr) (vc_multiplied (Γ0 K))
theorem ln_turned_over (Γ : CL) : ∀ ds μ R, sp_turned_over Γ ds μ R → ds.length = 1 := by
  intro ds μ R h
  first | (unfold sp_turned_over at h; split at h <;> first | rfl | exact h.elim) | (obtain ⟨rfl, _⟩ := h; rfl) | (obtain ⟨_, rfl, _⟩ := h; rfl) | (obtain ⟨_, _, rfl, _⟩ := h; rfl) | (obtain ⟨_, _, _, rfl, _⟩ := h; rfl) | (obtain ⟨_, _, _, _, rfl, _⟩ := h; rfl) | (obtain ⟨_, _, _, _, _, rfl, _⟩ := h; rfl)
theorem ok_turned_over {fd : FuncData} (T : Fc K mg (Γ0 K)) (F : FunD K "turned_over" "turned_over" (defArgs (top 20)) (defBody (top 20)) (defScope (top 20)) [] [] (He.ga K "turned_over") fd)  : FnOk P w K mg base CX0 1 (He.ga K "turned_over") fd ["one"] (spD K (sp_turned_over (Γ0 K))) :=
  fnD F sc_turned_over (ln_turned_over (Γ0 K)) (fun cdv A outer s0 H E hr => dv_turned_over (Γ0 K) T  cdv A outer s0 H E hr) (vc_turned_over (Γ0 K))
theorem ln_added (Γ : CL) : ∀ ds μ R, sp_added Γ ds μ R → ds.length = 2 := by
  intro ds μ R h
  first | (unfold sp_added at h; split at h <;> first | rfl | exact h.elim) | (obtain ⟨rfl, _⟩ := h; rfl) | (obtain ⟨_, rfl, _⟩ := h; rfl) | (obtain ⟨_, _, rfl, _⟩ := h; rfl) | (obtain ⟨_, _, _, rfl, _⟩ := h; rfl) | (obtain ⟨_, _, _, _, rfl, _⟩ := h; rfl) | (obtain ⟨_, _, _, _, _, rfl, _⟩ := h; rfl)
theorem ok_added {fd : FuncData} (T : Fc K mg (Γ0 K)) (F : FunD K "added" "added" (defArgs (top 16)) (defBody (top 16)) (defScope (top 16)) [] [] (He.ga K "added") fd) (G_lowest : FnG P w K mg base 2 "lowest" (sp_lowest (Γ0 K))) : FnOk P w K mg base CX0 3 (He.ga K "added") fd ["one", "other"] (spD K (sp_added (Γ0 K))) :=
  fnD F sc_added (ln_added (Γ0 K)) (fun cdv A outer s0 H E hr => dv_added (Γ0 K) T G_lowest cdv A outer s0 H E hr) (vc_added (Γ0 K))
theorem ln_opposite (Γ : CL) : ∀ ds μ R, sp_opposite Γ ds μ R → ds.length = 1 := by
  intro ds μ R h
  first | (unfold sp_opposite at h; split at h <;> first | rfl | exact h.elim) | (obtain ⟨rfl, _⟩ := h; rfl) | (obtain ⟨_, rfl, _⟩ := h; rfl) | (obtain ⟨_, _, rfl, _⟩ := h; rfl) | (obtain ⟨_, _, _, rfl, _⟩ := h; rfl) | (obtain ⟨_, _, _, _, rfl, _⟩ := h; rfl) | (obtain ⟨_, _, _, _, _, rfl, _⟩ := h; rfl)
theorem ok_opposite {fd : FuncData} (T : Fc K mg (Γ0 K)) (F : FunD K "opposite" "opposite" (defArgs (top 17)) (defBody (top 17)) (defScope (top 17)) [] [] (He.ga K "opposite") fd)  : FnOk P w K mg base CX0 1 (He.ga K "opposite") fd ["one"] (spD K (sp_opposite (Γ0 K))) :=
  fnD F sc_opposite (ln_opposite (Γ0 K)) (fun cdv A outer s0 H E hr => dv_opposite (Γ0 K) T  cdv A outer s0 H E hr) (vc_opposite (Γ0 K))
theorem ln_less (Γ : CL) : ∀ ds μ R, sp_less Γ ds μ R → ds.length = 2 := by
  intro ds μ R h
  first | (unfold sp_less at h; split at h <;> first | rfl | exact h.elim) | (obtain ⟨rfl, _⟩ := h; rfl) | (obtain ⟨_, rfl, _⟩ := h; rfl) | (obtain ⟨_, _, rfl, _⟩ := h; rfl) | (obtain ⟨_, _, _, rfl, _⟩ := h; rfl) | (obtain ⟨_, _, _, _, rfl, _⟩ := h; rfl) | (obtain ⟨_, _, _, _, _, rfl, _⟩ := h; rfl)
theorem ok_less {fd : FuncData} (T : Fc K mg (Γ0 K)) (F : FunD K "less" "less" (defArgs (top 18)) (defBody (top 18)) (defScope (top 18)) [] [] (He.ga K "less") fd) (G_added : FnG P w K mg base 3 "added" (sp_added (Γ0 K))) (G_opposite : FnG P w K mg base 1 "opposite" (sp_opposite (Γ0 K))) : FnOk P w K mg base CX0 4 (He.ga K "less") fd ["one", "other"] (spD K (sp_less (Γ0 K))) :=
  fnD F sc_less (ln_less (Γ0 K)) (fun cdv A outer s0 H E hr => dv_less (Γ0 K) T G_added G_opposite cdv A outer s0 H E hr) (vc_less (Γ0 K))
theorem ln_copy_about (Γ : CL) : ∀ ds μ R, sp_copy_about Γ ds μ R → ds.length = 3 := by
  intro ds μ R h
  first | (unfold sp_copy_about at h; split at h <;> first | rfl | exact h.elim) | (obtain ⟨rfl, _⟩ := h; rfl) | (obtain ⟨_, rfl, _⟩ := h; rfl) | (obtain ⟨_, _, rfl, _⟩ := h; rfl) | (obtain ⟨_, _, _, rfl, _⟩ := h; rfl) | (obtain ⟨_, _, _, _, rfl, _⟩ := h; rfl) | (obtain ⟨_, _, _, _, _, rfl, _⟩ := h; rfl)
theorem ok_copy_about {fd : FuncData} (T : Fc K mg (Γ0 K)) (F : FunD K "copy_about" "copy_about" (defArgs (top 32)) (defBody (top 32)) (defScope (top 32)) [] [] (He.ga K "copy_about") fd) (G_multiplied : FnG P w K mg base 3 "multiplied" (sp_multiplied (Γ0 K))) (G_turned_over : FnG P w K mg base 1 "turned_over" (sp_turned_over (Γ0 K))) (G_less : FnG P w K mg base 4 "less" (sp_less (Γ0 K))) (G_Copy___init_k_mirrored : MkK P w K mg base 5 "Copy" (Γ0 K).Copy (sp_Copy___init (Γ0 K)) 2 ["mirrored"] gD_Copy_mirrored) : FnOk P w K mg base CX0 7 (He.ga K "copy_about") fd ["pole", "turn", "mirrored"] (spD K (sp_copy_about (Γ0 K))) :=
  fnD F sc_copy_about (ln_copy_about (Γ0 K)) (fun cdv A outer s0 H E hr => dv_copy_about (Γ0 K) T G_multiplied G_turned_over G_less G_Copy___init_k_mirrored cdv A outer s0 H E hr) (vc_copy_about (Γ0 K))
theorem ln_Arm_effect (Γ : CL) : ∀ ds μ R, sp_Arm_effect Γ ds μ R → ds.length = 1 := by
  intro ds μ R h
  first | (unfold sp_Arm_effect at h; split at h <;> first | rfl | exact h.elim) | (obtain ⟨rfl, _⟩ := h; rfl) | (obtain ⟨_, rfl, _⟩ := h; rfl) | (obtain ⟨_, _, rfl, _⟩ := h; rfl) | (obtain ⟨_, _, _, rfl, _⟩ := h; rfl) | (obtain ⟨_, _, _, _, rfl, _⟩ := h; rfl) | (obtain ⟨_, _, _, _, _, rfl, _⟩ := h; rfl)
theorem ok_Arm_effect {fd : FuncData} (T : Fc K mg (Γ0 K)) (F : FunD K "effect" "Arm.effect" (defArgs (inClass (top 31) 1)) (defBody (inClass (top 31) 1)) (defScope (inClass (top 31) 1)) [] [] (gtA K (He.ga K "Arm") "effect") fd) (G_copy_about : FnG P w K mg base 7 "copy_about" (sp_copy_about (Γ0 K))) : FnOk P w K mg base CX0 8 (gtA K (He.ga K "Arm") "effect") fd ["self"] (spD K (sp_Arm_effect (Γ0 K))) :=
  fnD F sc_Arm_effect (ln_Arm_effect (Γ0 K)) (fun cdv A outer s0 H E hr => dv_Arm_effect (Γ0 K) T G_copy_about cdv A outer s0 H E hr) (vc_Arm_effect (Γ0 K))
theorem ln_carried (Γ : CL) : ∀ ds μ R, sp_carried Γ ds μ R → ds.length = 2 := by
  intro ds μ R h
  first | (unfold sp_carried at h; split at h <;> first | rfl | exact h.elim) | (obtain ⟨rfl, _⟩ := h; rfl) | (obtain ⟨_, rfl, _⟩ := h; rfl) | (obtain ⟨_, _, rfl, _⟩ := h; rfl) | (obtain ⟨_, _, _, rfl, _⟩ := h; rfl) | (obtain ⟨_, _, _, _, rfl, _⟩ := h; rfl) | (obtain ⟨_, _, _, _, _, rfl, _⟩ := h; rfl)
theorem ok_carried {fd : FuncData} (T : Fc K mg (Γ0 K)) (F : FunD K "carried" "carried" (defArgs (top 27)) (defBody (top 27)) (defScope (top 27)) [] [] (He.ga K "carried") fd) (G_added : FnG P w K mg base 3 "added" (sp_added (Γ0 K))) (G_multiplied : FnG P w K mg base 3 "multiplied" (sp_multiplied (Γ0 K))) (G_turned_over : FnG P w K mg base 1 "turned_over" (sp_turned_over (Γ0 K))) : FnOk P w K mg base CX0 4 (He.ga K "carried") fd ["copy", "spot"] (spD K (sp_carried (Γ0 K))) :=
  fnD F sc_carried (ln_carried (Γ0 K)) (fun cdv A outer s0 H E hr => dv_carried (Γ0 K) T G_added G_multiplied G_turned_over cdv A outer s0 H E hr) (vc_carried (Γ0 K))
theorem ln_Copy___rshift (Γ : CL) : ∀ ds μ R, sp_Copy___rshift Γ ds μ R → ds.length = 2 := by
  intro ds μ R h
  first | (unfold sp_Copy___rshift at h; split at h <;> first | rfl | exact h.elim) | (obtain ⟨rfl, _⟩ := h; rfl) | (obtain ⟨_, rfl, _⟩ := h; rfl) | (obtain ⟨_, _, rfl, _⟩ := h; rfl) | (obtain ⟨_, _, _, rfl, _⟩ := h; rfl) | (obtain ⟨_, _, _, _, rfl, _⟩ := h; rfl) | (obtain ⟨_, _, _, _, _, rfl, _⟩ := h; rfl)
theorem ok_Copy___rshift {fd : FuncData} (T : Fc K mg (Γ0 K)) (F : FunD K "__rshift__" "Copy.__rshift__" (defArgs (inClass (top 28) 3)) (defBody (inClass (top 28) 3)) (defScope (inClass (top 28) 3)) [] [] (He.ma K (He.ga K "Copy") "__rshift__") fd) (G_turned_over : FnG P w K mg base 1 "turned_over" (sp_turned_over (Γ0 K))) (G_carried : FnG P w K mg base 4 "carried" (sp_carried (Γ0 K))) (G_multiplied : FnG P w K mg base 3 "multiplied" (sp_multiplied (Γ0 K))) (G_Copy___init_k_mirrored : MkK P w K mg base 5 "Copy" (Γ0 K).Copy (sp_Copy___init (Γ0 K)) 2 ["mirrored"] gD_Copy_mirrored) : FnOk P w K mg base CX0 7 (He.ma K (He.ga K "Copy") "__rshift__") fd ["self", "other"] (spD K (sp_Copy___rshift (Γ0 K))) :=
  fnD F sc_Copy___rshift (ln_Copy___rshift (Γ0 K)) (fun cdv A outer s0 H E hr => dv_Copy___rshift (Γ0 K) T G_turned_over G_carried G_multiplied G_Copy___init_k_mirrored cdv A outer s0 H E hr) (vc_Copy___rshift (Γ0 K))
theorem ln_copies_ahead (Γ : CL) : ∀ ds μ R, sp_copies_ahead Γ ds μ R → ds.length = 1 := by
  intro ds μ R h
  first | (unfold sp_copies_ahead at h; split at h <;> first | rfl | exact h.elim) | (obtain ⟨rfl, _⟩ := h; rfl) | (obtain ⟨_, rfl, _⟩ := h; rfl) | (obtain ⟨_, _, rfl, _⟩ := h; rfl) | (obtain ⟨_, _, _, rfl, _⟩ := h; rfl) | (obtain ⟨_, _, _, _, rfl, _⟩ := h; rfl) | (obtain ⟨_, _, _, _, _, rfl, _⟩ := h; rfl)
theorem ok_copies_ahead {fd : FuncData} (T : Fc K mg (Γ0 K)) (F : FunD K "copies_ahead" "copies_ahead" (defArgs (top 37)) (defBody (top 37)) (defScope (top 37)) [] [] (He.ga K "copies_ahead") fd) (G_Arm_effect : MtG P w K mg base 8 (Γ0 K).Arm (gtA K (Γ0 K).Arm "effect") (sp_Arm_effect (Γ0 K))) (G_Copy___rshift : MtG P w K mg base 7 (Γ0 K).Copy (He.ma K (Γ0 K).Copy "__rshift__") (sp_Copy___rshift (Γ0 K))) (G_Copy___init_k : MkD P w K mg base 5 "Copy" (Γ0 K).Copy (sp_Copy___init (Γ0 K)) [.bl false]) : FnOk P w K mg base CX0 10 (He.ga K "copies_ahead") fd ["arms"] (spD K (sp_copies_ahead (Γ0 K))) :=
  fnD F sc_copies_ahead (ln_copies_ahead (Γ0 K)) (fun cdv A outer s0 H E hr => dv_copies_ahead (Γ0 K) T G_Arm_effect G_Copy___rshift G_Copy___init_k cdv A outer s0 H E hr) (vc_copies_ahead (Γ0 K))
theorem ln_ratio (Γ : CL) : ∀ ds μ R, sp_ratio Γ ds μ R → ds.length = 2 := by
  intro ds μ R h
  first | (unfold sp_ratio at h; split at h <;> first | rfl | exact h.elim) | (obtain ⟨rfl, _⟩ := h; rfl) | (obtain ⟨_, rfl, _⟩ := h; rfl) | (obtain ⟨_, _, rfl, _⟩ := h; rfl) | (obtain ⟨_, _, _, rfl, _⟩ := h; rfl) | (obtain ⟨_, _, _, _, rfl, _⟩ := h; rfl) | (obtain ⟨_, _, _, _, _, rfl, _⟩ := h; rfl)
theorem ok_ratio {fd : FuncData} (T : Fc K mg (Γ0 K)) (F : FunD K "ratio" "ratio" (defArgs (top 11)) (defBody (top 11)) (defScope (top 11)) [] [] (He.ga K "ratio") fd) (G_common_divisor : FnG P w K mg base 1 "common_divisor" (sp_common_divisor (Γ0 K))) : FnOk P w K mg base CX0 2 (He.ga K "ratio") fd ["numerator", "denominator"] (spD K (sp_ratio (Γ0 K))) :=
  fnD F sc_ratio (ln_ratio (Γ0 K)) (fun cdv A outer s0 H E hr => dv_ratio (Γ0 K) T G_common_divisor cdv A outer s0 H E hr) (vc_ratio (Γ0 K))
theorem ln_size (Γ : CL) : ∀ ds μ R, sp_size Γ ds μ R → ds.length = 1 := by
  intro ds μ R h
  first | (unfold sp_size at h; split at h <;> first | rfl | exact h.elim) | (obtain ⟨rfl, _⟩ := h; rfl) | (obtain ⟨_, rfl, _⟩ := h; rfl) | (obtain ⟨_, _, rfl, _⟩ := h; rfl) | (obtain ⟨_, _, _, rfl, _⟩ := h; rfl) | (obtain ⟨_, _, _, _, rfl, _⟩ := h; rfl) | (obtain ⟨_, _, _, _, _, rfl, _⟩ := h; rfl)
theorem ok_size {fd : FuncData} (T : Fc K mg (Γ0 K)) (F : FunD K "size" "size" (defArgs (top 22)) (defBody (top 22)) (defScope (top 22)) [] [] (He.ga K "size") fd) (G_ratio : FnG P w K mg base 2 "ratio" (sp_ratio (Γ0 K))) : FnOk P w K mg base CX0 3 (He.ga K "size") fd ["one"] (spD K (sp_size (Γ0 K))) :=
  fnD F sc_size (ln_size (Γ0 K)) (fun cdv A outer s0 H E hr => dv_size (Γ0 K) T G_ratio cdv A outer s0 H E hr) (vc_size (Γ0 K))
theorem ln_Copy_growth (Γ : CL) : ∀ ds μ R, sp_Copy_growth Γ ds μ R → ds.length = 1 := by
  intro ds μ R h
  first | (unfold sp_Copy_growth at h; split at h <;> first | rfl | exact h.elim) | (obtain ⟨rfl, _⟩ := h; rfl) | (obtain ⟨_, rfl, _⟩ := h; rfl) | (obtain ⟨_, _, rfl, _⟩ := h; rfl) | (obtain ⟨_, _, _, rfl, _⟩ := h; rfl) | (obtain ⟨_, _, _, _, rfl, _⟩ := h; rfl) | (obtain ⟨_, _, _, _, _, rfl, _⟩ := h; rfl)
theorem ok_Copy_growth {fd : FuncData} (T : Fc K mg (Γ0 K)) (F : FunD K "growth" "Copy.growth" (defArgs (inClass (top 28) 5)) (defBody (inClass (top 28) 5)) (defScope (inClass (top 28) 5)) [] [] (gtA K (He.ga K "Copy") "growth") fd) (G_size : FnG P w K mg base 3 "size" (sp_size (Γ0 K))) : FnOk P w K mg base CX0 4 (gtA K (He.ga K "Copy") "growth") fd ["self"] (spD K (sp_Copy_growth (Γ0 K))) :=
  fnD F sc_Copy_growth (ln_Copy_growth (Γ0 K)) (fun cdv A outer s0 H E hr => dv_Copy_growth (Γ0 K) T G_size cdv A outer s0 H E hr) (vc_Copy_growth (Γ0 K))
theorem ln_inverse (Γ : CL) : ∀ ds μ R, sp_inverse Γ ds μ R → ds.length = 1 := by
  intro ds μ R h
  first | (unfold sp_inverse at h; split at h <;> first | rfl | exact h.elim) | (obtain ⟨rfl, _⟩ := h; rfl) | (obtain ⟨_, rfl, _⟩ := h; rfl) | (obtain ⟨_, _, rfl, _⟩ := h; rfl) | (obtain ⟨_, _, _, rfl, _⟩ := h; rfl) | (obtain ⟨_, _, _, _, rfl, _⟩ := h; rfl) | (obtain ⟨_, _, _, _, _, rfl, _⟩ := h; rfl)
theorem ok_inverse {fd : FuncData} (T : Fc K mg (Γ0 K)) (F : FunD K "inverse" "inverse" (defArgs (top 21)) (defBody (top 21)) (defScope (top 21)) [] [] (He.ga K "inverse") fd) (G_lowest : FnG P w K mg base 2 "lowest" (sp_lowest (Γ0 K))) : FnOk P w K mg base CX0 3 (He.ga K "inverse") fd ["one"] (spD K (sp_inverse (Γ0 K))) :=
  fnD F sc_inverse (ln_inverse (Γ0 K)) (fun cdv A outer s0 H E hr => dv_inverse (Γ0 K) T G_lowest cdv A outer s0 H E hr) (vc_inverse (Γ0 K))
theorem ln_Copy___invert (Γ : CL) : ∀ ds μ R, sp_Copy___invert Γ ds μ R → ds.length = 1 := by
  intro ds μ R h
  first | (unfold sp_Copy___invert at h; split at h <;> first | rfl | exact h.elim) | (obtain ⟨rfl, _⟩ := h; rfl) | (obtain ⟨_, rfl, _⟩ := h; rfl) | (obtain ⟨_, _, rfl, _⟩ := h; rfl) | (obtain ⟨_, _, _, rfl, _⟩ := h; rfl) | (obtain ⟨_, _, _, _, rfl, _⟩ := h; rfl) | (obtain ⟨_, _, _, _, _, rfl, _⟩ := h; rfl)
theorem ok_Copy___invert {fd : FuncData} (T : Fc K mg (Γ0 K)) (F : FunD K "__invert__" "Copy.__invert__" (defArgs (inClass (top 28) 4)) (defBody (inClass (top 28) 4)) (defScope (inClass (top 28) 4)) [] [] (He.ma K (He.ga K "Copy") "__invert__") fd) (G_inverse : FnG P w K mg base 3 "inverse" (sp_inverse (Γ0 K))) (G_turned_over : FnG P w K mg base 1 "turned_over" (sp_turned_over (Γ0 K))) (G_opposite : FnG P w K mg base 1 "opposite" (sp_opposite (Γ0 K))) (G_multiplied : FnG P w K mg base 3 "multiplied" (sp_multiplied (Γ0 K))) (G_Copy___init_k_mirrored : MkK P w K mg base 5 "Copy" (Γ0 K).Copy (sp_Copy___init (Γ0 K)) 2 ["mirrored"] gD_Copy_mirrored) : FnOk P w K mg base CX0 7 (He.ma K (He.ga K "Copy") "__invert__") fd ["self"] (spD K (sp_Copy___invert (Γ0 K))) :=
  fnD F sc_Copy___invert (ln_Copy___invert (Γ0 K)) (fun cdv A outer s0 H E hr => dv_Copy___invert (Γ0 K) T G_inverse G_turned_over G_opposite G_multiplied G_Copy___init_k_mirrored cdv A outer s0 H E hr) (vc_Copy___invert (Γ0 K))
theorem ln_zones (Γ : CL) : ∀ ds μ R, sp_zones Γ ds μ R → ds.length = 1 := by
  intro ds μ R h
  first | (unfold sp_zones at h; split at h <;> first | rfl | exact h.elim) | (obtain ⟨rfl, _⟩ := h; rfl) | (obtain ⟨_, rfl, _⟩ := h; rfl) | (obtain ⟨_, _, rfl, _⟩ := h; rfl) | (obtain ⟨_, _, _, rfl, _⟩ := h; rfl) | (obtain ⟨_, _, _, _, rfl, _⟩ := h; rfl) | (obtain ⟨_, _, _, _, _, rfl, _⟩ := h; rfl)
theorem ok_zones {fd : FuncData} (T : Fc K mg (Γ0 K)) (F : FunD K "zones" "zones" (defArgs (top 38)) (defBody (top 38)) (defScope (top 38)) [] [] (He.ga K "zones") fd) (G_copies_ahead : FnG P w K mg base 10 "copies_ahead" (sp_copies_ahead (Γ0 K))) (G_Copy_growth : MtG P w K mg base 4 (Γ0 K).Copy (gtA K (Γ0 K).Copy "growth") (sp_Copy_growth (Γ0 K))) (G_ratio : FnG P w K mg base 2 "ratio" (sp_ratio (Γ0 K))) (G_carried : FnG P w K mg base 4 "carried" (sp_carried (Γ0 K))) (G_Copy___invert : MtG P w K mg base 7 (Γ0 K).Copy (He.ma K (Γ0 K).Copy "__invert__") (sp_Copy___invert (Γ0 K))) : FnOk P w K mg base CX0 11 (He.ga K "zones") fd ["chain"] (spD K (sp_zones (Γ0 K))) :=
  fnD F sc_zones (ln_zones (Γ0 K)) (fun cdv A outer s0 H E hr => dv_zones (Γ0 K) T G_copies_ahead G_Copy_growth G_ratio G_carried G_Copy___invert cdv A outer s0 H E hr) (vc_zones (Γ0 K))
theorem ln_law_ratio (Γ : CL) : ∀ ds μ R, sp_law_ratio Γ ds μ R → ds.length = 2 := by
  intro ds μ R h
  first | (unfold sp_law_ratio at h; split at h <;> first | rfl | exact h.elim) | (obtain ⟨rfl, _⟩ := h; rfl) | (obtain ⟨_, rfl, _⟩ := h; rfl) | (obtain ⟨_, _, rfl, _⟩ := h; rfl) | (obtain ⟨_, _, _, rfl, _⟩ := h; rfl) | (obtain ⟨_, _, _, _, rfl, _⟩ := h; rfl) | (obtain ⟨_, _, _, _, _, rfl, _⟩ := h; rfl)
theorem ok_law_ratio {fd : FuncData} (T : Fc K mg (Γ0 K)) (F : FunD K "_law_ratio" "_law_ratio" (defArgs (top 50)) (defBody (top 50)) (defScope (top 50)) [] [] (He.ga K "_law_ratio") fd) (G_law_lowest : FnG P w K mg base 2 "_law_lowest" (sp_law_lowest (Γ0 K))) : FnOk P w K mg base CX0 3 (He.ga K "_law_ratio") fd ["_law_p", "_law_q"] (spD K (sp_law_ratio (Γ0 K))) :=
  fnD F sc_law_ratio (ln_law_ratio (Γ0 K)) (fun cdv A outer s0 H E hr => dv_law_ratio (Γ0 K) T G_law_lowest cdv A outer s0 H E hr) (vc_law_ratio (Γ0 K))
theorem ln_law_size (Γ : CL) : ∀ ds μ R, sp_law_size Γ ds μ R → ds.length = 1 := by
  intro ds μ R h
  first | (unfold sp_law_size at h; split at h <;> first | rfl | exact h.elim) | (obtain ⟨rfl, _⟩ := h; rfl) | (obtain ⟨_, rfl, _⟩ := h; rfl) | (obtain ⟨_, _, rfl, _⟩ := h; rfl) | (obtain ⟨_, _, _, rfl, _⟩ := h; rfl) | (obtain ⟨_, _, _, _, rfl, _⟩ := h; rfl) | (obtain ⟨_, _, _, _, _, rfl, _⟩ := h; rfl)
theorem ok_law_size {fd : FuncData} (T : Fc K mg (Γ0 K)) (F : FunD K "_law_size" "_law_size" (defArgs (top 51)) (defBody (top 51)) (defScope (top 51)) [] [] (He.ga K "_law_size") fd) (G_law_ratio : FnG P w K mg base 3 "_law_ratio" (sp_law_ratio (Γ0 K))) : FnOk P w K mg base CX0 4 (He.ga K "_law_size") fd ["_law_one"] (spD K (sp_law_size (Γ0 K))) :=
  fnD F sc_law_size (ln_law_size (Γ0 K)) (fun cdv A outer s0 H E hr => dv_law_size (Γ0 K) T G_law_ratio cdv A outer s0 H E hr) (vc_law_size (Γ0 K))
theorem ln_law_plus (Γ : CL) : ∀ ds μ R, sp_law_plus Γ ds μ R → ds.length = 2 := by
  intro ds μ R h
  first | (unfold sp_law_plus sp_added at h; split at h <;> first | rfl | exact h.elim) | (replace h : sp_added Γ ds μ R := h; obtain ⟨_, _, rfl, _⟩ := h; rfl) | (obtain ⟨rfl, _⟩ := h; rfl) | (obtain ⟨_, rfl, _⟩ := h; rfl) | (obtain ⟨_, _, rfl, _⟩ := h; rfl) | (obtain ⟨_, _, _, rfl, _⟩ := h; rfl) | (obtain ⟨_, _, _, _, rfl, _⟩ := h; rfl) | (obtain ⟨_, _, _, _, _, rfl, _⟩ := h; rfl)
theorem ok_law_plus {fd : FuncData} (T : Fc K mg (Γ0 K)) (F : FunD K "_law_plus" "_law_plus" (defArgs (top 52)) (defBody (top 52)) (defScope (top 52)) [] [] (He.ga K "_law_plus") fd) (G_law_lowest : FnG P w K mg base 2 "_law_lowest" (sp_law_lowest (Γ0 K))) : FnOk P w K mg base CX0 3 (He.ga K "_law_plus") fd ["_law_one", "_law_other"] (spD K (sp_law_plus (Γ0 K))) :=
  fnD F sc_law_plus (ln_law_plus (Γ0 K)) (fun cdv A outer s0 H E hr => dv_law_plus (Γ0 K) T G_law_lowest cdv A outer s0 H E hr) (vc_law_plus (Γ0 K))
theorem ln_law_minus (Γ : CL) : ∀ ds μ R, sp_law_minus Γ ds μ R → ds.length = 2 := by
  intro ds μ R h
  first | (unfold sp_law_minus sp_less at h; split at h <;> first | rfl | exact h.elim) | (replace h : sp_less Γ ds μ R := h; obtain ⟨_, _, rfl, _⟩ := h; rfl) | (obtain ⟨rfl, _⟩ := h; rfl) | (obtain ⟨_, rfl, _⟩ := h; rfl) | (obtain ⟨_, _, rfl, _⟩ := h; rfl) | (obtain ⟨_, _, _, rfl, _⟩ := h; rfl) | (obtain ⟨_, _, _, _, rfl, _⟩ := h; rfl) | (obtain ⟨_, _, _, _, _, rfl, _⟩ := h; rfl)
theorem ok_law_minus {fd : FuncData} (T : Fc K mg (Γ0 K)) (F : FunD K "_law_minus" "_law_minus" (defArgs (top 53)) (defBody (top 53)) (defScope (top 53)) [] [] (He.ga K "_law_minus") fd) (G_law_plus : FnG P w K mg base 3 "_law_plus" (sp_law_plus (Γ0 K))) : FnOk P w K mg base CX0 4 (He.ga K "_law_minus") fd ["_law_one", "_law_other"] (spD K (sp_law_minus (Γ0 K))) :=
  fnD F sc_law_minus (ln_law_minus (Γ0 K)) (fun cdv A outer s0 H E hr => dv_law_minus (Γ0 K) T G_law_plus cdv A outer s0 H E hr) (vc_law_minus (Γ0 K))
theorem ln_law_less (Γ : CL) : ∀ ds μ R, sp_law_less Γ ds μ R → ds.length = 2 := by
  intro ds μ R h
  first | (unfold sp_law_less at h; split at h <;> first | rfl | exact h.elim) | (obtain ⟨rfl, _⟩ := h; rfl) | (obtain ⟨_, rfl, _⟩ := h; rfl) | (obtain ⟨_, _, rfl, _⟩ := h; rfl) | (obtain ⟨_, _, _, rfl, _⟩ := h; rfl) | (obtain ⟨_, _, _, _, rfl, _⟩ := h; rfl) | (obtain ⟨_, _, _, _, _, rfl, _⟩ := h; rfl)
theorem ok_law_less {fd : FuncData} (T : Fc K mg (Γ0 K)) (F : FunD K "_law_less" "_law_less" (defArgs (top 54)) (defBody (top 54)) (defScope (top 54)) [] [] (He.ga K "_law_less") fd)  : FnOk P w K mg base CX0 1 (He.ga K "_law_less") fd ["_law_one", "_law_other"] (spD K (sp_law_less (Γ0 K))) :=
  fnD F sc_law_less (ln_law_less (Γ0 K)) (fun cdv A outer s0 H E hr => dv_law_less (Γ0 K) T  cdv A outer s0 H E hr) (vc_law_less (Γ0 K))
theorem ln_law_reached (Γ : CL) : ∀ ds μ R, sp_law_reached Γ ds μ R → ds.length = 2 := by
  intro ds μ R h
  first | (unfold sp_law_reached at h; split at h <;> first | rfl | exact h.elim) | (obtain ⟨rfl, _⟩ := h; rfl) | (obtain ⟨_, rfl, _⟩ := h; rfl) | (obtain ⟨_, _, rfl, _⟩ := h; rfl) | (obtain ⟨_, _, _, rfl, _⟩ := h; rfl) | (obtain ⟨_, _, _, _, rfl, _⟩ := h; rfl) | (obtain ⟨_, _, _, _, _, rfl, _⟩ := h; rfl)
theorem ok_law_reached {fd : FuncData} (T : Fc K mg (Γ0 K)) (F : FunD K "_law_reached" "_law_reached" (defArgs (top 55)) (defBody (top 55)) (defScope (top 55)) [] [] (He.ga K "_law_reached") fd) (G_law_size : FnG P w K mg base 4 "_law_size" (sp_law_size (Γ0 K))) (G_law_minus : FnG P w K mg base 4 "_law_minus" (sp_law_minus (Γ0 K))) (G_law_less : FnG P w K mg base 1 "_law_less" (sp_law_less (Γ0 K))) : FnOk P w K mg base CX0 5 (He.ga K "_law_reached") fd ["_law_told", "_law_spot_here"] (spD K (sp_law_reached (Γ0 K))) :=
  fnD F sc_law_reached (ln_law_reached (Γ0 K)) (fun cdv A outer s0 H E hr => dv_law_reached (Γ0 K) T G_law_size G_law_minus G_law_less cdv A outer s0 H E hr) (vc_law_reached (Γ0 K))
theorem ln_law_times (Γ : CL) : ∀ ds μ R, sp_law_times Γ ds μ R → ds.length = 2 := by
  intro ds μ R h
  first | (unfold sp_law_times sp_multiplied at h; split at h <;> first | rfl | exact h.elim) | (replace h : sp_multiplied Γ ds μ R := h; obtain ⟨_, _, rfl, _⟩ := h; rfl) | (obtain ⟨rfl, _⟩ := h; rfl) | (obtain ⟨_, rfl, _⟩ := h; rfl) | (obtain ⟨_, _, rfl, _⟩ := h; rfl) | (obtain ⟨_, _, _, rfl, _⟩ := h; rfl) | (obtain ⟨_, _, _, _, rfl, _⟩ := h; rfl) | (obtain ⟨_, _, _, _, _, rfl, _⟩ := h; rfl)
theorem ok_law_times {fd : FuncData} (T : Fc K mg (Γ0 K)) (F : FunD K "_law_times" "_law_times" (defArgs (top 56)) (defBody (top 56)) (defScope (top 56)) [] [] (He.ga K "_law_times") fd) (G_law_lowest : FnG P w K mg base 2 "_law_lowest" (sp_law_lowest (Γ0 K))) : FnOk P w K mg base CX0 3 (He.ga K "_law_times") fd ["_law_one", "_law_other"] (spD K (sp_law_times (Γ0 K))) :=
  fnD F sc_law_times (ln_law_times (Γ0 K)) (fun cdv A outer s0 H E hr => dv_law_times (Γ0 K) T G_law_lowest cdv A outer s0 H E hr) (vc_law_times (Γ0 K))
theorem ln_law_over (Γ : CL) : ∀ ds μ R, sp_law_over Γ ds μ R → ds.length = 1 := by
  intro ds μ R h
  first | (unfold sp_law_over sp_turned_over at h; split at h <;> first | rfl | exact h.elim) | (replace h : sp_turned_over Γ ds μ R := h; obtain ⟨_, _, rfl, _⟩ := h; rfl) | (obtain ⟨rfl, _⟩ := h; rfl) | (obtain ⟨_, rfl, _⟩ := h; rfl) | (obtain ⟨_, _, rfl, _⟩ := h; rfl) | (obtain ⟨_, _, _, rfl, _⟩ := h; rfl) | (obtain ⟨_, _, _, _, rfl, _⟩ := h; rfl) | (obtain ⟨_, _, _, _, _, rfl, _⟩ := h; rfl)
theorem ok_law_over {fd : FuncData} (T : Fc K mg (Γ0 K)) (F : FunD K "_law_over" "_law_over" (defArgs (top 57)) (defBody (top 57)) (defScope (top 57)) [] [] (He.ga K "_law_over") fd)  : FnOk P w K mg base CX0 1 (He.ga K "_law_over") fd ["_law_one"] (spD K (sp_law_over (Γ0 K))) :=
  fnD F sc_law_over (ln_law_over (Γ0 K)) (fun cdv A outer s0 H E hr => dv_law_over (Γ0 K) T  cdv A outer s0 H E hr) (vc_law_over (Γ0 K))
theorem ln_law_carried (Γ : CL) : ∀ ds μ R, sp_law_carried Γ ds μ R → ds.length = 2 := by
  intro ds μ R h
  first | (unfold sp_law_carried at h; split at h <;> first | rfl | exact h.elim) | (obtain ⟨rfl, _⟩ := h; rfl) | (obtain ⟨_, rfl, _⟩ := h; rfl) | (obtain ⟨_, _, rfl, _⟩ := h; rfl) | (obtain ⟨_, _, _, rfl, _⟩ := h; rfl) | (obtain ⟨_, _, _, _, rfl, _⟩ := h; rfl) | (obtain ⟨_, _, _, _, _, rfl, _⟩ := h; rfl)
theorem ok_law_carried {fd : FuncData} (T : Fc K mg (Γ0 K)) (F : FunD K "_law_carried" "_law_carried" (defArgs (top 58)) (defBody (top 58)) (defScope (top 58)) [] [] (He.ga K "_law_carried") fd) (G_law_plus : FnG P w K mg base 3 "_law_plus" (sp_law_plus (Γ0 K))) (G_law_times : FnG P w K mg base 3 "_law_times" (sp_law_times (Γ0 K))) (G_law_over : FnG P w K mg base 1 "_law_over" (sp_law_over (Γ0 K))) : FnOk P w K mg base CX0 4 (He.ga K "_law_carried") fd ["_law_told", "_law_spot_here"] (spD K (sp_law_carried (Γ0 K))) :=
  fnD F sc_law_carried (ln_law_carried (Γ0 K)) (fun cdv A outer s0 H E hr => dv_law_carried (Γ0 K) T G_law_plus G_law_times G_law_over cdv A outer s0 H E hr) (vc_law_carried (Γ0 K))
theorem ln_law_about (Γ : CL) : ∀ ds μ R, sp_law_about Γ ds μ R → ds.length = 1 := by
  intro ds μ R h
  first | (unfold sp_law_about at h; split at h <;> first | rfl | exact h.elim) | (obtain ⟨rfl, _⟩ := h; rfl) | (obtain ⟨_, rfl, _⟩ := h; rfl) | (obtain ⟨_, _, rfl, _⟩ := h; rfl) | (obtain ⟨_, _, _, rfl, _⟩ := h; rfl) | (obtain ⟨_, _, _, _, rfl, _⟩ := h; rfl) | (obtain ⟨_, _, _, _, _, rfl, _⟩ := h; rfl)
theorem ok_law_about {fd : FuncData} (T : Fc K mg (Γ0 K)) (F : FunD K "_law_about" "_law_about" (defArgs (top 59)) (defBody (top 59)) (defScope (top 59)) [] [] (He.ga K "_law_about") fd) (G_law_times : FnG P w K mg base 3 "_law_times" (sp_law_times (Γ0 K))) (G_law_over : FnG P w K mg base 1 "_law_over" (sp_law_over (Γ0 K))) (G_law_minus : FnG P w K mg base 4 "_law_minus" (sp_law_minus (Γ0 K))) : FnOk P w K mg base CX0 5 (He.ga K "_law_about") fd ["_law_told"] (spD K (sp_law_about (Γ0 K))) :=
  fnD F sc_law_about (ln_law_about (Γ0 K)) (fun cdv A outer s0 H E hr => dv_law_about (Γ0 K) T G_law_times G_law_over G_law_minus cdv A outer s0 H E hr) (vc_law_about (Γ0 K))
theorem ln_law_equal (Γ : CL) (m : Nat) : ∀ ds μ R, sp_law_equal Γ (m + 1) ds μ R → ds.length = 2 := by
  intro ds μ R h
  replace h : eqSp m ds μ R := h
  unfold eqSp at h
  split at h <;> first | rfl | exact h.elim
theorem ok_law_equal {fd : FuncData} (T : Fc K mg (Γ0 K)) (F : FunD K "_law_equal" "_law_equal" (defArgs (top 60)) (defBody (top 60)) (defScope (top 60)) [] [] (He.ga K "_law_equal") fd) {k m : Nat} (G_law_equal : FnG P w K mg base k "_law_equal" (sp_law_equal (Γ0 K) m)) : FnOk P w K mg base CX0 (k + 1) (He.ga K "_law_equal") fd ["_law_actual", "_law_expected"] (spD K (sp_law_equal (Γ0 K) (m + 1))) :=
  fnD F sc_law_equal (ln_law_equal (Γ0 K) m) (fun cdv A outer s0 H E hr => dv_law_equal (Γ0 K) T G_law_equal cdv A outer s0 H E hr) (vc_law_equal (Γ0 K) m)
theorem ok_law {fd : FuncData} (T : Fc K mg (Γ0 K)) (F : FunD K "law" "law" (defArgs (top 61)) (defBody (top 61)) (defScope (top 61)) [] [] (He.ga K "law") fd) (G_law_random : FnG P w K mg base 1 "_law_random" (sp_law_random (Γ0 K))) (G_law_below : FnG P w K mg base 1 "_law_below" (sp_law_below (Γ0 K))) (G_law_arm_told : FnG P w K mg base 4 "_law_arm_told" (sp_law_arm_told (Γ0 K))) (G_law_chain : FnG P w K mg base 8 "_law_chain" (sp_law_chain (Γ0 K))) (G_zones : FnG P w K mg base 11 "zones" (sp_zones (Γ0 K))) (G_law_spot : FnG P w K mg base 3 "_law_spot" (sp_law_spot (Γ0 K))) (G_law_size : FnG P w K mg base 4 "_law_size" (sp_law_size (Γ0 K))) (G_law_minus : FnG P w K mg base 4 "_law_minus" (sp_law_minus (Γ0 K))) (G_law_less : FnG P w K mg base 1 "_law_less" (sp_law_less (Γ0 K))) (G_law_reached : FnG P w K mg base 5 "_law_reached" (sp_law_reached (Γ0 K))) (G_law_carried : FnG P w K mg base 4 "_law_carried" (sp_law_carried (Γ0 K))) (G_law_about : FnG P w K mg base 5 "_law_about" (sp_law_about (Γ0 K))) (G_law_times : FnG P w K mg base 3 "_law_times" (sp_law_times (Γ0 K))) (G_law_ratio : FnG P w K mg base 3 "_law_ratio" (sp_law_ratio (Γ0 K))) (G_law_equal : FnG P w K mg base 5 "_law_equal" (sp_law_equal (Γ0 K) 5)) (G_Chain___init : MkS P w K mg base 1 "Chain" (Γ0 K).Chain (sp_Chain___init (Γ0 K))) : FnOk P w K mg base CX0 12 (He.ga K "law") fd ["_law_script"] (spD K lawS) :=
  fnD F sc_law (fun ds μ R h => by obtain ⟨ns, rfl, _⟩ := h; rfl) (fun cdv A outer s0 H E hr => dv_law (Γ0 K) T G_law_random G_law_below G_law_arm_told G_law_chain G_zones G_law_spot G_law_size G_law_minus G_law_less G_law_reached G_law_carried G_law_about G_law_times G_law_ratio G_law_equal G_Chain___init cdv A outer s0 H E hr) (vc_law (Γ0 K))
end
def d_law_random : He.DefD := ⟨("_law_random", none), "_law_random", "_law_random", defArgs (top 40), defBody (top 40), defScope (top 40), [], []⟩
def d_law_below : He.DefD := ⟨("_law_below", none), "_law_below", "_law_below", defArgs (top 41), defBody (top 41), defScope (top 41), [], []⟩
def d_law_step : He.DefD := ⟨("_law_step", none), "_law_step", "_law_step", defArgs (top 42), defBody (top 42), defScope (top 42), [], []⟩
def d_law_common : He.DefD := ⟨("_law_common", none), "_law_common", "_law_common", defArgs (top 43), defBody (top 43), defScope (top 43), [], []⟩
def d_law_lowest : He.DefD := ⟨("_law_lowest", none), "_law_lowest", "_law_lowest", defArgs (top 44), defBody (top 44), defScope (top 44), [], []⟩
def d_law_spot : He.DefD := ⟨("_law_spot", none), "_law_spot", "_law_spot", defArgs (top 45), defBody (top 45), defScope (top 45), [], []⟩
def d_law_turn : He.DefD := ⟨("_law_turn", none), "_law_turn", "_law_turn", defArgs (top 46), defBody (top 46), defScope (top 46), [], []⟩
def d_law_arm_told : He.DefD := ⟨("_law_arm_told", none), "_law_arm_told", "_law_arm_told", defArgs (top 47), defBody (top 47), defScope (top 47), [], []⟩
def d_Chain___init : He.DefD := ⟨("Chain", some "__init__"), "__init__", "Chain.__init__", defArgs (inClass (top 36) 0), defBody (inClass (top 36) 0), defScope (inClass (top 36) 0), [], []⟩
def d_is_int : He.DefD := ⟨("is_int", none), "is_int", "is_int", defArgs (top 9), defBody (top 9), defScope (top 9), [], []⟩
def d_common_divisor : He.DefD := ⟨("common_divisor", none), "common_divisor", "common_divisor", defArgs (top 10), defBody (top 10), defScope (top 10), [], []⟩
def d_lowest : He.DefD := ⟨("lowest", none), "lowest", "lowest", defArgs (top 12), defBody (top 12), defScope (top 12), [], []⟩
def d_is_number : He.DefD := ⟨("is_number", none), "is_number", "is_number", defArgs (top 15), defBody (top 15), defScope (top 15), [], []⟩
def d_check_spot : He.DefD := ⟨("check_spot", none), "check_spot", "check_spot", defArgs (top 25), defBody (top 25), defScope (top 25), [], []⟩
def d_check_turn : He.DefD := ⟨("check_turn", none), "check_turn", "check_turn", defArgs (top 26), defBody (top 26), defScope (top 26), [], []⟩
def d_is_int_in : He.DefD := ⟨("is_int_in", none), "is_int_in", "is_int_in", defArgs (top 8), defBody (top 8), defScope (top 8), [], []⟩
def d_Arm___init : He.DefD := ⟨("Arm", some "__init__"), "__init__", "Arm.__init__", defArgs (inClass (top 31) 0), defBody (inClass (top 31) 0), defScope (inClass (top 31) 0), [], [("mirrored", (.bl false))]⟩
def d_law_arm : He.DefD := ⟨("_law_arm", none), "_law_arm", "_law_arm", defArgs (top 48), defBody (top 48), defScope (top 48), [], []⟩
def d_Chain___add : He.DefD := ⟨("Chain", some "__add__"), "__add__", "Chain.__add__", defArgs (inClass (top 36) 5), defBody (inClass (top 36) 5), defScope (inClass (top 36) 5), [], []⟩
def d_law_chain : He.DefD := ⟨("_law_chain", none), "_law_chain", "_law_chain", defArgs (top 49), defBody (top 49), defScope (top 49), [], []⟩
def d_Copy___init : He.DefD := ⟨("Copy", some "__init__"), "__init__", "Copy.__init__", defArgs (inClass (top 28) 0), defBody (inClass (top 28) 0), defScope (inClass (top 28) 0), [], [("mirrored", (.bl false))]⟩
def d_multiplied : He.DefD := ⟨("multiplied", none), "multiplied", "multiplied", defArgs (top 19), defBody (top 19), defScope (top 19), [], []⟩
def d_turned_over : He.DefD := ⟨("turned_over", none), "turned_over", "turned_over", defArgs (top 20), defBody (top 20), defScope (top 20), [], []⟩
def d_added : He.DefD := ⟨("added", none), "added", "added", defArgs (top 16), defBody (top 16), defScope (top 16), [], []⟩
def d_opposite : He.DefD := ⟨("opposite", none), "opposite", "opposite", defArgs (top 17), defBody (top 17), defScope (top 17), [], []⟩
def d_less : He.DefD := ⟨("less", none), "less", "less", defArgs (top 18), defBody (top 18), defScope (top 18), [], []⟩
def d_copy_about : He.DefD := ⟨("copy_about", none), "copy_about", "copy_about", defArgs (top 32), defBody (top 32), defScope (top 32), [], []⟩
def d_carried : He.DefD := ⟨("carried", none), "carried", "carried", defArgs (top 27), defBody (top 27), defScope (top 27), [], []⟩
def d_Copy___rshift : He.DefD := ⟨("Copy", some "__rshift__"), "__rshift__", "Copy.__rshift__", defArgs (inClass (top 28) 3), defBody (inClass (top 28) 3), defScope (inClass (top 28) 3), [], []⟩
def d_copies_ahead : He.DefD := ⟨("copies_ahead", none), "copies_ahead", "copies_ahead", defArgs (top 37), defBody (top 37), defScope (top 37), [], []⟩
def d_ratio : He.DefD := ⟨("ratio", none), "ratio", "ratio", defArgs (top 11), defBody (top 11), defScope (top 11), [], []⟩
def d_size : He.DefD := ⟨("size", none), "size", "size", defArgs (top 22), defBody (top 22), defScope (top 22), [], []⟩
def d_inverse : He.DefD := ⟨("inverse", none), "inverse", "inverse", defArgs (top 21), defBody (top 21), defScope (top 21), [], []⟩
def d_Copy___invert : He.DefD := ⟨("Copy", some "__invert__"), "__invert__", "Copy.__invert__", defArgs (inClass (top 28) 4), defBody (inClass (top 28) 4), defScope (inClass (top 28) 4), [], []⟩
def d_zones : He.DefD := ⟨("zones", none), "zones", "zones", defArgs (top 38), defBody (top 38), defScope (top 38), [], []⟩
def d_law_ratio : He.DefD := ⟨("_law_ratio", none), "_law_ratio", "_law_ratio", defArgs (top 50), defBody (top 50), defScope (top 50), [], []⟩
def d_law_size : He.DefD := ⟨("_law_size", none), "_law_size", "_law_size", defArgs (top 51), defBody (top 51), defScope (top 51), [], []⟩
def d_law_plus : He.DefD := ⟨("_law_plus", none), "_law_plus", "_law_plus", defArgs (top 52), defBody (top 52), defScope (top 52), [], []⟩
def d_law_minus : He.DefD := ⟨("_law_minus", none), "_law_minus", "_law_minus", defArgs (top 53), defBody (top 53), defScope (top 53), [], []⟩
def d_law_less : He.DefD := ⟨("_law_less", none), "_law_less", "_law_less", defArgs (top 54), defBody (top 54), defScope (top 54), [], []⟩
def d_law_reached : He.DefD := ⟨("_law_reached", none), "_law_reached", "_law_reached", defArgs (top 55), defBody (top 55), defScope (top 55), [], []⟩
def d_law_times : He.DefD := ⟨("_law_times", none), "_law_times", "_law_times", defArgs (top 56), defBody (top 56), defScope (top 56), [], []⟩
def d_law_over : He.DefD := ⟨("_law_over", none), "_law_over", "_law_over", defArgs (top 57), defBody (top 57), defScope (top 57), [], []⟩
def d_law_carried : He.DefD := ⟨("_law_carried", none), "_law_carried", "_law_carried", defArgs (top 58), defBody (top 58), defScope (top 58), [], []⟩
def d_law_about : He.DefD := ⟨("_law_about", none), "_law_about", "_law_about", defArgs (top 59), defBody (top 59), defScope (top 59), [], []⟩
def d_law_equal : He.DefD := ⟨("_law_equal", none), "_law_equal", "_law_equal", defArgs (top 60), defBody (top 60), defScope (top 60), [], []⟩
def d_law : He.DefD := ⟨("law", none), "law", "law", defArgs (top 61), defBody (top 61), defScope (top 61), [], []⟩
def x_Arm_effect : FnX := ⟨fun K => (gtA K (He.ga K "Arm") "effect"), "effect", "Arm.effect", defArgs (inClass (top 31) 1), defBody (inClass (top 31) 1), defScope (inClass (top 31) 1)⟩
def x_Copy_growth : FnX := ⟨fun K => (gtA K (He.ga K "Copy") "growth"), "growth", "Copy.growth", defArgs (inClass (top 28) 5), defBody (inClass (top 28) 5), defScope (inClass (top 28) 5)⟩
def fn : List He.DefD := [d_law_random, d_law_below, d_law_step, d_law_common, d_law_lowest, d_law_spot, d_law_turn, d_law_arm_told, d_Chain___init, d_is_int, d_common_divisor, d_lowest, d_is_number, d_check_spot, d_check_turn, d_is_int_in, d_Arm___init, d_law_arm, d_Chain___add, d_law_chain, d_Copy___init, d_multiplied, d_turned_over, d_added, d_opposite, d_less, d_copy_about, d_carried, d_Copy___rshift, d_copies_ahead, d_ratio, d_size, d_inverse, d_Copy___invert, d_zones, d_law_ratio, d_law_size, d_law_plus, d_law_minus, d_law_less, d_law_reached, d_law_times, d_law_over, d_law_carried, d_law_about, d_law_equal, d_law]
def fx : List FnX := [x_Arm_effect, x_Copy_growth]
def fa : List (He.Fa) := ([.free "abs", .free "len", .int "MAX_ARMS" 6, .cls "Chain", .noat "Chain" "arms", .free "bool", .free "int", .free "isinstance", .free "all", .free "tuple", .glo "ZERO", .int "MAX_REACH" 1000, .cls "Arm", .noat "Arm" "far", .noat "Arm" "key", .noat "Arm" "mirrored", .noat "Arm" "near", .noat "Arm" "pole", .noat "Arm" "turn", .meth "Chain" "__add__", .cls "Copy", .noat "Copy" "key", .noat "Copy" "mirrored", .noat "Copy" "shift", .noat "Copy" "turn", .glo "ONE", .meth "Copy" "__rshift__", .free "zip", .meth "Copy" "__invert__", .free "list"] : List (He.Fa)) ++ ([.free "range", .free "str", .glo "Arm", .mkr "Arm", .glo "Chain", .mkr "Chain", .glo "Copy", .mkr "Copy", .glo "_law_random", .glo "_law_below", .glo "_law_step", .glo "_law_common", .glo "_law_lowest", .glo "_law_spot", .glo "_law_turn", .glo "_law_arm_told", .glo "is_int", .glo "common_divisor", .glo "lowest", .glo "is_number", .glo "check_spot", .glo "check_turn", .glo "is_int_in", .glo "_law_arm", .glo "_law_chain", .glo "multiplied", .glo "turned_over", .glo "added", .glo "opposite", .glo "less"] : List (He.Fa)) ++ ([.glo "copy_about", .glo "carried", .glo "copies_ahead", .glo "ratio", .glo "size", .glo "inverse", .glo "zones", .glo "_law_ratio", .glo "_law_size", .glo "_law_plus", .glo "_law_minus", .glo "_law_less", .glo "_law_reached", .glo "_law_times", .glo "_law_over", .glo "_law_carried", .glo "_law_about", .glo "_law_equal", .glo "law"] : List (He.Fa))
def xb : List (PySem.W.Frag → Bool) := ([(fun K => He.tupB K "ZERO" [(.int 0), (.int 0), (.int 1)]), (fun K => PySem.W.selfFirst K (He.ga K "Chain")), (fun K => He.tupB K "ONE" [(.int 1), (.int 0), (.int 1)]), (fun K => PySem.W.selfFirst K (He.ga K "Copy")), (fun K => propB K (He.ga K "Arm") "effect"), (fun K => propB K (He.ga K "Copy") "growth")] : List (PySem.W.Frag → Bool))
theorem fc {K : PySem.W.Frag} {h : Heap} {mg : Str → Option Value} (X : K.In h) (G : h.Ns mainGlobals mg) (c : obsX xb fa fn fx K = valX fn fx) : Fc K mg (Γ0 K) :=
  let d := says_d c
  { f_abs := He.free_ok X G (d.fact 0 (f := .free "abs") rfl),
    f_len := He.free_ok X G (d.fact 1 (f := .free "len") rfl),
    c_MAX_ARMS := (let ⟨t, e⟩ := He.int_ok X G (d.fact 2 (f := .int "MAX_ARMS" 6) rfl); ⟨.int _ t, .int _, e, ⟨t, rfl⟩, fun S => .int _⟩),
    cl_Chain := He.cls_ok (d.fact 3 (f := .cls "Chain") rfl),
    n_Chain_arms := He.noat_ok (d.fact 4 (f := .noat "Chain" "arms") rfl),
    f_bool := He.free_ok X G (d.fact 5 (f := .free "bool") rfl),
    f_int := He.free_ok X G (d.fact 6 (f := .free "int") rfl),
    f_isinstance := He.free_ok X G (d.fact 7 (f := .free "isinstance") rfl),
    f_all := He.free_ok X G (d.fact 8 (f := .free "all") rfl),
    f_tuple := He.free_ok X G (d.fact 9 (f := .free "tuple") rfl),
    c_ZERO := constTup (He.glo_ok X G (d.fact 10 (f := .glo "ZERO") rfl)) (says_b c 0 (b := fun K => He.tupB K "ZERO" [(.int 0), (.int 0), (.int 1)]) rfl) (fun S => (.cons (.int _) (.cons (.int _) (.cons (.int _) .nil)))),
    c_MAX_REACH := (let ⟨t, e⟩ := He.int_ok X G (d.fact 11 (f := .int "MAX_REACH" 1000) rfl); ⟨.int _ t, .int _, e, ⟨t, rfl⟩, fun S => .int _⟩),
    cl_Arm := He.cls_ok (d.fact 12 (f := .cls "Arm") rfl),
    n_Arm_far := He.noat_ok (d.fact 13 (f := .noat "Arm" "far") rfl),
    n_Arm_key := He.noat_ok (d.fact 14 (f := .noat "Arm" "key") rfl),
    n_Arm_mirrored := He.noat_ok (d.fact 15 (f := .noat "Arm" "mirrored") rfl),
    n_Arm_near := He.noat_ok (d.fact 16 (f := .noat "Arm" "near") rfl),
    n_Arm_pole := He.noat_ok (d.fact 17 (f := .noat "Arm" "pole") rfl),
    n_Arm_turn := He.noat_ok (d.fact 18 (f := .noat "Arm" "turn") rfl),
    sf_Chain := says_b c 1 (b := fun K => PySem.W.selfFirst K (He.ga K "Chain")) rfl,
    w_Chain___add := (He.meth_ok (d.fact 19 (f := .meth "Chain" "__add__") rfl)).at_,
    v_Chain___add := (He.meth_ok (d.fact 19 (f := .meth "Chain" "__add__") rfl)).fn,
    cl_Copy := He.cls_ok (d.fact 20 (f := .cls "Copy") rfl),
    n_Copy_key := He.noat_ok (d.fact 21 (f := .noat "Copy" "key") rfl),
    n_Copy_mirrored := He.noat_ok (d.fact 22 (f := .noat "Copy" "mirrored") rfl),
    n_Copy_shift := He.noat_ok (d.fact 23 (f := .noat "Copy" "shift") rfl),
    n_Copy_turn := He.noat_ok (d.fact 24 (f := .noat "Copy" "turn") rfl),
    c_ONE := constTup (He.glo_ok X G (d.fact 25 (f := .glo "ONE") rfl)) (says_b c 2 (b := fun K => He.tupB K "ONE" [(.int 1), (.int 0), (.int 1)]) rfl) (fun S => (.cons (.int _) (.cons (.int _) (.cons (.int _) .nil)))),
    sf_Copy := says_b c 3 (b := fun K => PySem.W.selfFirst K (He.ga K "Copy")) rfl,
    w_Copy___rshift := (He.meth_ok (d.fact 26 (f := .meth "Copy" "__rshift__") rfl)).at_,
    v_Copy___rshift := (He.meth_ok (d.fact 26 (f := .meth "Copy" "__rshift__") rfl)).fn,
    p_Arm_effect := propB_ok (says_b c 4 (b := fun K => propB K (He.ga K "Arm") "effect") rfl),
    f_zip := He.free_ok X G (d.fact 27 (f := .free "zip") rfl),
    w_Copy___invert := (He.meth_ok (d.fact 28 (f := .meth "Copy" "__invert__") rfl)).at_,
    v_Copy___invert := (He.meth_ok (d.fact 28 (f := .meth "Copy" "__invert__") rfl)).fn,
    p_Copy_growth := propB_ok (says_b c 5 (b := fun K => propB K (He.ga K "Copy") "growth") rfl),
    f_list := He.free_ok X G (d.fact 29 (f := .free "list") rfl),
    f_range := He.free_ok X G (d.fact 30 (f := .free "range") rfl),
    f_str := He.free_ok X G (d.fact 31 (f := .free "str") rfl) }
theorem all {P : Program} {w : World} {K : PySem.W.Frag} {h : Heap} {mg : Str → Option Value} (X : K.In h) (G : h.Ns mainGlobals mg) (c : obsX xb fa fn fx K = valX fn fx) :
    ∃ fd : FuncData, mg "law" = some (.ref (He.ga K "law")) ∧ (∀ (s : Shared) (v : Value), BindsTo s fd ⟨[v], []⟩ [("_law_script", v)]) ∧ ∀ base : Heap, FnOk P w K mg base CX0 12 (He.ga K "law") fd ["_law_script"] (spLaw K) := by
  have T := fc X G c
  have d := says_d c
  obtain ⟨fd_law_random, F_law_random⟩ : ∃ fd, FunD K "_law_random" "_law_random" (defArgs (top 40)) (defBody (top 40)) (defScope (top 40)) [] [] (He.ga K "_law_random") fd := d.def_ 0 (d := d_law_random) rfl
  have g_law_random : mg "_law_random" = some (.ref (He.ga K "_law_random")) := He.glo_ok X G (d.fact 38 (f := .glo "_law_random") rfl)
  obtain ⟨fd_law_below, F_law_below⟩ : ∃ fd, FunD K "_law_below" "_law_below" (defArgs (top 41)) (defBody (top 41)) (defScope (top 41)) [] [] (He.ga K "_law_below") fd := d.def_ 1 (d := d_law_below) rfl
  have g_law_below : mg "_law_below" = some (.ref (He.ga K "_law_below")) := He.glo_ok X G (d.fact 39 (f := .glo "_law_below") rfl)
  obtain ⟨fd_law_step, F_law_step⟩ : ∃ fd, FunD K "_law_step" "_law_step" (defArgs (top 42)) (defBody (top 42)) (defScope (top 42)) [] [] (He.ga K "_law_step") fd := d.def_ 2 (d := d_law_step) rfl
  have g_law_step : mg "_law_step" = some (.ref (He.ga K "_law_step")) := He.glo_ok X G (d.fact 40 (f := .glo "_law_step") rfl)
  obtain ⟨fd_law_common, F_law_common⟩ : ∃ fd, FunD K "_law_common" "_law_common" (defArgs (top 43)) (defBody (top 43)) (defScope (top 43)) [] [] (He.ga K "_law_common") fd := d.def_ 3 (d := d_law_common) rfl
  have g_law_common : mg "_law_common" = some (.ref (He.ga K "_law_common")) := He.glo_ok X G (d.fact 41 (f := .glo "_law_common") rfl)
  obtain ⟨fd_law_lowest, F_law_lowest⟩ : ∃ fd, FunD K "_law_lowest" "_law_lowest" (defArgs (top 44)) (defBody (top 44)) (defScope (top 44)) [] [] (He.ga K "_law_lowest") fd := d.def_ 4 (d := d_law_lowest) rfl
  have g_law_lowest : mg "_law_lowest" = some (.ref (He.ga K "_law_lowest")) := He.glo_ok X G (d.fact 42 (f := .glo "_law_lowest") rfl)
  obtain ⟨fd_law_spot, F_law_spot⟩ : ∃ fd, FunD K "_law_spot" "_law_spot" (defArgs (top 45)) (defBody (top 45)) (defScope (top 45)) [] [] (He.ga K "_law_spot") fd := d.def_ 5 (d := d_law_spot) rfl
  have g_law_spot : mg "_law_spot" = some (.ref (He.ga K "_law_spot")) := He.glo_ok X G (d.fact 43 (f := .glo "_law_spot") rfl)
  obtain ⟨fd_law_turn, F_law_turn⟩ : ∃ fd, FunD K "_law_turn" "_law_turn" (defArgs (top 46)) (defBody (top 46)) (defScope (top 46)) [] [] (He.ga K "_law_turn") fd := d.def_ 6 (d := d_law_turn) rfl
  have g_law_turn : mg "_law_turn" = some (.ref (He.ga K "_law_turn")) := He.glo_ok X G (d.fact 44 (f := .glo "_law_turn") rfl)
  obtain ⟨fd_law_arm_told, F_law_arm_told⟩ : ∃ fd, FunD K "_law_arm_told" "_law_arm_told" (defArgs (top 47)) (defBody (top 47)) (defScope (top 47)) [] [] (He.ga K "_law_arm_told") fd := d.def_ 7 (d := d_law_arm_told) rfl
  have g_law_arm_told : mg "_law_arm_told" = some (.ref (He.ga K "_law_arm_told")) := He.glo_ok X G (d.fact 45 (f := .glo "_law_arm_told") rfl)
  obtain ⟨fd_Chain___init, F_Chain___init⟩ : ∃ fd, FunD K "__init__" "Chain.__init__" (defArgs (inClass (top 36) 0)) (defBody (inClass (top 36) 0)) (defScope (inClass (top 36) 0)) [] [] (He.ma K (He.ga K "Chain") "__init__") fd := d.def_ 8 (d := d_Chain___init) rfl
  obtain ⟨fd_is_int, F_is_int⟩ : ∃ fd, FunD K "is_int" "is_int" (defArgs (top 9)) (defBody (top 9)) (defScope (top 9)) [] [] (He.ga K "is_int") fd := d.def_ 9 (d := d_is_int) rfl
  have g_is_int : mg "is_int" = some (.ref (He.ga K "is_int")) := He.glo_ok X G (d.fact 46 (f := .glo "is_int") rfl)
  obtain ⟨fd_common_divisor, F_common_divisor⟩ : ∃ fd, FunD K "common_divisor" "common_divisor" (defArgs (top 10)) (defBody (top 10)) (defScope (top 10)) [] [] (He.ga K "common_divisor") fd := d.def_ 10 (d := d_common_divisor) rfl
  have g_common_divisor : mg "common_divisor" = some (.ref (He.ga K "common_divisor")) := He.glo_ok X G (d.fact 47 (f := .glo "common_divisor") rfl)
  obtain ⟨fd_lowest, F_lowest⟩ : ∃ fd, FunD K "lowest" "lowest" (defArgs (top 12)) (defBody (top 12)) (defScope (top 12)) [] [] (He.ga K "lowest") fd := d.def_ 11 (d := d_lowest) rfl
  have g_lowest : mg "lowest" = some (.ref (He.ga K "lowest")) := He.glo_ok X G (d.fact 48 (f := .glo "lowest") rfl)
  obtain ⟨fd_is_number, F_is_number⟩ : ∃ fd, FunD K "is_number" "is_number" (defArgs (top 15)) (defBody (top 15)) (defScope (top 15)) [] [] (He.ga K "is_number") fd := d.def_ 12 (d := d_is_number) rfl
  have g_is_number : mg "is_number" = some (.ref (He.ga K "is_number")) := He.glo_ok X G (d.fact 49 (f := .glo "is_number") rfl)
  obtain ⟨fd_check_spot, F_check_spot⟩ : ∃ fd, FunD K "check_spot" "check_spot" (defArgs (top 25)) (defBody (top 25)) (defScope (top 25)) [] [] (He.ga K "check_spot") fd := d.def_ 13 (d := d_check_spot) rfl
  have g_check_spot : mg "check_spot" = some (.ref (He.ga K "check_spot")) := He.glo_ok X G (d.fact 50 (f := .glo "check_spot") rfl)
  obtain ⟨fd_check_turn, F_check_turn⟩ : ∃ fd, FunD K "check_turn" "check_turn" (defArgs (top 26)) (defBody (top 26)) (defScope (top 26)) [] [] (He.ga K "check_turn") fd := d.def_ 14 (d := d_check_turn) rfl
  have g_check_turn : mg "check_turn" = some (.ref (He.ga K "check_turn")) := He.glo_ok X G (d.fact 51 (f := .glo "check_turn") rfl)
  obtain ⟨fd_is_int_in, F_is_int_in⟩ : ∃ fd, FunD K "is_int_in" "is_int_in" (defArgs (top 8)) (defBody (top 8)) (defScope (top 8)) [] [] (He.ga K "is_int_in") fd := d.def_ 15 (d := d_is_int_in) rfl
  have g_is_int_in : mg "is_int_in" = some (.ref (He.ga K "is_int_in")) := He.glo_ok X G (d.fact 52 (f := .glo "is_int_in") rfl)
  obtain ⟨fd_Arm___init, F_Arm___init⟩ : ∃ fd, FunD K "__init__" "Arm.__init__" (defArgs (inClass (top 31) 0)) (defBody (inClass (top 31) 0)) (defScope (inClass (top 31) 0)) [] [("mirrored", (.bl false))] (He.ma K (He.ga K "Arm") "__init__") fd := d.def_ 16 (d := d_Arm___init) rfl
  obtain ⟨fd_law_arm, F_law_arm⟩ : ∃ fd, FunD K "_law_arm" "_law_arm" (defArgs (top 48)) (defBody (top 48)) (defScope (top 48)) [] [] (He.ga K "_law_arm") fd := d.def_ 17 (d := d_law_arm) rfl
  have g_law_arm : mg "_law_arm" = some (.ref (He.ga K "_law_arm")) := He.glo_ok X G (d.fact 53 (f := .glo "_law_arm") rfl)
  obtain ⟨fd_Chain___add, F_Chain___add⟩ : ∃ fd, FunD K "__add__" "Chain.__add__" (defArgs (inClass (top 36) 5)) (defBody (inClass (top 36) 5)) (defScope (inClass (top 36) 5)) [] [] (He.ma K (He.ga K "Chain") "__add__") fd := d.def_ 18 (d := d_Chain___add) rfl
  obtain ⟨fd_law_chain, F_law_chain⟩ : ∃ fd, FunD K "_law_chain" "_law_chain" (defArgs (top 49)) (defBody (top 49)) (defScope (top 49)) [] [] (He.ga K "_law_chain") fd := d.def_ 19 (d := d_law_chain) rfl
  have g_law_chain : mg "_law_chain" = some (.ref (He.ga K "_law_chain")) := He.glo_ok X G (d.fact 54 (f := .glo "_law_chain") rfl)
  obtain ⟨fd_Copy___init, F_Copy___init⟩ : ∃ fd, FunD K "__init__" "Copy.__init__" (defArgs (inClass (top 28) 0)) (defBody (inClass (top 28) 0)) (defScope (inClass (top 28) 0)) [] [("mirrored", (.bl false))] (He.ma K (He.ga K "Copy") "__init__") fd := d.def_ 20 (d := d_Copy___init) rfl
  obtain ⟨fd_multiplied, F_multiplied⟩ : ∃ fd, FunD K "multiplied" "multiplied" (defArgs (top 19)) (defBody (top 19)) (defScope (top 19)) [] [] (He.ga K "multiplied") fd := d.def_ 21 (d := d_multiplied) rfl
  have g_multiplied : mg "multiplied" = some (.ref (He.ga K "multiplied")) := He.glo_ok X G (d.fact 55 (f := .glo "multiplied") rfl)
  obtain ⟨fd_turned_over, F_turned_over⟩ : ∃ fd, FunD K "turned_over" "turned_over" (defArgs (top 20)) (defBody (top 20)) (defScope (top 20)) [] [] (He.ga K "turned_over") fd := d.def_ 22 (d := d_turned_over) rfl
  have g_turned_over : mg "turned_over" = some (.ref (He.ga K "turned_over")) := He.glo_ok X G (d.fact 56 (f := .glo "turned_over") rfl)
  obtain ⟨fd_added, F_added⟩ : ∃ fd, FunD K "added" "added" (defArgs (top 16)) (defBody (top 16)) (defScope (top 16)) [] [] (He.ga K "added") fd := d.def_ 23 (d := d_added) rfl
  have g_added : mg "added" = some (.ref (He.ga K "added")) := He.glo_ok X G (d.fact 57 (f := .glo "added") rfl)
  obtain ⟨fd_opposite, F_opposite⟩ : ∃ fd, FunD K "opposite" "opposite" (defArgs (top 17)) (defBody (top 17)) (defScope (top 17)) [] [] (He.ga K "opposite") fd := d.def_ 24 (d := d_opposite) rfl
  have g_opposite : mg "opposite" = some (.ref (He.ga K "opposite")) := He.glo_ok X G (d.fact 58 (f := .glo "opposite") rfl)
  obtain ⟨fd_less, F_less⟩ : ∃ fd, FunD K "less" "less" (defArgs (top 18)) (defBody (top 18)) (defScope (top 18)) [] [] (He.ga K "less") fd := d.def_ 25 (d := d_less) rfl
  have g_less : mg "less" = some (.ref (He.ga K "less")) := He.glo_ok X G (d.fact 59 (f := .glo "less") rfl)
  obtain ⟨fd_copy_about, F_copy_about⟩ : ∃ fd, FunD K "copy_about" "copy_about" (defArgs (top 32)) (defBody (top 32)) (defScope (top 32)) [] [] (He.ga K "copy_about") fd := d.def_ 26 (d := d_copy_about) rfl
  have g_copy_about : mg "copy_about" = some (.ref (He.ga K "copy_about")) := He.glo_ok X G (d.fact 60 (f := .glo "copy_about") rfl)
  obtain ⟨fd_Arm_effect, F_Arm_effect⟩ : ∃ fd, FunD K "effect" "Arm.effect" (defArgs (inClass (top 31) 1)) (defBody (inClass (top 31) 1)) (defScope (inClass (top 31) 1)) [] [] (gtA K (He.ga K "Arm") "effect") fd := says_x c 0 (d := x_Arm_effect) rfl
  obtain ⟨fd_carried, F_carried⟩ : ∃ fd, FunD K "carried" "carried" (defArgs (top 27)) (defBody (top 27)) (defScope (top 27)) [] [] (He.ga K "carried") fd := d.def_ 27 (d := d_carried) rfl
  have g_carried : mg "carried" = some (.ref (He.ga K "carried")) := He.glo_ok X G (d.fact 61 (f := .glo "carried") rfl)
  obtain ⟨fd_Copy___rshift, F_Copy___rshift⟩ : ∃ fd, FunD K "__rshift__" "Copy.__rshift__" (defArgs (inClass (top 28) 3)) (defBody (inClass (top 28) 3)) (defScope (inClass (top 28) 3)) [] [] (He.ma K (He.ga K "Copy") "__rshift__") fd := d.def_ 28 (d := d_Copy___rshift) rfl
  obtain ⟨fd_copies_ahead, F_copies_ahead⟩ : ∃ fd, FunD K "copies_ahead" "copies_ahead" (defArgs (top 37)) (defBody (top 37)) (defScope (top 37)) [] [] (He.ga K "copies_ahead") fd := d.def_ 29 (d := d_copies_ahead) rfl
  have g_copies_ahead : mg "copies_ahead" = some (.ref (He.ga K "copies_ahead")) := He.glo_ok X G (d.fact 62 (f := .glo "copies_ahead") rfl)
  obtain ⟨fd_ratio, F_ratio⟩ : ∃ fd, FunD K "ratio" "ratio" (defArgs (top 11)) (defBody (top 11)) (defScope (top 11)) [] [] (He.ga K "ratio") fd := d.def_ 30 (d := d_ratio) rfl
  have g_ratio : mg "ratio" = some (.ref (He.ga K "ratio")) := He.glo_ok X G (d.fact 63 (f := .glo "ratio") rfl)
  obtain ⟨fd_size, F_size⟩ : ∃ fd, FunD K "size" "size" (defArgs (top 22)) (defBody (top 22)) (defScope (top 22)) [] [] (He.ga K "size") fd := d.def_ 31 (d := d_size) rfl
  have g_size : mg "size" = some (.ref (He.ga K "size")) := He.glo_ok X G (d.fact 64 (f := .glo "size") rfl)
  obtain ⟨fd_Copy_growth, F_Copy_growth⟩ : ∃ fd, FunD K "growth" "Copy.growth" (defArgs (inClass (top 28) 5)) (defBody (inClass (top 28) 5)) (defScope (inClass (top 28) 5)) [] [] (gtA K (He.ga K "Copy") "growth") fd := says_x c 1 (d := x_Copy_growth) rfl
  obtain ⟨fd_inverse, F_inverse⟩ : ∃ fd, FunD K "inverse" "inverse" (defArgs (top 21)) (defBody (top 21)) (defScope (top 21)) [] [] (He.ga K "inverse") fd := d.def_ 32 (d := d_inverse) rfl
  have g_inverse : mg "inverse" = some (.ref (He.ga K "inverse")) := He.glo_ok X G (d.fact 65 (f := .glo "inverse") rfl)
  obtain ⟨fd_Copy___invert, F_Copy___invert⟩ : ∃ fd, FunD K "__invert__" "Copy.__invert__" (defArgs (inClass (top 28) 4)) (defBody (inClass (top 28) 4)) (defScope (inClass (top 28) 4)) [] [] (He.ma K (He.ga K "Copy") "__invert__") fd := d.def_ 33 (d := d_Copy___invert) rfl
  obtain ⟨fd_zones, F_zones⟩ : ∃ fd, FunD K "zones" "zones" (defArgs (top 38)) (defBody (top 38)) (defScope (top 38)) [] [] (He.ga K "zones") fd := d.def_ 34 (d := d_zones) rfl
  have g_zones : mg "zones" = some (.ref (He.ga K "zones")) := He.glo_ok X G (d.fact 66 (f := .glo "zones") rfl)
  obtain ⟨fd_law_ratio, F_law_ratio⟩ : ∃ fd, FunD K "_law_ratio" "_law_ratio" (defArgs (top 50)) (defBody (top 50)) (defScope (top 50)) [] [] (He.ga K "_law_ratio") fd := d.def_ 35 (d := d_law_ratio) rfl
  have g_law_ratio : mg "_law_ratio" = some (.ref (He.ga K "_law_ratio")) := He.glo_ok X G (d.fact 67 (f := .glo "_law_ratio") rfl)
  obtain ⟨fd_law_size, F_law_size⟩ : ∃ fd, FunD K "_law_size" "_law_size" (defArgs (top 51)) (defBody (top 51)) (defScope (top 51)) [] [] (He.ga K "_law_size") fd := d.def_ 36 (d := d_law_size) rfl
  have g_law_size : mg "_law_size" = some (.ref (He.ga K "_law_size")) := He.glo_ok X G (d.fact 68 (f := .glo "_law_size") rfl)
  obtain ⟨fd_law_plus, F_law_plus⟩ : ∃ fd, FunD K "_law_plus" "_law_plus" (defArgs (top 52)) (defBody (top 52)) (defScope (top 52)) [] [] (He.ga K "_law_plus") fd := d.def_ 37 (d := d_law_plus) rfl
  have g_law_plus : mg "_law_plus" = some (.ref (He.ga K "_law_plus")) := He.glo_ok X G (d.fact 69 (f := .glo "_law_plus") rfl)
  obtain ⟨fd_law_minus, F_law_minus⟩ : ∃ fd, FunD K "_law_minus" "_law_minus" (defArgs (top 53)) (defBody (top 53)) (defScope (top 53)) [] [] (He.ga K "_law_minus") fd := d.def_ 38 (d := d_law_minus) rfl
  have g_law_minus : mg "_law_minus" = some (.ref (He.ga K "_law_minus")) := He.glo_ok X G (d.fact 70 (f := .glo "_law_minus") rfl)
  obtain ⟨fd_law_less, F_law_less⟩ : ∃ fd, FunD K "_law_less" "_law_less" (defArgs (top 54)) (defBody (top 54)) (defScope (top 54)) [] [] (He.ga K "_law_less") fd := d.def_ 39 (d := d_law_less) rfl
  have g_law_less : mg "_law_less" = some (.ref (He.ga K "_law_less")) := He.glo_ok X G (d.fact 71 (f := .glo "_law_less") rfl)
  obtain ⟨fd_law_reached, F_law_reached⟩ : ∃ fd, FunD K "_law_reached" "_law_reached" (defArgs (top 55)) (defBody (top 55)) (defScope (top 55)) [] [] (He.ga K "_law_reached") fd := d.def_ 40 (d := d_law_reached) rfl
  have g_law_reached : mg "_law_reached" = some (.ref (He.ga K "_law_reached")) := He.glo_ok X G (d.fact 72 (f := .glo "_law_reached") rfl)
  obtain ⟨fd_law_times, F_law_times⟩ : ∃ fd, FunD K "_law_times" "_law_times" (defArgs (top 56)) (defBody (top 56)) (defScope (top 56)) [] [] (He.ga K "_law_times") fd := d.def_ 41 (d := d_law_times) rfl
  have g_law_times : mg "_law_times" = some (.ref (He.ga K "_law_times")) := He.glo_ok X G (d.fact 73 (f := .glo "_law_times") rfl)
  obtain ⟨fd_law_over, F_law_over⟩ : ∃ fd, FunD K "_law_over" "_law_over" (defArgs (top 57)) (defBody (top 57)) (defScope (top 57)) [] [] (He.ga K "_law_over") fd := d.def_ 42 (d := d_law_over) rfl
  have g_law_over : mg "_law_over" = some (.ref (He.ga K "_law_over")) := He.glo_ok X G (d.fact 74 (f := .glo "_law_over") rfl)
  obtain ⟨fd_law_carried, F_law_carried⟩ : ∃ fd, FunD K "_law_carried" "_law_carried" (defArgs (top 58)) (defBody (top 58)) (defScope (top 58)) [] [] (He.ga K "_law_carried") fd := d.def_ 43 (d := d_law_carried) rfl
  have g_law_carried : mg "_law_carried" = some (.ref (He.ga K "_law_carried")) := He.glo_ok X G (d.fact 75 (f := .glo "_law_carried") rfl)
  obtain ⟨fd_law_about, F_law_about⟩ : ∃ fd, FunD K "_law_about" "_law_about" (defArgs (top 59)) (defBody (top 59)) (defScope (top 59)) [] [] (He.ga K "_law_about") fd := d.def_ 44 (d := d_law_about) rfl
  have g_law_about : mg "_law_about" = some (.ref (He.ga K "_law_about")) := He.glo_ok X G (d.fact 76 (f := .glo "_law_about") rfl)
  obtain ⟨fd_law_equal, F_law_equal⟩ : ∃ fd, FunD K "_law_equal" "_law_equal" (defArgs (top 60)) (defBody (top 60)) (defScope (top 60)) [] [] (He.ga K "_law_equal") fd := d.def_ 45 (d := d_law_equal) rfl
  have g_law_equal : mg "_law_equal" = some (.ref (He.ga K "_law_equal")) := He.glo_ok X G (d.fact 77 (f := .glo "_law_equal") rfl)
  obtain ⟨fd_law, F_law⟩ : ∃ fd, FunD K "law" "law" (defArgs (top 61)) (defBody (top 61)) (defScope (top 61)) [] [] (He.ga K "law") fd := d.def_ 46 (d := d_law) rfl
  have g_law : mg "law" = some (.ref (He.ga K "law")) := He.glo_ok X G (d.fact 78 (f := .glo "law") rfl)
  have b_law := FunD.bindsA (ps := ["_law_script"]) F_law fun _ _ _ _ _ _ us hl => match us, hl with | [_], _ => rfl
  refine ⟨fd_law, g_law, fun s v => b_law s [v] rfl, fun base => ?_⟩
  have mk_Arm := He.mkr_ok (d.fact 33 (f := .mkr "Arm") rfl)
  have gc_Arm : mg "Arm" = some (.ref (He.ga K "Arm")) := He.glo_ok X G (d.fact 32 (f := .glo "Arm") rfl)
  have mk_Chain := He.mkr_ok (d.fact 35 (f := .mkr "Chain") rfl)
  have gc_Chain : mg "Chain" = some (.ref (He.ga K "Chain")) := He.glo_ok X G (d.fact 34 (f := .glo "Chain") rfl)
  have mk_Copy := He.mkr_ok (d.fact 37 (f := .mkr "Copy") rfl)
  have gc_Copy : mg "Copy" = some (.ref (He.ga K "Copy")) := He.glo_ok X G (d.fact 36 (f := .glo "Copy") rfl)
  have G_law_random : FnG P w K mg base 1 "_law_random" (sp_law_random (Γ0 K)) := ⟨_, _, _, ok_law_random T F_law_random , g_law_random, F_law_random.kp, F_law_random.bindsN fun _ _ _ _ _ _ us hl => match us, hl with | [_, _], _ => rfl⟩
  have G_law_below : FnG P w K mg base 1 "_law_below" (sp_law_below (Γ0 K)) := ⟨_, _, _, ok_law_below T F_law_below , g_law_below, F_law_below.kp, F_law_below.bindsN fun _ _ _ _ _ _ us hl => match us, hl with | [_, _], _ => rfl⟩
  have G_law_step : FnG P w K mg base 2 "_law_step" (sp_law_step (Γ0 K)) := ⟨_, _, _, ok_law_step T F_law_step G_law_below, g_law_step, F_law_step.kp, F_law_step.bindsN fun _ _ _ _ _ _ us hl => match us, hl with | [_, _], _ => rfl⟩
  have G_law_common : FnG P w K mg base 1 "_law_common" (sp_law_common (Γ0 K)) := ⟨_, _, _, ok_law_common T F_law_common , g_law_common, F_law_common.kp, F_law_common.bindsN fun _ _ _ _ _ _ us hl => match us, hl with | [_, _], _ => rfl⟩
  have G_law_lowest : FnG P w K mg base 2 "_law_lowest" (sp_law_lowest (Γ0 K)) := ⟨_, _, _, ok_law_lowest T F_law_lowest G_law_common, g_law_lowest, F_law_lowest.kp, F_law_lowest.bindsN fun _ _ _ _ _ _ us hl => match us, hl with | [_, _, _], _ => rfl⟩
  have G_law_spot : FnG P w K mg base 3 "_law_spot" (sp_law_spot (Γ0 K)) := ⟨_, _, _, ok_law_spot T F_law_spot G_law_below G_law_lowest, g_law_spot, F_law_spot.kp, F_law_spot.bindsN fun _ _ _ _ _ _ us hl => match us, hl with | [_], _ => rfl⟩
  have G_law_turn : FnG P w K mg base 2 "_law_turn" (sp_law_turn (Γ0 K)) := ⟨_, _, _, ok_law_turn T F_law_turn G_law_below, g_law_turn, F_law_turn.kp, F_law_turn.bindsN fun _ _ _ _ _ _ us hl => match us, hl with | [_], _ => rfl⟩
  have G_law_arm_told : FnG P w K mg base 4 "_law_arm_told" (sp_law_arm_told (Γ0 K)) := ⟨_, _, _, ok_law_arm_told T F_law_arm_told G_law_below G_law_step G_law_spot G_law_turn, g_law_arm_told, F_law_arm_told.kp, F_law_arm_told.bindsN fun _ _ _ _ _ _ us hl => match us, hl with | [_], _ => rfl⟩
  have O_Chain___init := ok_Chain___init (P := P) (w := w) (base := base) T F_Chain___init 
  have G_Chain___init : MkS P w K mg base 1 "Chain" (Γ0 K).Chain (sp_Chain___init (Γ0 K)) := ⟨_, O_Chain___init, gc_Chain, mk_Chain⟩
  have G_is_int : FnG P w K mg base 1 "is_int" (sp_is_int (Γ0 K)) := ⟨_, _, _, ok_is_int T F_is_int , g_is_int, F_is_int.kp, F_is_int.bindsN fun _ _ _ _ _ _ us hl => match us, hl with | [_], _ => rfl⟩
  have G_common_divisor : FnG P w K mg base 1 "common_divisor" (sp_common_divisor (Γ0 K)) := ⟨_, _, _, ok_common_divisor T F_common_divisor , g_common_divisor, F_common_divisor.kp, F_common_divisor.bindsN fun _ _ _ _ _ _ us hl => match us, hl with | [_, _], _ => rfl⟩
  have G_lowest : FnG P w K mg base 2 "lowest" (sp_lowest (Γ0 K)) := ⟨_, _, _, ok_lowest T F_lowest G_common_divisor, g_lowest, F_lowest.kp, F_lowest.bindsN fun _ _ _ _ _ _ us hl => match us, hl with | [_, _, _], _ => rfl⟩
  have G_is_number : FnG P w K mg base 3 "is_number" (sp_is_number (Γ0 K)) := ⟨_, _, _, ok_is_number T F_is_number G_is_int G_lowest, g_is_number, F_is_number.kp, F_is_number.bindsN fun _ _ _ _ _ _ us hl => match us, hl with | [_], _ => rfl⟩
  have G_check_spot : FnG P w K mg base 4 "check_spot" (sp_check_spot (Γ0 K)) := ⟨_, _, _, ok_check_spot T F_check_spot G_is_number, g_check_spot, F_check_spot.kp, F_check_spot.bindsN fun _ _ _ _ _ _ us hl => match us, hl with | [_], _ => rfl⟩
  have G_check_turn : FnG P w K mg base 4 "check_turn" (sp_check_turn (Γ0 K)) := ⟨_, _, _, ok_check_turn T F_check_turn G_is_number, g_check_turn, F_check_turn.kp, F_check_turn.bindsN fun _ _ _ _ _ _ us hl => match us, hl with | [_], _ => rfl⟩
  have G_is_int_in : FnG P w K mg base 1 "is_int_in" (sp_is_int_in (Γ0 K)) := ⟨_, _, _, ok_is_int_in T F_is_int_in , g_is_int_in, F_is_int_in.kp, F_is_int_in.bindsN fun _ _ _ _ _ _ us hl => match us, hl with | [_, _, _], _ => rfl⟩
  have O_Arm___init := ok_Arm___init (P := P) (w := w) (base := base) T F_Arm___init G_check_spot G_check_turn G_is_int_in
  have G_Arm___init_k_mirrored : MkK P w K mg base 5 "Arm" (Γ0 K).Arm (sp_Arm___init (Γ0 K)) 4 ["mirrored"] gD_Arm_mirrored := by
    obtain ⟨mv, q⟩ := F_Arm___init.kbinds0 (ps := ["self", "pole", "turn", "near", "far", "mirrored"]) 5 ["mirrored"] [] (fun us _ ws => us ++ ws) (by simp) (by simp) (fun a _ b => Vals.append a b) fun _ _ _ _ _ _ us mv ws l1 l2 l3 => match us, mv, ws, l1, l2, l3 with | [_, _, _, _, _], [], [_], _, _, _ => rfl
    exact ⟨_, _, _, _, _, O_Arm___init, gc_Arm, mk_Arm, q, fun y b vs zs ds es S r1 r2 r3 => .cons r1 (r2.append r3)⟩
  have G_law_arm : FnG P w K mg base 7 "_law_arm" (sp_law_arm (Γ0 K)) := ⟨_, _, _, ok_law_arm T F_law_arm G_Arm___init_k_mirrored, g_law_arm, F_law_arm.kp, F_law_arm.bindsN fun _ _ _ _ _ _ us hl => match us, hl with | [_], _ => rfl⟩
  have G_Chain___add : MtG P w K mg base 3 (Γ0 K).Chain (He.ma K (Γ0 K).Chain "__add__") (sp_Chain___add (Γ0 K)) := ⟨_, _, ok_Chain___add T F_Chain___add G_Chain___init, F_Chain___add.bindsN fun _ _ _ _ _ _ us hl => match us, hl with | [_, _], _ => rfl⟩
  have G_law_chain : FnG P w K mg base 8 "_law_chain" (sp_law_chain (Γ0 K)) := ⟨_, _, _, ok_law_chain T F_law_chain G_law_arm G_Chain___add G_Chain___init, g_law_chain, F_law_chain.kp, F_law_chain.bindsN fun _ _ _ _ _ _ us hl => match us, hl with | [_], _ => rfl⟩
  have O_Copy___init := ok_Copy___init (P := P) (w := w) (base := base) T F_Copy___init G_check_turn G_check_spot
  have G_Copy___init_k_mirrored : MkK P w K mg base 5 "Copy" (Γ0 K).Copy (sp_Copy___init (Γ0 K)) 2 ["mirrored"] gD_Copy_mirrored := by
    obtain ⟨mv, q⟩ := F_Copy___init.kbinds0 (ps := ["self", "turn", "shift", "mirrored"]) 3 ["mirrored"] [] (fun us _ ws => us ++ ws) (by simp) (by simp) (fun a _ b => Vals.append a b) fun _ _ _ _ _ _ us mv ws l1 l2 l3 => match us, mv, ws, l1, l2, l3 with | [_, _, _], [], [_], _, _, _ => rfl
    exact ⟨_, _, _, _, _, O_Copy___init, gc_Copy, mk_Copy, q, fun y b vs zs ds es S r1 r2 r3 => .cons r1 (r2.append r3)⟩
  have G_Copy___init_k : MkD P w K mg base 5 "Copy" (Γ0 K).Copy (sp_Copy___init (Γ0 K)) [.bl false] := by
    obtain ⟨ds, v, q⟩ := F_Copy___init.binds0 (ps := ["self", "turn", "shift", "mirrored"]) 3 (by simp) rfl fun _ _ _ _ _ _ us ks l1 l2 => match us, ks, l1, l2 with | [_, _, _], [_], _, _ => ⟨_, _, _, _, _, _, rfl, rfl, rfl⟩
    exact ⟨_, _, _, ds, _, O_Copy___init, gc_Copy, mk_Copy, q, v, fun S => (.cons (.bl _) .nil)⟩
  have G_multiplied : FnG P w K mg base 3 "multiplied" (sp_multiplied (Γ0 K)) := ⟨_, _, _, ok_multiplied T F_multiplied G_lowest, g_multiplied, F_multiplied.kp, F_multiplied.bindsN fun _ _ _ _ _ _ us hl => match us, hl with | [_, _], _ => rfl⟩
  have G_turned_over : FnG P w K mg base 1 "turned_over" (sp_turned_over (Γ0 K)) := ⟨_, _, _, ok_turned_over T F_turned_over , g_turned_over, F_turned_over.kp, F_turned_over.bindsN fun _ _ _ _ _ _ us hl => match us, hl with | [_], _ => rfl⟩
  have G_added : FnG P w K mg base 3 "added" (sp_added (Γ0 K)) := ⟨_, _, _, ok_added T F_added G_lowest, g_added, F_added.kp, F_added.bindsN fun _ _ _ _ _ _ us hl => match us, hl with | [_, _], _ => rfl⟩
  have G_opposite : FnG P w K mg base 1 "opposite" (sp_opposite (Γ0 K)) := ⟨_, _, _, ok_opposite T F_opposite , g_opposite, F_opposite.kp, F_opposite.bindsN fun _ _ _ _ _ _ us hl => match us, hl with | [_], _ => rfl⟩
  have G_less : FnG P w K mg base 4 "less" (sp_less (Γ0 K)) := ⟨_, _, _, ok_less T F_less G_added G_opposite, g_less, F_less.kp, F_less.bindsN fun _ _ _ _ _ _ us hl => match us, hl with | [_, _], _ => rfl⟩
  have G_copy_about : FnG P w K mg base 7 "copy_about" (sp_copy_about (Γ0 K)) := ⟨_, _, _, ok_copy_about T F_copy_about G_multiplied G_turned_over G_less G_Copy___init_k_mirrored, g_copy_about, F_copy_about.kp, F_copy_about.bindsN fun _ _ _ _ _ _ us hl => match us, hl with | [_, _, _], _ => rfl⟩
  have G_Arm_effect : MtG P w K mg base 8 (Γ0 K).Arm (gtA K (Γ0 K).Arm "effect") (sp_Arm_effect (Γ0 K)) := ⟨_, _, ok_Arm_effect T F_Arm_effect G_copy_about, F_Arm_effect.bindsN fun _ _ _ _ _ _ us hl => match us, hl with | [_], _ => rfl⟩
  have G_carried : FnG P w K mg base 4 "carried" (sp_carried (Γ0 K)) := ⟨_, _, _, ok_carried T F_carried G_added G_multiplied G_turned_over, g_carried, F_carried.kp, F_carried.bindsN fun _ _ _ _ _ _ us hl => match us, hl with | [_, _], _ => rfl⟩
  have G_Copy___rshift : MtG P w K mg base 7 (Γ0 K).Copy (He.ma K (Γ0 K).Copy "__rshift__") (sp_Copy___rshift (Γ0 K)) := ⟨_, _, ok_Copy___rshift T F_Copy___rshift G_turned_over G_carried G_multiplied G_Copy___init_k_mirrored, F_Copy___rshift.bindsN fun _ _ _ _ _ _ us hl => match us, hl with | [_, _], _ => rfl⟩
  have G_copies_ahead : FnG P w K mg base 10 "copies_ahead" (sp_copies_ahead (Γ0 K)) := ⟨_, _, _, ok_copies_ahead T F_copies_ahead G_Arm_effect G_Copy___rshift G_Copy___init_k, g_copies_ahead, F_copies_ahead.kp, F_copies_ahead.bindsN fun _ _ _ _ _ _ us hl => match us, hl with | [_], _ => rfl⟩
  have G_ratio : FnG P w K mg base 2 "ratio" (sp_ratio (Γ0 K)) := ⟨_, _, _, ok_ratio T F_ratio G_common_divisor, g_ratio, F_ratio.kp, F_ratio.bindsN fun _ _ _ _ _ _ us hl => match us, hl with | [_, _], _ => rfl⟩
  have G_size : FnG P w K mg base 3 "size" (sp_size (Γ0 K)) := ⟨_, _, _, ok_size T F_size G_ratio, g_size, F_size.kp, F_size.bindsN fun _ _ _ _ _ _ us hl => match us, hl with | [_], _ => rfl⟩
  have G_Copy_growth : MtG P w K mg base 4 (Γ0 K).Copy (gtA K (Γ0 K).Copy "growth") (sp_Copy_growth (Γ0 K)) := ⟨_, _, ok_Copy_growth T F_Copy_growth G_size, F_Copy_growth.bindsN fun _ _ _ _ _ _ us hl => match us, hl with | [_], _ => rfl⟩
  have G_inverse : FnG P w K mg base 3 "inverse" (sp_inverse (Γ0 K)) := ⟨_, _, _, ok_inverse T F_inverse G_lowest, g_inverse, F_inverse.kp, F_inverse.bindsN fun _ _ _ _ _ _ us hl => match us, hl with | [_], _ => rfl⟩
  have G_Copy___invert : MtG P w K mg base 7 (Γ0 K).Copy (He.ma K (Γ0 K).Copy "__invert__") (sp_Copy___invert (Γ0 K)) := ⟨_, _, ok_Copy___invert T F_Copy___invert G_inverse G_turned_over G_opposite G_multiplied G_Copy___init_k_mirrored, F_Copy___invert.bindsN fun _ _ _ _ _ _ us hl => match us, hl with | [_], _ => rfl⟩
  have G_zones : FnG P w K mg base 11 "zones" (sp_zones (Γ0 K)) := ⟨_, _, _, ok_zones T F_zones G_copies_ahead G_Copy_growth G_ratio G_carried G_Copy___invert, g_zones, F_zones.kp, F_zones.bindsN fun _ _ _ _ _ _ us hl => match us, hl with | [_], _ => rfl⟩
  have G_law_ratio : FnG P w K mg base 3 "_law_ratio" (sp_law_ratio (Γ0 K)) := ⟨_, _, _, ok_law_ratio T F_law_ratio G_law_lowest, g_law_ratio, F_law_ratio.kp, F_law_ratio.bindsN fun _ _ _ _ _ _ us hl => match us, hl with | [_, _], _ => rfl⟩
  have G_law_size : FnG P w K mg base 4 "_law_size" (sp_law_size (Γ0 K)) := ⟨_, _, _, ok_law_size T F_law_size G_law_ratio, g_law_size, F_law_size.kp, F_law_size.bindsN fun _ _ _ _ _ _ us hl => match us, hl with | [_], _ => rfl⟩
  have G_law_plus : FnG P w K mg base 3 "_law_plus" (sp_law_plus (Γ0 K)) := ⟨_, _, _, ok_law_plus T F_law_plus G_law_lowest, g_law_plus, F_law_plus.kp, F_law_plus.bindsN fun _ _ _ _ _ _ us hl => match us, hl with | [_, _], _ => rfl⟩
  have G_law_minus : FnG P w K mg base 4 "_law_minus" (sp_law_minus (Γ0 K)) := ⟨_, _, _, ok_law_minus T F_law_minus G_law_plus, g_law_minus, F_law_minus.kp, F_law_minus.bindsN fun _ _ _ _ _ _ us hl => match us, hl with | [_, _], _ => rfl⟩
  have G_law_less : FnG P w K mg base 1 "_law_less" (sp_law_less (Γ0 K)) := ⟨_, _, _, ok_law_less T F_law_less , g_law_less, F_law_less.kp, F_law_less.bindsN fun _ _ _ _ _ _ us hl => match us, hl with | [_, _], _ => rfl⟩
  have G_law_reached : FnG P w K mg base 5 "_law_reached" (sp_law_reached (Γ0 K)) := ⟨_, _, _, ok_law_reached T F_law_reached G_law_size G_law_minus G_law_less, g_law_reached, F_law_reached.kp, F_law_reached.bindsN fun _ _ _ _ _ _ us hl => match us, hl with | [_, _], _ => rfl⟩
  have G_law_times : FnG P w K mg base 3 "_law_times" (sp_law_times (Γ0 K)) := ⟨_, _, _, ok_law_times T F_law_times G_law_lowest, g_law_times, F_law_times.kp, F_law_times.bindsN fun _ _ _ _ _ _ us hl => match us, hl with | [_, _], _ => rfl⟩
  have G_law_over : FnG P w K mg base 1 "_law_over" (sp_law_over (Γ0 K)) := ⟨_, _, _, ok_law_over T F_law_over , g_law_over, F_law_over.kp, F_law_over.bindsN fun _ _ _ _ _ _ us hl => match us, hl with | [_], _ => rfl⟩
  have G_law_carried : FnG P w K mg base 4 "_law_carried" (sp_law_carried (Γ0 K)) := ⟨_, _, _, ok_law_carried T F_law_carried G_law_plus G_law_times G_law_over, g_law_carried, F_law_carried.kp, F_law_carried.bindsN fun _ _ _ _ _ _ us hl => match us, hl with | [_, _], _ => rfl⟩
  have G_law_about : FnG P w K mg base 5 "_law_about" (sp_law_about (Γ0 K)) := ⟨_, _, _, ok_law_about T F_law_about G_law_times G_law_over G_law_minus, g_law_about, F_law_about.kp, F_law_about.bindsN fun _ _ _ _ _ _ us hl => match us, hl with | [_], _ => rfl⟩
  have H0_law_equal : FnG P w K mg base 0 "_law_equal" (sp_law_equal (Γ0 K) 0) := ⟨_, _, ["_law_actual", "_law_expected"], FnOk.none, g_law_equal, F_law_equal.kp, F_law_equal.bindsN fun _ _ _ _ _ _ us hl => match us, hl with | [_, _], _ => rfl⟩
  have H1_law_equal : FnG P w K mg base 1 "_law_equal" (sp_law_equal (Γ0 K) 1) := ⟨_, _, _, ok_law_equal T F_law_equal H0_law_equal, g_law_equal, F_law_equal.kp, F_law_equal.bindsN fun _ _ _ _ _ _ us hl => match us, hl with | [_, _], _ => rfl⟩
  have H2_law_equal : FnG P w K mg base 2 "_law_equal" (sp_law_equal (Γ0 K) 2) := ⟨_, _, _, ok_law_equal T F_law_equal H1_law_equal, g_law_equal, F_law_equal.kp, F_law_equal.bindsN fun _ _ _ _ _ _ us hl => match us, hl with | [_, _], _ => rfl⟩
  have H3_law_equal : FnG P w K mg base 3 "_law_equal" (sp_law_equal (Γ0 K) 3) := ⟨_, _, _, ok_law_equal T F_law_equal H2_law_equal, g_law_equal, F_law_equal.kp, F_law_equal.bindsN fun _ _ _ _ _ _ us hl => match us, hl with | [_, _], _ => rfl⟩
  have H4_law_equal : FnG P w K mg base 4 "_law_equal" (sp_law_equal (Γ0 K) 4) := ⟨_, _, _, ok_law_equal T F_law_equal H3_law_equal, g_law_equal, F_law_equal.kp, F_law_equal.bindsN fun _ _ _ _ _ _ us hl => match us, hl with | [_, _], _ => rfl⟩
  have H5_law_equal : FnG P w K mg base 5 "_law_equal" (sp_law_equal (Γ0 K) 5) := ⟨_, _, _, ok_law_equal T F_law_equal H4_law_equal, g_law_equal, F_law_equal.kp, F_law_equal.bindsN fun _ _ _ _ _ _ us hl => match us, hl with | [_, _], _ => rfl⟩
  have G_law_equal := H5_law_equal
  exact (ok_law (P := P) (w := w) (base := base) T F_law G_law_random G_law_below G_law_arm_told G_law_chain G_zones G_law_spot G_law_size G_law_minus G_law_less G_law_reached G_law_carried G_law_about G_law_times G_law_ratio G_law_equal G_Chain___init).imp law_imp
def names : List (PySem.Str) := (["_wall", "CopyError", "InvalidSpot", "InvalidTurn", "InvalidReach", "TooMany", "is_int_in", "is_int", "common_divisor", "ratio", "lowest", "ZERO", "ONE", "is_number", "added", "opposite", "less", "multiplied", "turned_over", "inverse", "size", "is_less", "check_spot", "check_turn", "carried", "Copy", "MAX_REACH", "Arm", "copy_about", "is_between"] : List (PySem.Str)) ++ (["MAX_ARMS", "Chain", "copies_ahead", "zones", "_law_random", "_law_below", "_law_step", "_law_common", "_law_lowest", "_law_spot", "_law_turn", "_law_arm_told", "_law_arm", "_law_chain", "_law_ratio", "_law_size", "_law_plus", "_law_minus", "_law_less", "_law_reached", "_law_times", "_law_over", "_law_carried", "_law_about", "_law_equal"] : List (PySem.Str))
abbrev R : PySem.W.OpenRow := PySem.W.OpenLaw.row PySem.Challenge.rw_copyarms_k19_zones_of_arms
abbrev qv : Program := PySem.W.view R.prog [61]
abbrev hk : PySem.W.Hook := hookX 6 xb fa fn fx
def ob (s : PySem.W.SharedT) : AlX := obsXG 6 xb fa fn fx (HandSHeadRun.getT s)
theorem ob_eq (s : PySem.W.SharedT) : ob s = hk.obs s.abs := obsXG_eq s
theorem run3 (w : World) : Look3 R hk ob 4000 w := by
  intro os
  kernel_rfl
theorem run1 (w : World) : Look1 R 4000 w := by
  intro os
  kernel_rfl
theorem run2 (w : World) : Look2 R qv 4000 names w := by
  intro os
  kernel_rfl
theorem run (w : World) : HandSHeadRun.RunEq R qv hk ob 4000 names w := runEq_of (run1 w) (run2 w) (run3 w)

end L3.K19
open PySem PySem.W PySem.Calls PyProof.Rows
theorem PySem.Challenge.cw_copyarms_k19_zones_of_arms_holds : PySem.Challenge.rw_copyarms_k19_zones_of_arms.Holds := by
  w_on; o_law
  refine HandSHeadRun.head_any (r := OpenLaw.row PySem.Challenge.rw_copyarms_k19_zones_of_arms) (q := L3.K19.qv) (H := L3.K19.hk) (ob := L3.K19.ob) (M := 4000) (loose := L3.K19.names) (d := HandSHeadRun.topDef (OpenLaw.row PySem.Challenge.rw_copyarms_k19_zones_of_arms).prog 61) (kwd := []) L3.K19.ob_eq
    (by kernel_rfl) (fun s => by kernel_rfl) L3.K19.run (by kernel_rfl) (by kernel_rfl) (by kernel_rfl) (by rfl) (by first | assumption | decide +kernel) (by decide +kernel) ⟨rfl, rfl, rfl, rfl, rfl, by decide +kernel⟩ ?hw ?hc
  case hw => w_witness2
  case hc =>
    refine L2.walk_ofE (l := PySem.Challenge.rw_copyarms_k19_zones_of_arms) (n := 63) (k := 12) (x := "_law_script") (CX := L2.CX0) rfl (by decide) (by kernel_rfl) ⟨rfl, by decide, by decide⟩ ?F (fun _ _ _ _ z => z)
    intro w mg fa h Y G hmg0
    obtain ⟨K, KX, c⟩ := Y
    obtain ⟨fd, hg, hb, hF⟩ := L3.K19.all (P := (PySem.Challenge.rw_copyarms_k19_zones_of_arms).prog) (w := w) KX G c
    have hmg : mg ("law" : PySem.Str) = some (.ref fa) := by
      have e : (HandSHeadRun.topDef (OpenLaw.row PySem.Challenge.rw_copyarms_k19_zones_of_arms).prog 61).name = ("law" : PySem.Str) := by kernel_rfl
      rw [← e]
      exact hmg0
    have e := hmg.symm.trans hg
    cases e
    exact ⟨K, fd, L3.spLaw K, KX, hb, fun H a ns hl _ hS => ⟨a, ns, rfl, hS, hl, fun _ => rfl⟩, fun base _ _ => hF base⟩
