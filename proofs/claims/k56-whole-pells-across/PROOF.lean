import PyProof.Rows.All
import Wide.All
import OpenK.AllK
import Wide.FinOn
import HandS.ForMost
import HandS.Wide
import HandS.WideMore
import HandS.Gcd
import HandS.SortInts
import HandS.EndTab
import HandS.AnyAll
import HandS.IsInst
import HandS.TupAny
import HandS.Rev
import HandS.Star
import KE.GoesEnum
import HandS.Head0
import HandS.Head1
import HandS.Head2
import HandS.Head3
import HandS.HeadEnd
import HandS.HeadHook1
import HandS.HeadHook2
import HandS.Style
import HandS.Deep
import KE.KMathG
import HandS.SetFor
import HandS.Strs
import KE.DataMinMax
import KE.KStateDown
import Lean
import PySem.Challenge.RW_numberwright_k56_whole_pells_across
set_option Elab.async false
set_option linter.all false
set_option maxRecDepth 100000
set_option maxHeartbeats 0
namespace Fx
open PySem PySem.Spec L2
open PyProof.Rows hiding St

abbrev PV := PyData
abbrev St := L2.St
/-- a key as a value -/
def kD : Key → PV
  | .inl i => .int i
  | .inr x => .str x
mutual
/-- the value v stands, in the frozen part F, for the plain value d -/
inductive Rep (K : PySem.W.Frag) (F : Hp) : V → PV → Prop
  | non : Rep K F .non .none
  | bl (b : Bool) : Rep K F (.bl b) (.bool b)
  | int (i : Int) : Rep K F (.int i) (.int i)
  | str (x : Str) : Rep K F (.str x) (.str x)
  | lst {a : Addr} {xs : List V} {ds : List PV} : F a = some (.lst xs) → Reps K F xs ds → Rep K F (.ref a) (.list ds)
  | tup {a : Addr} {xs : List V} {ds : List PV} : F a = some (.tup xs) → Reps K F xs ds → Rep K F (.ref a) (.tuple ds)
  | dk {a : Addr} {kvs : List (Key × V)} {ds : List (PV × PV)} : F a = some (.dK kvs) → RepK K F kvs ds → Rep K F (.ref a) (.dict ds)
  | dt {a : Addr} {kvs : List (List Key × V)} {ds : List (PV × PV)} : F a = some (.dT kvs) → RepT K F kvs ds → Rep K F (.ref a) (.dict ((.none, .none) :: ds))
  | lk {a : Addr} {xs : List V} {ds : List PV} : SqL K F a xs → Reps K F xs ds → Rep K F (.ref a) (.dict [(.bool true, .list ds)])
inductive Reps (K : PySem.W.Frag) (F : Hp) : List V → List PV → Prop
  | nil : Reps K F [] []
  | cons {v : V} {vs : List V} {d : PV} {ds : List PV} : Rep K F v d → Reps K F vs ds → Reps K F (v :: vs) (d :: ds)
inductive RepK (K : PySem.W.Frag) (F : Hp) : List (Key × V) → List (PV × PV) → Prop
  | nil : RepK K F [] []
  | cons {k : Key} {v : V} {vs : List (Key × V)} {d : PV} {ds : List (PV × PV)} : Rep K F v d → RepK K F vs ds → RepK K F ((k, v) :: vs) ((kD k, d) :: ds)
inductive RepT (K : PySem.W.Frag) (F : Hp) : List (List Key × V) → List (PV × PV) → Prop
  | nil : RepT K F [] []
  | cons {k : List Key} {v : V} {vs : List (List Key × V)} {d : PV} {ds : List (PV × PV)} : Rep K F v d → RepT K F vs ds → RepT K F ((k, v) :: vs) ((.tuple (k.map kD), d) :: ds)
end

section
variable {K : PySem.W.Frag} {F F' : Hp}
theorem SqL.mono {a : Addr} {xs : List V} (e : Same F F') (h : SqL K F a xs) : SqL K F' a xs := e.seq h
theorem SqT.mono {a : Addr} {xs : List V} (e : Same F F') (h : SqT K F a xs) : SqT K F' a xs := by
  rcases h with (h | ⟨o, h⟩) | h
  · exact .inl (.inl (e _ _ h))
  · exact .inl (.inr ⟨o, e _ _ h⟩)
  · exact .inr h
theorem sqT {a : Addr} {xs : List V} (h : F a = some (.tup xs)) : SqT K F a xs := .inl (.inl h)
mutual
theorem Rep.mono (e : Same F F') : ∀ {v : V} {d : PV}, Rep K F v d → Rep K F' v d
  | _, _, .non => .non
  | _, _, .bl b => .bl b
  | _, _, .int i => .int i
  | _, _, .str x => .str x
  | _, _, .lst h r => .lst (e _ _ h) (Reps.mono e r)
  | _, _, .tup h r => .tup (e _ _ h) (Reps.mono e r)
  | _, _, .dk h r => .dk (e _ _ h) (RepK.mono e r)
  | _, _, .dt h r => .dt (e _ _ h) (RepT.mono e r)
  | _, _, .lk h r => .lk (SqL.mono e h) (Reps.mono e r)
theorem Reps.mono (e : Same F F') : ∀ {v : List V} {d : List PV}, Reps K F v d → Reps K F' v d
  | _, _, .nil => .nil
  | _, _, .cons h r => .cons (Rep.mono e h) (Reps.mono e r)
theorem RepK.mono (e : Same F F') : ∀ {v : List (Key × V)} {d : List (PV × PV)}, RepK K F v d → RepK K F' v d
  | _, _, .nil => .nil
  | _, _, .cons h r => .cons (Rep.mono e h) (RepK.mono e r)
theorem RepT.mono (e : Same F F') : ∀ {v : List (List Key × V)} {d : List (PV × PV)}, RepT K F v d → RepT K F' v d
  | _, _, .nil => .nil
  | _, _, .cons h r => .cons (Rep.mono e h) (RepT.mono e r)
end
theorem Reps.len : ∀ {xs : List V} {ds : List PV}, Reps K F xs ds → xs.length = ds.length
  | _, _, .nil => rfl
  | _, _, .cons _ r => by simp [Reps.len r]
theorem Reps.get : ∀ {xs : List V} {ds : List PV} {i : Nat} {d : PV}, Reps K F xs ds → ds[i]? = some d → ∃ v, xs[i]? = some v ∧ Rep K F v d
  | _, _, _, _, .nil, h => by simp at h
  | _, _, 0, _, .cons r _, h => by simp at h; subst h; exact ⟨_, rfl, r⟩
  | _, _, i + 1, _, .cons _ r, h => by
    obtain ⟨v, h1, h2⟩ := Reps.get (i := i) r (by simpa using h)
    exact ⟨v, by simpa using h1, h2⟩
theorem Reps.append : ∀ {xs ys : List V} {ds es : List PV}, Reps K F xs ds → Reps K F ys es → Reps K F (xs ++ ys) (ds ++ es)
  | _, _, _, _, .nil, s => s
  | _, _, _, _, .cons r t, s => .cons r (Reps.append t s)
theorem Reps.take : ∀ {xs : List V} {ds : List PV} (n : Nat), Reps K F xs ds → Reps K F (xs.take n) (ds.take n)
  | _, _, 0, _ => .nil
  | _, _, _ + 1, .nil => .nil
  | _, _, n + 1, .cons r t => .cons r (Reps.take n t)
theorem Reps.drop : ∀ {xs : List V} {ds : List PV} (n : Nat), Reps K F xs ds → Reps K F (xs.drop n) (ds.drop n)
  | _, _, 0, r => r
  | _, _, _ + 1, .nil => .nil
  | _, _, n + 1, .cons _ t => Reps.drop n t
theorem Reps.set {v : V} {d : PV} (r : Rep K F v d) : ∀ {xs : List V} {ds : List PV} (i : Nat), Reps K F xs ds → Reps K F (xs.set i v) (ds.set i d)
  | _, _, _, .nil => .nil
  | _, _, 0, .cons _ t => .cons r t
  | _, _, i + 1, .cons q t => .cons q (Reps.set r i t)
theorem Reps.one {v : V} {d : PV} (r : Rep K F v d) : Reps K F [v] [d] := .cons r .nil
theorem Reps.reverse : ∀ {xs : List V} {ds : List PV}, Reps K F xs ds → Reps K F xs.reverse ds.reverse
  | _, _, .nil => .nil
  | _, _, .cons r t => by
    rw [List.reverse_cons, List.reverse_cons]
    exact (Reps.reverse t).append (.one r)
end

/-- what a local name holds: nothing; a value; an object of its own (may be changed); the caller's object (may be changed) -/
inductive Sl where
  | no | va (d : PV) | ow (d : PV) | io (d : PV)
abbrev Ev := List Sl

inductive Own (K : PySem.W.Frag) (F H : Hp) : Addr → PV → Prop
  | lst {a : Addr} {xs : List V} {ds : List PV} : H a = some (.lst xs) → Reps K F xs ds → Own K F H a (.list ds)
  | dk {a : Addr} {kvs : List (Key × V)} {ds : List (PV × PV)} : H a = some (.dK kvs) → RepK K F kvs ds → Own K F H a (.dict ds)
  | dt {a : Addr} {kvs : List (List Key × V)} {ds : List (PV × PV)} : H a = some (.dT kvs) → RepT K F kvs ds → Own K F H a (.dict ((.none, .none) :: ds))
theorem Own.mono {K : PySem.W.Frag} {F F' H H' : Hp} {a : Addr} {d : PV} (e : Same F F') (k : H' a = H a) : Own K F H a d → Own K F' H' a d
  | .lst h r => .lst (k.trans h) (r.mono e)
  | .dk h r => .dk (k.trans h) (r.mono e)
  | .dt h r => .dt (k.trans h) (r.mono e)
theorem Own.at_ {K : PySem.W.Frag} {F H : Hp} {a : Addr} {d : PV} : Own K F H a d → ∃ o, H a = some o ∧ ∀ ps, o ≠ .tbl ps
  | .lst h _ => ⟨_, h, fun _ z => nomatch z⟩
  | .dk h _ => ⟨_, h, fun _ z => nomatch z⟩
  | .dt h _ => ⟨_, h, fun _ z => nomatch z⟩

/-- the entry: the heap, its frozen part, the caller's objects that may be changed (slot, address); objects in the making -/
structure Gh where
  H0 : Hp
  F0 : Hp
  io : List (Nat × Addr)
  tmp : List (Addr × HO)

def owns (env : Ev) (i : Nat) : Prop := ∃ d : PV, env[i]? = some (.ow d) ∨ env[i]? = some (.io d)

/-- where a def's run stands -/
structure Rel (T : List Addr) (K : PySem.W.Frag) (g : Gh) (F H : Hp) (σ : St) (env : Ev) : Prop where
  len : env.length = σ.length
  sub : Same F H
  f0 : Same g.F0 F
  new : ∀ (a : Addr) (o : HO), F a = some o → g.F0 a = some o ∨ g.H0 a = none
  keep : ∀ (a : Addr) (o : HO), g.H0 a = some o → a ∉ T → (∀ i : Nat, (i, a) ∉ g.io) → H a = some o
  tab : ∀ P ∈ T, GxR.TabG H P
  nt : ∀ P ∈ T, F P = none
  va : ∀ (i : Nat) (d : PV), env[i]? = some (.va d) → ∃ v, σ[i]? = some (some v) ∧ Rep K F v d
  ow : ∀ (i : Nat) (d : PV), env[i]? = some (.ow d) → ∃ a, σ[i]? = some (some (.ref a)) ∧ F a = none ∧ g.H0 a = none ∧ Own K F H a d
  io : ∀ (i : Nat) (d : PV), env[i]? = some (.io d) → ∃ a, (i, a) ∈ g.io ∧ σ[i]? = some (some (.ref a)) ∧ F a = none ∧ Own K F H a d
  iok : ∀ (i : Nat) (a : Addr), (i, a) ∈ g.io → σ[i]? = some (some (.ref a)) ∧ ∃ d, env[i]? = some (.io d)
  tm : ∀ (a : Addr) (o : HO), (a, o) ∈ g.tmp → H a = some o ∧ F a = none ∧ (∀ ps, o ≠ .tbl ps) ∧ ∀ i : Nat, owns env i → σ[i]? ≠ some (some (.ref a))
  sep : ∀ (i j : Nat) (a : Addr), owns env i → owns env j → σ[i]? = some (some (.ref a)) → σ[j]? = some (some (.ref a)) → i = j

/-- no name owns it, it is not in the making -/
def Alone (g : Gh) (env : Ev) (σ : St) (a : Addr) : Prop := (∀ i, owns env i → σ[i]? ≠ some (some (.ref a))) ∧ ∀ o, (a, o) ∉ g.tmp
section
variable {T : List Addr} {K : PySem.W.Frag} {g : Gh} {F H : Hp} {σ : St} {env : Ev}
theorem Same.upd {H : Hp} {p : Addr} {o : HO} (h : H p = none) : Same H (upd H p o) := fun b x e => by
  rw [upd_ne (ne_of_none e h)]
  exact e
theorem Rel.fresh (R : Rel T K g F H σ env) {p : Addr} (h : H p = none) : g.H0 p = none ∧ p ∉ T ∧ F p = none := by
  have nT : p ∉ T := fun z => by
    obtain ⟨ps, e, _⟩ := R.tab p z
    rw [h] at e; cases e
  refine ⟨?_, nT, R.sub.free h⟩
  cases q : g.H0 p with
  | none => rfl
  | some o =>
    by_cases hio : ∃ i, (i, p) ∈ g.io
    · obtain ⟨i, hi⟩ := hio
      obtain ⟨h1, d, h2⟩ := R.iok i p hi
      obtain ⟨a, _, e1, _, ho⟩ := R.io i d h2
      rw [h1] at e1
      cases e1
      obtain ⟨o', ho', _⟩ := ho.at_
      rw [h] at ho'; cases ho'
    · have := R.keep p o q nT fun i z => hio ⟨i, z⟩
      rw [h] at this; cases this
/-- an object is laid, nothing said of it -/
theorem Rel.laid (R : Rel T K g F H σ env) {p : Addr} {o : HO} (h : H p = none) : Rel T K g F (upd H p o) σ env := by
  obtain ⟨h0, nT, hF⟩ := R.fresh h
  have ne : ∀ {a : Addr} {d : PV}, Own K F H a d → a ≠ p := fun ho z => by
    obtain ⟨o', e, _⟩ := ho.at_
    rw [z, h] at e; cases e
  refine ⟨R.len, R.sub.trans (Same.upd h), R.f0, R.new, fun a o' e n1 n2 => ?_, fun P hP => ?_, R.nt, R.va, fun i d e => ?_, fun i d e => ?_, R.iok, fun a o' e => ?_, R.sep⟩
  · have : a ≠ p := fun z => by rw [z, h0] at e; cases e
    rw [upd_ne this]
    exact R.keep a o' e n1 n2
  · have : P ≠ p := fun z => nT (z ▸ hP)
    obtain ⟨ps, e, t⟩ := R.tab P hP
    exact ⟨ps, by rw [upd_ne this]; exact e, t⟩
  · obtain ⟨a, e1, e2, e3, ho⟩ := R.ow i d e
    exact ⟨a, e1, e2, e3, ho.mono (Same.refl _) (upd_ne (ne ho))⟩
  · obtain ⟨a, e0, e1, e2, ho⟩ := R.io i d e
    exact ⟨a, e0, e1, e2, ho.mono (Same.refl _) (upd_ne (ne ho))⟩
  · obtain ⟨t1, t2, t3, t4⟩ := R.tm a o' e
    exact ⟨by rw [upd_ne (ne_of_none t1 h)]; exact t1, t2, t3, t4⟩
/-- an object that no name owns is frozen -/
theorem Rel.froze (R : Rel T K g F H σ env) {p : Addr} {o : HO} (hF : F p = none) (h : H p = some o) (h0 : g.H0 p = none) (nT : p ∉ T) (no2 : Alone g env σ p) :
    Rel T K g (upd F p o) H σ env ∧ Same F (upd F p o) := by
  have no := no2.1
  have sF : Same F (upd F p o) := Same.upd hF
  refine ⟨⟨R.len, fun a o' e => ?_, R.f0.trans sF, fun a o' e => ?_, R.keep, R.tab, fun P hP => ?_, fun i d e => ?_, fun i d e => ?_, fun i d e => ?_, R.iok, fun a o' e => ?_, R.sep⟩, sF⟩
  · by_cases ha : a = p
    · rw [ha, upd_same] at e
      rw [ha, h]; exact e
    · rw [upd_ne ha] at e
      exact R.sub a o' e
  · by_cases ha : a = p
    · rw [ha]; exact .inr h0
    · rw [upd_ne ha] at e
      exact R.new a o' e
  · rw [upd_ne (fun (z : P = _) => nT (by rw [← z]; exact hP))]
    exact R.nt P hP
  · obtain ⟨v, e1, r⟩ := R.va i d e
    exact ⟨v, e1, r.mono sF⟩
  · obtain ⟨a, e1, e2, e3, ho⟩ := R.ow i d e
    have : a ≠ p := fun z => no i ⟨d, .inl e⟩ (by rw [e1, z])
    exact ⟨a, e1, by rw [upd_ne this]; exact e2, e3, ho.mono sF rfl⟩
  · obtain ⟨a, e0, e1, e2, ho⟩ := R.io i d e
    have : a ≠ p := fun z => no i ⟨d, .inr e⟩ (by rw [e1, z])
    exact ⟨a, e0, e1, by rw [upd_ne this]; exact e2, ho.mono sF rfl⟩
  · obtain ⟨t1, t2, t3, t4⟩ := R.tm a o' e
    exact ⟨t1, by rw [upd_ne (fun (z : a = p) => no2.2 o' (by rw [← z]; exact e))]; exact t2, t3, t4⟩
theorem Rel.own_ne (R : Rel T K g F H σ env) {p : Addr} (h : H p = none) : Alone g env σ p := by
  refine ⟨fun i ⟨d, hd⟩ e => ?_, fun o z => ?_⟩
  · rcases hd with hd | hd
    · obtain ⟨a, e1, _, _, ho⟩ := R.ow i d hd
      obtain ⟨o', q, _⟩ := ho.at_
      rw [e] at e1; cases e1
      rw [h] at q; cases q
    · obtain ⟨a, _, e1, _, ho⟩ := R.io i d hd
      obtain ⟨o', q, _⟩ := ho.at_
      rw [e] at e1; cases e1
      rw [h] at q; cases q
  · have q := (R.tm p o z).1
    rw [h] at q; cases q
/-- a new object is laid and frozen -/
theorem Rel.laidF (R : Rel T K g F H σ env) {p : Addr} {o : HO} (h : H p = none) : Rel T K g (upd F p o) (upd H p o) σ env ∧ Same F (upd F p o) :=
  let ⟨h0, nT, hF⟩ := R.fresh h
  (R.laid h).froze hF upd_same h0 nT (R.own_ne h)
/-- a name's own object is frozen -/
theorem Rel.still (R : Rel T K g F H σ env) {i : Nat} {d : PV} (e : env[i]? = some (.ow d)) :
    ∃ F' v, Rel T K g F' H σ (env.set i (.va d)) ∧ Same F F' ∧ σ[i]? = some (some v) ∧ Rep K F' v d := by
  obtain ⟨a, e1, e2, e3, ho⟩ := R.ow i d e
  obtain ⟨o, hH, hnt⟩ := ho.at_
  have hi : i < env.length := (List.getElem?_eq_some_iff.mp e).1
  have nT : a ∉ T := fun z => by
    obtain ⟨ps, q, _⟩ := R.tab a z
    rw [hH] at q; cases q
    exact hnt ps rfl
  have get : ∀ j s, j ≠ i → (env.set i (.va d))[j]? = some s → env[j]? = some s := fun j s hj q => by
    rw [List.getElem?_set_ne (Ne.symm hj)] at q; exact q
  have own' : ∀ j, owns (env.set i (.va d)) j → j ≠ i ∧ owns env j := fun j ⟨d', hd'⟩ => by
    have hj : j ≠ i := fun z => by
      rw [z, List.getElem?_set_self hi] at hd'
      rcases hd' with q | q <;> cases q
    exact ⟨hj, d', hd'.imp (get j _ hj) (get j _ hj)⟩
  have R1 : Rel T K g F H σ (env.set i (.va d)) → True := fun _ => trivial
  -- first forget the name's own
  have sF : Same F (upd F a o) := Same.upd e2
  have rep : Rep K (upd F a o) (.ref a) d := by
    cases ho with
    | lst h r =>
      rw [h] at hH; cases hH
      exact .lst upd_same (r.mono sF)
    | dk h r =>
      rw [h] at hH; cases hH
      exact .dk upd_same (r.mono sF)
    | dt h r =>
      rw [h] at hH; cases hH
      exact .dt upd_same (r.mono sF)
  have ne : ∀ j b, j ≠ i → owns env j → σ[j]? = some (some (.ref b)) → b ≠ a := fun j b hj oj ej z => by
    subst z
    exact hj (R.sep j i b oj ⟨d, .inl e⟩ ej e1)
  refine ⟨upd F a o, .ref a, ⟨by rw [List.length_set]; exact R.len, fun b o' q => ?_, R.f0.trans sF, fun b o' q => ?_, R.keep, R.tab, fun P hP => ?_, fun j d' q => ?_, fun j d' q => ?_, fun j d' q => ?_, fun j b q => ?_, fun b o' q => ?_, fun j k b q1 q2 => ?_⟩, sF, e1, rep⟩
  · by_cases hb : b = a
    · rw [hb, upd_same] at q
      rw [hb, hH]; exact q
    · rw [upd_ne hb] at q
      exact R.sub b o' q
  · by_cases hb : b = a
    · rw [hb]; exact .inr e3
    · rw [upd_ne hb] at q
      exact R.new b o' q
  · rw [upd_ne (fun (z : P = _) => nT (by rw [← z]; exact hP))]
    exact R.nt P hP
  · by_cases hj : j = i
    · rw [hj, List.getElem?_set_self hi] at q
      cases q
      rw [hj]
      exact ⟨_, e1, rep⟩
    · obtain ⟨v, q1, r⟩ := R.va j d' (get j _ hj q)
      exact ⟨v, q1, r.mono sF⟩
  · have hj : j ≠ i := fun z => by rw [z, List.getElem?_set_self hi] at q; cases q
    obtain ⟨b, q1, q2, q3, ho'⟩ := R.ow j d' (get j _ hj q)
    have : b ≠ a := ne j b hj ⟨d', .inl (get j _ hj q)⟩ q1
    exact ⟨b, q1, by rw [upd_ne this]; exact q2, q3, ho'.mono sF rfl⟩
  · have hj : j ≠ i := fun z => by rw [z, List.getElem?_set_self hi] at q; cases q
    obtain ⟨b, q0, q1, q2, ho'⟩ := R.io j d' (get j _ hj q)
    have : b ≠ a := ne j b hj ⟨d', .inr (get j _ hj q)⟩ q1
    exact ⟨b, q0, q1, by rw [upd_ne this]; exact q2, ho'.mono sF rfl⟩
  · obtain ⟨q1, d', q2⟩ := R.iok j b q
    have hj : j ≠ i := fun z => by rw [z, e] at q2; cases q2
    exact ⟨q1, d', by rw [List.getElem?_set_ne (Ne.symm hj)]; exact q2⟩
  · obtain ⟨t1, t2, t3, t4⟩ := R.tm b o' q
    have hb : b ≠ a := fun z => t4 i ⟨d, .inl e⟩ (by rw [e1, z])
    exact ⟨t1, by rw [upd_ne hb]; exact t2, t3, fun j hj => t4 j (own' j hj).2⟩
  · exact R.sep j k b (own' j q1).2 (own' k q2).2
end
end Fx

namespace Fx
open PySem PySem.Spec L2
open PyProof.Rows hiding St

theorem _root_.L2.PE.weak {X : Cx} {e : Expr} {t t' : TE} (h : PE X e t) (w : ∀ σ H Q, t' σ H Q → t σ H Q) : PE X e t' := ⟨fun pins s σ H Q I q => h.run pins s σ H Q I (w σ H Q q)⟩
theorem _root_.L2.PT.weak {X : Cx} {e : Expr} {t t' : TT} (h : PT X e t) (w : ∀ σ H Q, t' σ H Q → t σ H Q) : PT X e t' := ⟨fun pins s σ H Q I q => h.run pins s σ H Q I (w σ H Q q)⟩
theorem _root_.L2.PW.weak {X : Cx} {e : Expr} {t t' : TT} (h : PW X e t) (w : ∀ σ H Q, t' σ H Q → t σ H Q) : PW X e t' := ⟨fun wh pins s σ H Q I q => h.run wh pins s σ H Q I (w σ H Q q)⟩
theorem _root_.L2.PA.weak {X : Cx} {e : List Expr} {t t' : TA} (h : PA X e t) (w : ∀ σ H Q, t' σ H Q → t σ H Q) : PA X e t' := ⟨fun pos pins s σ H Q I q => h.run pos pins s σ H Q I (w σ H Q q)⟩
theorem _root_.L2.PS.weak {X : Cx} {e : Stmt} {t t' : TS} (h : PS X e t) (w : ∀ D σ H, t' D σ H → t D σ H) : PS X e t' := ⟨fun pins s σ H D I q => h.run pins s σ H D I (w D σ H q)⟩
theorem _root_.L2.PSs.weak {X : Cx} {e : List Stmt} {t t' : TS} (h : PSs X e t) (w : ∀ D σ H, t' D σ H → t D σ H) : PSs X e t' := ⟨fun pins s σ H D I q => h.run pins s σ H D I (w D σ H q)⟩
theorem _root_.L2.PG.weak {X : Cx} {e : Expr} {t t' : TG} (h : PG X e t) (w : ∀ v σ H Q, t' v σ H Q → t v σ H Q) : PG X e t' := ⟨fun pins s σ H v u Q I r q => h.run pins s σ H v u Q I r (w v σ H Q q)⟩
theorem _root_.L2.PGs.weak {X : Cx} {e : List Expr} {t t' : TGs} (h : PGs X e t) (w : ∀ v σ H Q, t' v σ H Q → t v σ H Q) : PGs X e t' := ⟨fun pins s σ H v u Q I r q => h.run pins s σ H v u Q I r (w v σ H Q q)⟩

theorem wipe_get {σ : St} : ∀ {vs : List Nat} {j : Nat}, (wipe σ vs)[j]? = if j ∈ vs ∧ j < σ.length then some none else σ[j]?
  | [], j => by simp [wipe]
  | v :: vs, j => by
    unfold wipe
    by_cases h : v = j
    · subst h
      by_cases hl : v < σ.length
      · rw [List.getElem?_set_self (by rw [wipe_length]; exact hl), if_pos ⟨List.mem_cons_self, hl⟩]
      · rw [List.getElem?_eq_none (by rw [List.length_set, wipe_length]; omega), if_neg (fun z => hl z.2), List.getElem?_eq_none (by omega)]
    · rw [List.getElem?_set_ne h, wipe_get]
      have : (j ∈ v :: vs) ↔ j ∈ vs := by
        rw [List.mem_cons]
        exact ⟨fun z => z.resolve_left (fun z => h z.symm), .inr⟩
      simp only [this]
theorem wipe_set {σ : St} {i : Nat} {x : Option V} {vs : List Nat} (h : i ∈ vs) : wipe (σ.set i x) vs = wipe σ vs := by
  apply List.ext_getElem?
  intro j
  rw [wipe_get, wipe_get, List.length_set]
  by_cases hj : j = i
  · subst hj
    by_cases hl : j < σ.length
    · rw [if_pos ⟨h, hl⟩, if_pos ⟨h, hl⟩]
    · rw [if_neg (fun z => hl z.2), if_neg (fun z => hl z.2), List.getElem?_eq_none (by rw [List.length_set]; omega), List.getElem?_eq_none (by omega)]
  · rw [List.getElem?_set_ne (Ne.symm hj)]

abbrev EF := Ev → Option (PV × Ev)
abbrev AF := Ev → Option (List PV × Ev)
abbrev TF := Ev → Option (Bool × Ev)
abbrev BF := PV → Ev → Option Ev
inductive Out where
  | nx (e : Ev) | rt (d : PV) (e : Ev) | rf (d : PV) (e : Ev) | bk (e : Ev) | ct (e : Ev)
abbrev SF := Ev → Option Out

section
variable (T : List Addr) (K : PySem.W.Frag)
def RE (f : EF) : TE := fun σ H Q => ∃ g F env d env', Rel T K g F H σ env ∧ f env = some (d, env') ∧ ∀ v H' F', Rel T K g F' H' σ env' → Same F F' → Rep K F' v d → Q v H'
/-- the value is a new object that nobody else holds -/
def RN (f : EF) : TE := fun σ H Q => ∃ g F env d env', Rel T K g F H σ env ∧ f env = some (d, env') ∧
  ∀ a H' F', Rel T K g F' H' σ env' → Same F F' → F' a = none → g.H0 a = none → Alone g env' σ a → Own K F' H' a d → Q (.ref a) H'
def RA (f : AF) : TA := fun σ H Q => ∃ g F env ds env', Rel T K g F H σ env ∧ f env = some (ds, env') ∧ ∀ vs H' F', Rel T K g F' H' σ env' → Same F F' → Reps K F' vs ds → Q vs H'
def RT (f : TF) : TT := fun σ H Q => ∃ g F env b env', Rel T K g F H σ env ∧ f env = some (b, env') ∧ ∀ H' F', Rel T K g F' H' σ env' → Same F F' → Q b H'
def RB (ts : List Nat) (f : BF) : TG := fun v σ H Q => ∃ g F env d env', Rel T K g F H σ env ∧ Rep K F v d ∧ f d env = some env' ∧ ∀ σ' H' F', Rel T K g F' H' σ' env' → Same F F' → (∀ vs : List Nat, (∀ i ∈ ts, i ∈ vs) → wipe σ' vs = wipe σ vs) → Q σ' H'
def RBs (ts : List Nat) (f : List PV → Ev → Option Ev) : TGs := fun vs σ H Q => ∃ g F env ds env', Rel T K g F H σ env ∧ Reps K F vs ds ∧ f ds env = some env' ∧ ∀ σ' H' F', Rel T K g F' H' σ' env' → Same F F' → (∀ vs : List Nat, (∀ i ∈ ts, i ∈ vs) → wipe σ' vs = wipe σ vs) → Q σ' H'
def Post (g : Gh) (F : Hp) (D : Ends) : Out → Prop
  | .nx e => ∀ σ' H' F', Rel T K g F' H' σ' e → Same F F' → D.nx σ' H'
  | .rt d e => ∀ v σ' H' F', Rel T K g F' H' σ' e → Same F F' → Rep K F' v d → D.rt v H'
  | .rf d e => ∀ a σ' H' F', Rel T K g F' H' σ' e → Same F F' → F' a = none → g.H0 a = none → Alone g e σ' a → Own K F' H' a d → D.rt (.ref a) H'
  | .bk e => ∀ σ' H' F', Rel T K g F' H' σ' e → Same F F' → D.bk σ' H'
  | .ct e => ∀ σ' H' F', Rel T K g F' H' σ' e → Same F F' → D.ct σ' H'
def RS (f : SF) : TS := fun D σ H => ∃ g F env out, Rel T K g F H σ env ∧ f env = some out ∧ Post T K g F D out
end
def FE (T : List Addr) (X : Cx) (e : Expr) (f : EF) : Prop := PE X e (RE T X.K f)
def FN (T : List Addr) (X : Cx) (e : Expr) (f : EF) : Prop := PE X e (RN T X.K f)
def FA (T : List Addr) (X : Cx) (e : List Expr) (f : AF) : Prop := PA X e (RA T X.K f)
def FT (T : List Addr) (X : Cx) (e : Expr) (f : TF) : Prop := PT X e (RT T X.K f)
def FW (T : List Addr) (X : Cx) (e : Expr) (f : TF) : Prop := PW X e (RT T X.K f)
def FB (T : List Addr) (X : Cx) (e : Expr) (ts : List Nat) (f : BF) : Prop := PG X e (RB T X.K ts f)
def FBs (T : List Addr) (X : Cx) (e : List Expr) (ts : List Nat) (f : List PV → Ev → Option Ev) : Prop := PGs X e (RBs T X.K ts f)
def FS (T : List Addr) (X : Cx) (st : Stmt) (f : SF) : Prop := PS X st (RS T X.K f)
def FSs (T : List Addr) (X : Cx) (st : List Stmt) (f : SF) : Prop := PSs X st (RS T X.K f)

theorem Post.mono {T : List Addr} {K : PySem.W.Frag} {g : Gh} {F F' : Hp} {D : Ends} (s : Same F F') : ∀ {o : Out}, Post T K g F D o → Post T K g F' D o
  | .nx _, h => fun σ' H' F2 R s2 => h σ' H' F2 R (s.trans s2)
  | .rt _ _, h => fun v σ' H' F2 R s2 => h v σ' H' F2 R (s.trans s2)
  | .rf _ _, h => fun a σ' H' F2 R s2 => h a σ' H' F2 R (s.trans s2)
  | .bk _, h => fun σ' H' F2 R s2 => h σ' H' F2 R (s.trans s2)
  | .ct _, h => fun σ' H' F2 R s2 => h σ' H' F2 R (s.trans s2)

section
variable {T : List Addr} {X : Cx}

def kE (d : PV) : EF := fun env => some (d, env)
theorem fe_val {e : Expr} {v : V} {d : PV} (h : PE X e (tC v)) (r : ∀ F, Rep X.K F v d) : FE T X e (kE d) :=
  h.weak fun σ H Q ⟨g, F, env, d', env', R, e, q⟩ => by
    cases e
    exact q v H F R (Same.refl _) (r F)
theorem fe_int {i : Int} {j : Nat} {pos : Pos} : FE T X (.Constant (.int i) j pos) (kE (.int i)) := fe_val pe_int fun _ => .int i
theorem fe_bl {b : Bool} {j : Nat} {pos : Pos} : FE T X (.Constant (.bool b) j pos) (kE (.bool b)) := fe_val pe_bl fun _ => .bl b
theorem fe_non {j : Nat} {pos : Pos} : FE T X (.Constant .none j pos) (kE .none) := fe_val pe_non fun _ => .non
theorem fe_str {x : Str} {j : Nat} {pos : Pos} : FE T X (.Constant (.str x) j pos) (kE (.str x)) := fe_val pe_str fun _ => .str x

/-- a name's value; its own object is frozen -/
def nm (i : Nat) : EF := fun env => match env[i]? with
  | some (.va d) => some (d, env)
  | some (.ow d) => some (d, env.set i (.va d))
  | _ => none
theorem fe_nm (i : Nat) {x : Str} {pos : Pos} (hN : X.N[i]? = some x := by rfl) (hv : Vis X.env.scope x := by first | exact Or.inl rfl | exact Or.inr (Or.inl rfl) | exact Or.inr (Or.inr rfl))
    (hd : (x == ("__debug__" : Str)) = false := by decide) (hcd : (x == ("__classdict__" : Str)) = false := by decide) : FE T X (.Name x pos) (nm i) :=
  (pe_var hN hv hd hcd).weak fun σ H Q ⟨g, F, env, d', env', R, e, q⟩ => by
    unfold nm at e
    split at e
    · rename_i d h
      cases e
      obtain ⟨v, e1, r⟩ := R.va i _ h
      exact ⟨v, e1, q v H F R (Same.refl _) r⟩
    · rename_i d h
      cases e
      obtain ⟨F', v, R', s, e1, r⟩ := R.still h
      exact ⟨v, e1, q v H F' R' s r⟩
    · cases e

theorem Own.rep {K : PySem.W.Frag} {F H : Hp} {a : Addr} {d : PV} (ho : Own K F H a d) (hF : F a = none) : ∃ o, H a = some o ∧ (∀ ps, o ≠ .tbl ps) ∧ Rep K (upd F a o) (.ref a) d := by
  cases ho with
  | lst h r => exact ⟨_, h, (fun _ z => nomatch z), .lst upd_same (r.mono (Same.upd hF))⟩
  | dk h r => exact ⟨_, h, (fun _ z => nomatch z), .dk upd_same (r.mono (Same.upd hF))⟩
  | dt h r => exact ⟨_, h, (fun _ z => nomatch z), .dt upd_same (r.mono (Same.upd hF))⟩
theorem Rel.notT {K : PySem.W.Frag} {g : Gh} {F H : Hp} {σ : St} {env : Ev} (R : Rel T K g F H σ env) {a : Addr} {o : HO} (h : H a = some o) (n : ∀ ps, o ≠ .tbl ps) : a ∉ T := fun z => by
  obtain ⟨ps, e, _⟩ := R.tab a z
  rw [h] at e; cases e
  exact n ps rfl
theorem FN.fe {e : Expr} {f : EF} (h : FN T X e f) : FE T X e f :=
  PE.weak h fun σ H Q ⟨g, F, env, d, env', R, e, q⟩ => ⟨g, F, env, d, env', R, e, fun a H' F' R' s hF h0 no ho => by
    obtain ⟨o, hH, hn, r⟩ := ho.rep hF
    obtain ⟨R2, s2⟩ := R'.froze hF hH h0 (R'.notT hH hn) no
    exact q _ _ _ R2 (s.trans s2) r⟩

def bin (g : PV → PV → Option PV) (fa fb : EF) : EF := fun env => match fa env with
  | none => none
  | some (a, e1) => match fb e1 with
    | none => none
    | some (b, e2) => match g a b with
      | none => none
      | some r => some (r, e2)
/-- a rule by values keeps to a function of plain values -/
def OpF (T : List Addr) (K : PySem.W.Frag) (r : R2) (g : PV → PV → Option PV) : Prop :=
  ∀ gh F H σ env x y a b d (Q : VK), Rel T K gh F H σ env → Rep K F x a → Rep K F y b → g a b = some d → (∀ v H' F', Rel T K gh F' H' σ env → Same F F' → Rep K F' v d → Q v H') → r x y H Q
theorem re_bin {r : R2} {g : PV → PV → Option PV} {ta tb : TE} {fa fb : EF} {K : PySem.W.Frag} (hg : OpF T K r g) : ∀ σ H Q, RE T K (bin g fa fb) σ H Q → tOp r (RE T K fa) (RE T K fb) σ H Q := by
  rintro σ H Q ⟨gh, F, env, d, env', R, e, q⟩
  unfold bin at e
  split at e
  · cases e
  · rename_i a e1 ea
    split at e
    · cases e
    · rename_i b e2 eb
      split at e
      · cases e
      · rename_i d' eg
        cases e
        refine ⟨gh, F, env, a, e1, R, ea, fun x H1 F1 R1 s1 ra => ⟨gh, F1, e1, b, _, R1, eb, fun y H2 F2 R2 s2 rb => ?_⟩⟩
        exact hg gh F2 H2 σ _ x y a b _ Q R2 (ra.mono s2) rb eg fun v H3 F3 R3 s3 r3 => q v H3 F3 R3 (s1.trans (s2.trans s3)) r3
theorem fe_op {op : Operator} {a b : Expr} {pos : Pos} {r : R2} {g : PV → PV → Option PV} {fa fb : EF} (ho : OpR X (binaryOp op) r) (hg : OpF T X.K r g) (ha : FE T X a fa) (hb : FE T X b fb) : FE T X (.BinOp a op b pos) (bin g fa fb) :=
  (pe_op ho ha hb).weak (re_bin (ta := RE T X.K fa) (tb := RE T X.K fb) hg)
theorem fe_cmp {op : CmpOp} {a b : Expr} {pos : Pos} {r : R2} {g : PV → PV → Option PV} {fa fb : EF} (ho : OpR X (compareOp op) r) (hg : OpF T X.K r g) (ha : FE T X a fa) (hb : FE T X b fb) (hm : behindInMarks op b = false := by first | exact nomark _ | with_unfolding_all rfl) : FE T X (.Compare a [op] [b] pos) (bin g fa fb) :=
  (pe_cmpR ho ha hb hm).weak (re_bin (ta := RE T X.K fa) (tb := RE T X.K fb) hg)
def un (g : PV → Option PV) (fa : EF) : EF := fun env => match fa env with
  | none => none
  | some (a, e1) => match g a with
    | none => none
    | some r => some (r, e1)

/-- a bool as a test -/
def tB' (f : EF) : TF := fun env => match f env with
  | some (.bool b, e) => some (b, e)
  | _ => none
theorem rt_b {f : EF} {K : PySem.W.Frag} : ∀ σ H Q, RT T K (tB' f) σ H Q → tTest (RE T K f) σ H Q := by
  rintro σ H Q ⟨gh, F, env, b, env', R, e, q⟩
  unfold tB' at e
  split at e
  · rename_i b' e' ef
    cases e
    exact ⟨gh, F, env, _, _, R, ef, fun v H1 F1 R1 s1 r1 => by cases r1; exact ⟨_, rfl, q H1 F1 R1 s1⟩⟩
  · cases e
theorem tTest_mono {t t' : TE} (w : ∀ σ H Q, t' σ H Q → t σ H Q) : ∀ σ H Q, tTest t' σ H Q → tTest t σ H Q := fun σ H Q h => w σ H _ h
theorem ft_cmp {op : CmpOp} {a b : Expr} {pos : Pos} {r : R2} {g : PV → PV → Option PV} {fa fb : EF} (ho : OpR X (compareOp op) r) (hg : OpF T X.K r g) (ha : FE T X a fa) (hb : FE T X b fb) (hm : behindInMarks op b = false := by first | exact nomark _ | with_unfolding_all rfl) : FT T X (.Compare a [op] [b] pos) (tB' (bin g fa fb)) :=
  PT.weak (pt_cmpR ho ha hb hm) fun σ H Q h => tTest_mono (re_bin (ta := RE T X.K fa) (tb := RE T X.K fb) hg) σ H Q (rt_b σ H Q h)
/-- an expression whose value is a bool, as a test -/
theorem ft_val {e : Expr} {f : EF} (h : FE T X e f) (he : ∀ whole, isTrue e X.env whole = (do let v ← whole; standAt e.pos; holding [v] (truthy v)) := by intro _; rfl) : FT T X e (tB' f) :=
  PT.weak (pt_val h he) rt_b
def tNt (f : TF) : TF := fun env => match f env with
  | some (b, e) => some (!b, e)
  | none => none
theorem ft_not {a : Expr} {pos : Pos} {f : TF} (h : FT T X a f) : FT T X (.UnaryOp .Not a pos) (tNt f) :=
  PT.weak (pt_not h) fun σ H Q ⟨gh, F, env, b, env', R, e, q⟩ => by
    unfold tNt at e
    split at e
    · rename_i b' e' ef
      cases e
      exact ⟨gh, F, env, _, _, R, ef, q⟩
    · cases e
def tAn (f h : TF) : TF := fun env => match f env with
  | some (true, e) => h e
  | some (false, e) => some (false, e)
  | none => none
def tOr' (f h : TF) : TF := fun env => match f env with
  | some (true, e) => some (true, e)
  | some (false, e) => h e
  | none => none
theorem fw_and1 {a : Expr} {pos : Pos} {f : TF} (h : FT T X a f) : FW T X (.BoolOp .And [a] pos) f := pw_and1 h
theorem fw_or1 {a : Expr} {pos : Pos} {f : TF} (h : FT T X a f) : FW T X (.BoolOp .Or [a] pos) f := pw_or1 h
theorem rt_and {f h : TF} {K : PySem.W.Frag} : ∀ σ H Q, RT T K (tAn f h) σ H Q → tAnd (RT T K f) (RT T K h) σ H Q := by
  rintro σ H Q ⟨gh, F, env, b, env', R, e, q⟩
  unfold tAn at e
  split at e
  · rename_i e1 ef
    exact ⟨gh, F, env, _, _, R, ef, fun H1 F1 R1 s1 => iteT ⟨gh, F1, _, _, _, R1, e, fun H2 F2 R2 s2 => q H2 F2 R2 (s1.trans s2)⟩⟩
  · rename_i e1 ef
    cases e
    exact ⟨gh, F, env, _, _, R, ef, fun H1 F1 R1 s1 => iteF (q H1 F1 R1 s1)⟩
  · cases e
theorem rt_or {f h : TF} {K : PySem.W.Frag} : ∀ σ H Q, RT T K (tOr' f h) σ H Q → L2.tOr (RT T K f) (RT T K h) σ H Q := by
  rintro σ H Q ⟨gh, F, env, b, env', R, e, q⟩
  unfold tOr' at e
  split at e
  · rename_i e1 ef
    cases e
    exact ⟨gh, F, env, _, _, R, ef, fun H1 F1 R1 s1 => iteT (q H1 F1 R1 s1)⟩
  · rename_i e1 ef
    exact ⟨gh, F, env, _, _, R, ef, fun H1 F1 R1 s1 => iteF ⟨gh, F1, _, _, _, R1, e, fun H2 F2 R2 s2 => q H2 F2 R2 (s1.trans s2)⟩⟩
  · cases e
theorem fw_and {a b : Expr} {rest : List Expr} {pos : Pos} {f h : TF} (ha : FT T X a f) (hb : FW T X (.BoolOp .And (b :: rest) pos) h) : FW T X (.BoolOp .And (a :: b :: rest) pos) (tAn f h) := (pw_and ha hb).weak rt_and
theorem fw_or {a b : Expr} {rest : List Expr} {pos : Pos} {f h : TF} (ha : FT T X a f) (hb : FW T X (.BoolOp .Or (b :: rest) pos) h) : FW T X (.BoolOp .Or (a :: b :: rest) pos) (tOr' f h) := (pw_or ha hb).weak rt_or
theorem FW.ft {e : Expr} {f : TF} (h : FW T X e f) : FT T X e f := PW.pt h
/-- .. as values -/
def vAn (f h : EF) : EF := fun env => match f env with
  | some (.bool true, e) => h e
  | some (.bool false, e) => some (.bool false, e)
  | _ => none
def vOr (f h : EF) : EF := fun env => match f env with
  | some (.bool true, e) => some (.bool true, e)
  | some (.bool false, e) => h e
  | _ => none
def vNt (f : EF) : EF := fun env => match f env with
  | some (.bool b, e) => some (.bool (!b), e)
  | _ => none
theorem fe_one {op : BoolOp} {a : Expr} {pos : Pos} {f : EF} (h : FE T X a f) : FE T X (.BoolOp op [a] pos) f := pe_one h
theorem fe_and {a b : Expr} {rest : List Expr} {pos : Pos} {f h : EF} (ha : FE T X a f) (hb : FE T X (.BoolOp .And (b :: rest) pos) h) : FE T X (.BoolOp .And (a :: b :: rest) pos) (vAn f h) :=
  (pe_and ha hb).weak fun σ H Q ⟨gh, F, env, d, env', R, e, q⟩ => by
    unfold vAn at e
    split at e
    · rename_i e1 ef
      exact ⟨gh, F, env, _, _, R, ef, fun v H1 F1 R1 s1 r1 => by cases r1; exact ⟨_, rfl, iteT ⟨gh, F1, _, _, _, R1, e, fun w H2 F2 R2 s2 => q w H2 F2 R2 (s1.trans s2)⟩⟩⟩
    · rename_i e1 ef
      cases e
      exact ⟨gh, F, env, _, _, R, ef, fun v H1 F1 R1 s1 r1 => by cases r1; exact ⟨_, rfl, iteF (q _ H1 F1 R1 s1 (.bl false))⟩⟩
    · cases e
theorem fe_or {a b : Expr} {rest : List Expr} {pos : Pos} {f h : EF} (ha : FE T X a f) (hb : FE T X (.BoolOp .Or (b :: rest) pos) h) : FE T X (.BoolOp .Or (a :: b :: rest) pos) (vOr f h) :=
  (pe_or ha hb).weak fun σ H Q ⟨gh, F, env, d, env', R, e, q⟩ => by
    unfold vOr at e
    split at e
    · rename_i e1 ef
      cases e
      exact ⟨gh, F, env, _, _, R, ef, fun v H1 F1 R1 s1 r1 => by cases r1; exact ⟨_, rfl, iteT (q _ H1 F1 R1 s1 (.bl true))⟩⟩
    · rename_i e1 ef
      exact ⟨gh, F, env, _, _, R, ef, fun v H1 F1 R1 s1 r1 => by cases r1; exact ⟨_, rfl, iteF ⟨gh, F1, _, _, _, R1, e, fun w H2 F2 R2 s2 => q w H2 F2 R2 (s1.trans s2)⟩⟩⟩
    · cases e
theorem fe_not {a : Expr} {pos : Pos} {f : EF} (ha : FE T X a f) : FE T X (.UnaryOp .Not a pos) (vNt f) :=
  (pe_not ha).weak fun σ H Q ⟨gh, F, env, d, env', R, e, q⟩ => by
    unfold vNt at e
    split at e
    · rename_i b' e' ef
      cases e
      exact ⟨gh, F, env, _, _, R, ef, fun v H1 F1 R1 s1 r1 => by cases r1; exact ⟨_, rfl, q _ H1 F1 R1 s1 (.bl _)⟩⟩
    · cases e
def eIf (t : TF) (f h : EF) : EF := fun env => match t env with
  | some (true, e) => f e
  | some (false, e) => h e
  | none => none
theorem fe_if {c a b : Expr} {pos : Pos} {t : TF} {f h : EF} (hc : FT T X c t) (ha : FE T X a f) (hb : FE T X b h) : FE T X (.IfExp c a b pos) (eIf t f h) :=
  (pe_ifExp hc ha hb).weak fun σ H Q ⟨gh, F, env, d, env', R, e, q⟩ => by
    unfold eIf at e
    split at e
    · rename_i e1 ef
      exact ⟨gh, F, env, _, _, R, ef, fun H1 F1 R1 s1 => iteT ⟨gh, F1, _, _, _, R1, e, fun w H2 F2 R2 s2 => q w H2 F2 R2 (s1.trans s2)⟩⟩
    · rename_i e1 ef
      exact ⟨gh, F, env, _, _, R, ef, fun H1 F1 R1 s1 => iteF ⟨gh, F1, _, _, _, R1, e, fun w H2 F2 R2 s2 => q w H2 F2 R2 (s1.trans s2)⟩⟩
    · cases e

def aNil : AF := fun env => some ([], env)
def aCons (f : EF) (h : AF) : AF := fun env => match f env with
  | none => none
  | some (d, e) => match h e with
    | none => none
    | some (ds, e') => some (d :: ds, e')
theorem fa_nil : FA T X [] aNil := pa_nil.weak fun σ H Q ⟨gh, F, env, d, env', R, e, q⟩ => by
  cases e
  exact q [] H F R (Same.refl _) .nil
theorem fa_cons {e : Expr} {es : List Expr} {f : EF} {h : AF} (ha : FE T X e f) (hb : FA T X es h) (hst : starEach (e :: es) X.env = (false, eval e X.env) :: starEach es X.env := by rfl) : FA T X (e :: es) (aCons f h) :=
  (pa_cons ha hb hst).weak fun σ H Q ⟨gh, F, env, d, env', R, e, q⟩ => by
    unfold aCons at e
    split at e
    · cases e
    · rename_i d1 e1 ef
      split at e
      · cases e
      · rename_i ds e2 eh
        cases e
        exact ⟨gh, F, env, _, _, R, ef, fun v H1 F1 R1 s1 r1 => ⟨gh, F1, _, _, _, R1, eh, fun vs H2 F2 R2 s2 r2 => q _ H2 F2 R2 (s1.trans s2) (.cons (r1.mono s2) r2)⟩⟩

def eTup (f : AF) : EF := fun env => match f env with
  | none => none
  | some (ds, e) => if ds.length ≤ sizeLine then some (.tuple ds, e) else none
def eLst (f : AF) : EF := fun env => match f env with
  | none => none
  | some (ds, e) => if ds.length ≤ sizeLine then some (.list ds, e) else none
theorem fe_tup {es : List Expr} {k : Nat} {pos : Pos} {f : AF} (h : FA T X es f) : FE T X (.Tuple es k pos) (eTup f) :=
  (pe_tup h).weak fun σ H Q ⟨gh, F, env, d, env', R, e, q⟩ => by
    unfold eTup at e
    split at e
    · cases e
    · rename_i ds e1 ef
      split at e
      · rename_i hl
        cases e
        refine ⟨gh, F, env, _, _, R, ef, fun vs H1 F1 R1 s1 r1 => ⟨by rw [r1.len]; exact hl, fun p hp => ?_⟩⟩
        obtain ⟨R2, s2⟩ := R1.laidF (o := .tup vs) hp
        exact q _ _ _ R2 (s1.trans s2) (.tup upd_same (r1.mono s2))
      · cases e
theorem fn_lst {es : List Expr} {pos : Pos} {f : AF} (h : FA T X es f) : FN T X (.List es pos) (eLst f) :=
  (pe_lst h).weak fun σ H Q ⟨gh, F, env, d, env', R, e, q⟩ => by
    unfold eLst at e
    split at e
    · cases e
    · rename_i ds e1 ef
      split at e
      · rename_i hl
        cases e
        refine ⟨gh, F, env, _, _, R, ef, fun vs H1 F1 R1 s1 r1 => ⟨by rw [r1.len]; exact hl, fun p hp => ?_⟩⟩
        obtain ⟨h0, nT, hF⟩ := R1.fresh hp
        exact q p _ F1 (R1.laid hp) s1 hF h0 (R1.own_ne hp) (.lst upd_same r1)
      · cases e

def callF (g : List PV → Option PV) (f : AF) : EF := fun env => match f env with
  | none => none
  | some (ds, e) => match g ds with
    | none => none
    | some d => some (d, e)
def CallF (T : List Addr) (K : PySem.W.Frag) (r : List V → Hp → VK → Prop) (g : List PV → Option PV) : Prop :=
  ∀ gh F H σ env xs ds d (Q : VK), Rel T K gh F H σ env → Reps K F xs ds → g ds = some d → (∀ v H' F', Rel T K gh F' H' σ env → Same F F' → Rep K F' v d → Q v H') → r xs H Q
def CallN (T : List Addr) (K : PySem.W.Frag) (r : List V → Hp → VK → Prop) (g : List PV → Option PV) : Prop :=
  ∀ gh F H σ env xs ds d (Q : VK), Rel T K gh F H σ env → Reps K F xs ds → g ds = some d →
    (∀ a H' F', Rel T K gh F' H' σ env → Same F F' → F' a = none → gh.H0 a = none → Alone gh env σ a → Own K F' H' a d → Q (.ref a) H') → r xs H Q
theorem re_call {r : List V → Hp → VK → Prop} {g : List PV → Option PV} {f : AF} {K : PySem.W.Frag} (hg : CallF T K r g) : ∀ σ H Q, RE T K (callF g f) σ H Q → tCB r (RA T K f) σ H Q := by
  rintro σ H Q ⟨gh, F, env, d, env', R, e, q⟩
  unfold callF at e
  split at e
  · cases e
  · rename_i ds e1 ef
    split at e
    · cases e
    · rename_i d' eg
      cases e
      exact ⟨gh, F, env, _, _, R, ef, fun vs H1 F1 R1 s1 r1 => hg gh F1 H1 σ _ vs ds _ Q R1 r1 eg fun v H2 F2 R2 s2 r2 => q v H2 F2 R2 (s1.trans s2) r2⟩
theorem rn_call {r : List V → Hp → VK → Prop} {g : List PV → Option PV} {f : AF} {K : PySem.W.Frag} (hg : CallN T K r g) : ∀ σ H Q, RN T K (callF g f) σ H Q → tCB r (RA T K f) σ H Q := by
  rintro σ H Q ⟨gh, F, env, d, env', R, e, q⟩
  unfold callF at e
  split at e
  · cases e
  · rename_i ds e1 ef
    split at e
    · cases e
    · rename_i d' eg
      cases e
      exact ⟨gh, F, env, _, _, R, ef, fun vs H1 F1 R1 s1 r1 => hg gh F1 H1 σ _ vs ds _ Q R1 r1 eg fun a H2 F2 R2 s2 => q a H2 F2 R2 (s1.trans s2)⟩
theorem fe_callB {x : Str} {p pos : Pos} {e : Expr} {es : List Expr} {id : String} {r : List V → Hp → VK → Prop} {g : List PV → Option PV} {f : AF} (hc : CallR X (.builtin id) r) (cg : CallF T X.K r g) (hg : Gl X x) (hm : X.mg x = none) (hv : bootBuiltins x = some (.builtin id)) (ha : FA T X (e :: es) f)
    (hn : x ≠ "__name__" := by decide) (hdb : (x == ("__debug__" : Str)) = false := by decide) (he : starEach (e :: es) X.env = (false, eval e X.env) :: starEach es X.env := by rfl) (hpl : (backTo pos (starEach es X.env)).any (·.1) = false := by rfl) : FE T X (.Call (.Name x p) (e :: es) [] pos) (callF g f) :=
  (pe_callB hc hg hm hv ha hn hdb he hpl).weak (re_call cg)
theorem fn_callB {x : Str} {p pos : Pos} {e : Expr} {es : List Expr} {id : String} {r : List V → Hp → VK → Prop} {g : List PV → Option PV} {f : AF} (hc : CallR X (.builtin id) r) (cg : CallN T X.K r g) (hg : Gl X x) (hm : X.mg x = none) (hv : bootBuiltins x = some (.builtin id)) (ha : FA T X (e :: es) f)
    (hn : x ≠ "__name__" := by decide) (hdb : (x == ("__debug__" : Str)) = false := by decide) (he : starEach (e :: es) X.env = (false, eval e X.env) :: starEach es X.env := by rfl) (hpl : (backTo pos (starEach es X.env)).any (·.1) = false := by rfl) : FN T X (.Call (.Name x p) (e :: es) [] pos) (callF g f) :=
  (pe_callB hc hg hm hv ha hn hdb he hpl).weak (rn_call cg)
theorem fe_callTy {x : Str} {p pos : Pos} {e : Expr} {es : List Expr} {id : String} {r : List V → Hp → VK → Prop} {g : List PV → Option PV} {f : AF} (hc : CallR X (.type id) r) (cg : CallF T X.K r g) (hg : Gl X x) (hm : X.mg x = none) (hv : bootBuiltins x = some (.type id)) (ha : FA T X (e :: es) f)
    (hn : x ≠ "__name__" := by decide) (hdb : (x == ("__debug__" : Str)) = false := by decide) (he : starEach (e :: es) X.env = (false, eval e X.env) :: starEach es X.env := by rfl) (hpl : (backTo pos (starEach es X.env)).any (·.1) = false := by rfl) : FE T X (.Call (.Name x p) (e :: es) [] pos) (callF g f) :=
  (pe_callTy hc hg hm hv ha hn hdb he hpl).weak (re_call cg)
theorem fn_callTy {x : Str} {p pos : Pos} {e : Expr} {es : List Expr} {id : String} {r : List V → Hp → VK → Prop} {g : List PV → Option PV} {f : AF} (hc : CallR X (.type id) r) (cg : CallN T X.K r g) (hg : Gl X x) (hm : X.mg x = none) (hv : bootBuiltins x = some (.type id)) (ha : FA T X (e :: es) f)
    (hn : x ≠ "__name__" := by decide) (hdb : (x == ("__debug__" : Str)) = false := by decide) (he : starEach (e :: es) X.env = (false, eval e X.env) :: starEach es X.env := by rfl) (hpl : (backTo pos (starEach es X.env)).any (·.1) = false := by rfl) : FN T X (.Call (.Name x p) (e :: es) [] pos) (callF g f) :=
  (pe_callTy hc hg hm hv ha hn hdb he hpl).weak (rn_call cg)
theorem fe_callBfun {x : Str} {p pos : Pos} {e : Expr} {es : List Expr} {id : String} {r : List V → Hp → VK → Prop} {g : List PV → Option PV} {f : AF} (hc : CallR X (.builtin id) r) (cg : CallF T X.K r g) (hg : Gl X x) (hm : X.mg x = some (.builtin id)) (ha : FA T X (e :: es) f)
    (hdb : (x == ("__debug__" : Str)) = false := by decide) (he : starEach (e :: es) X.env = (false, eval e X.env) :: starEach es X.env := by rfl) (hpl : (backTo pos (starEach es X.env)).any (·.1) = false := by rfl) : FE T X (.Call (.Name x p) (e :: es) [] pos) (callF g f) :=
  (pe_callBfun hc hg hm ha hdb he hpl).weak (re_call cg)

def sSkip : SF := fun env => some (.nx env)
def sSeq (f h : SF) : SF := fun env => match f env with
  | some (.nx e) => h e
  | o => o
theorem rs_seq {f h : SF} {K : PySem.W.Frag} : ∀ D σ H, RS T K (sSeq f h) D σ H → tSeq (RS T K f) (RS T K h) D σ H := by
  rintro D σ H ⟨gh, F, env, out, R, e, q⟩
  unfold sSeq at e
  split at e
  · rename_i e1 ef
    exact ⟨gh, F, env, _, R, ef, fun σ' H1 F1 R1 s1 => ⟨gh, F1, _, _, R1, e, q.mono s1⟩⟩
  · rename_i hno
    refine ⟨gh, F, env, out, R, e, ?_⟩
    cases out with
    | nx e1 => exact absurd e (hno e1)
    | rt d e1 => exact q
    | rf d e1 => exact q
    | bk e1 => exact q
    | ct e1 => exact q
theorem fss_nil : FSs T X [] sSkip := pss_nil.weak fun D σ H ⟨gh, F, env, out, R, e, q⟩ => by
  cases e
  exact q σ H F R (Same.refl _)
theorem fss_cons {st : Stmt} {rest : List Stmt} {f h : SF} (h1 : FS T X st f) (h2 : FSs T X rest h) : FSs T X (st :: rest) (sSeq f h) := (pss_cons h1 h2).weak rs_seq
theorem fss_one {st : Stmt} {f : SF} (h1 : FS T X st f) : FSs T X [st] f := pss_one h1
theorem fs_pass {pos : Pos} : FS T X (.Pass pos) sSkip := ps_pass.weak fun D σ H ⟨gh, F, env, out, R, e, q⟩ => by
  cases e
  exact q σ H F R (Same.refl _)
def sBk : SF := fun env => some (.bk env)
def sCt : SF := fun env => some (.ct env)
theorem fs_break {pos : Pos} : FS T X (.Break pos) sBk := ps_break.weak fun D σ H ⟨gh, F, env, out, R, e, q⟩ => by
  cases e
  exact q σ H F R (Same.refl _)
theorem fs_continue {pos : Pos} : FS T X (.Continue pos) sCt := ps_continue.weak fun D σ H ⟨gh, F, env, out, R, e, q⟩ => by
  cases e
  exact q σ H F R (Same.refl _)
def sExpr (f : EF) : SF := fun env => match f env with
  | some (_, e) => some (.nx e)
  | none => none
theorem fs_expr {e : Expr} {pos : Pos} {f : EF} (he : FE T X e f) (hs : swapsWith e none pos.line X.env = pure false := by rfl) : FS T X (.Expr e pos) (sExpr f) :=
  (ps_expr he hs).weak fun D σ H ⟨gh, F, env, out, R, e, q⟩ => by
    unfold sExpr at e
    split at e
    · rename_i d e1 ef
      cases e
      exact ⟨gh, F, env, _, _, R, ef, fun v H1 F1 R1 s1 _ => q σ H1 F1 R1 s1⟩
    · cases e
def sRet (f : EF) : SF := fun env => match f env with
  | some (d, e) => some (.rt d e)
  | none => none
theorem fs_ret {e : Expr} {pos : Pos} {f : EF} (he : FE T X e f) : FS T X (.Return (some e) pos) (sRet f) :=
  (ps_ret he).weak fun D σ H ⟨gh, F, env, out, R, e, q⟩ => by
    unfold sRet at e
    split at e
    · rename_i d e1 ef
      cases e
      exact ⟨gh, F, env, _, _, R, ef, fun v H1 F1 R1 s1 r1 => q v σ H1 F1 R1 s1 r1⟩
    · cases e
def sRetN : SF := fun env => some (.rt .none env)
theorem fs_retN {pos : Pos} : FS T X (.Return none pos) sRetN := ps_retN.weak fun D σ H ⟨gh, F, env, out, R, e, q⟩ => by
  cases e
  exact q .non σ H F R (Same.refl _) .non
def sIf (t : TF) (f h : SF) : SF := fun env => match t env with
  | some (true, e) => f e
  | some (false, e) => h e
  | none => none
theorem fs_if {c : Expr} {a b : List Stmt} {pos : Pos} {t : TF} {f h : SF} (hc : FT T X c t) (ha : FSs T X a f) (hb : FSs T X b h) : FS T X (.If c a b pos) (sIf t f h) :=
  (ps_if hc ha hb).weak fun D σ H ⟨gh, F, env, out, R, e, q⟩ => by
    unfold sIf at e
    split at e
    · rename_i e1 ef
      exact ⟨gh, F, env, _, _, R, ef, fun H1 F1 R1 s1 => iteT ⟨gh, F1, _, _, R1, e, q.mono s1⟩⟩
    · rename_i e1 ef
      exact ⟨gh, F, env, _, _, R, ef, fun H1 F1 R1 s1 => iteF ⟨gh, F1, _, _, R1, e, q.mono s1⟩⟩
    · cases e
def setV (env : Ev) (i : Nat) (s : Sl) : Option Ev := match env[i]? with
  | some (.io _) => none
  | some _ => some (env.set i s)
  | none => none
theorem setV_eq {env env' : Ev} {i : Nat} {s : Sl} (h : setV env i s = some env') : env' = env.set i s ∧ i < env.length ∧ ∀ d, env[i]? ≠ some (.io d) := by
  unfold setV at h
  split at h
  · cases h
  · rename_i x hx hn
    cases h
    exact ⟨rfl, (List.getElem?_eq_some_iff.mp hn).1, fun d z => hx d (by rw [hn] at z; exact Option.some.inj z)⟩
  · cases h
/-- a name takes a value, or a new object of its own -/
theorem Rel.put {K : PySem.W.Frag} {g : Gh} {F H : Hp} {σ : St} {env env' : Ev} {i : Nat} {v : V} {s : Sl} (R : Rel T K g F H σ env) (h : setV env i s = some env')
    (hs : s = .no ∨ (∃ d, s = .va d ∧ Rep K F v d) ∨ ∃ d a, s = .ow d ∧ v = .ref a ∧ F a = none ∧ g.H0 a = none ∧ Alone g env σ a ∧ Own K F H a d) : Rel T K g F H (σ.set i (some v)) env' := by
  obtain ⟨rfl, hi, hio⟩ := setV_eq h
  have hiσ : i < σ.length := by rw [← R.len]; exact hi
  have get : ∀ j x, j ≠ i → (env.set i s)[j]? = some x → env[j]? = some x := fun j x hj q => by
    rw [List.getElem?_set_ne (Ne.symm hj)] at q; exact q
  have σget : ∀ j, j ≠ i → (σ.set i (some v))[j]? = σ[j]? := fun j hj => List.getElem?_set_ne (Ne.symm hj)
  have nio : ∀ a, (i, a) ∉ g.io := fun a z => by
    obtain ⟨_, d, e⟩ := R.iok i a z
    exact hio d e
  refine ⟨by rw [List.length_set, List.length_set]; exact R.len, R.sub, R.f0, R.new, R.keep, R.tab, R.nt, fun j d q => ?_, fun j d q => ?_, fun j d q => ?_, fun j a q => ?_, fun a o q => ?_, fun j k a q1 q2 e1 e2 => ?_⟩
  · by_cases hj : j = i
    · subst hj
      rw [List.getElem?_set_self hi] at q
      rcases hs with hs | ⟨d', hs, r⟩ | ⟨d', a, hs, _⟩ <;> rw [hs] at q <;> cases q
      exact ⟨v, List.getElem?_set_self hiσ, r⟩
    · obtain ⟨w, e, r⟩ := R.va j d (get j _ hj q)
      exact ⟨w, by rw [σget j hj]; exact e, r⟩
  · by_cases hj : j = i
    · subst hj
      rw [List.getElem?_set_self hi] at q
      rcases hs with hs | ⟨d', hs, r⟩ | ⟨d', a, hs, hv, h1, h2, h3, h4⟩ <;> rw [hs] at q <;> cases q
      subst hv
      exact ⟨a, List.getElem?_set_self hiσ, h1, h2, h4⟩
    · obtain ⟨w, e, r⟩ := R.ow j d (get j _ hj q)
      exact ⟨w, by rw [σget j hj]; exact e, r⟩
  · by_cases hj : j = i
    · subst hj
      rw [List.getElem?_set_self hi] at q
      rcases hs with hs | ⟨d', hs, r⟩ | ⟨d', a, hs, _⟩ <;> rw [hs] at q <;> cases q
    · obtain ⟨w, e0, e, r⟩ := R.io j d (get j _ hj q)
      exact ⟨w, e0, by rw [σget j hj]; exact e, r⟩
  · have hj : j ≠ i := fun z => nio a (by rw [← z]; exact q)
    obtain ⟨e, d, q2⟩ := R.iok j a q
    exact ⟨by rw [σget j hj]; exact e, d, by rw [List.getElem?_set_ne (Ne.symm hj)]; exact q2⟩
  · obtain ⟨t1, t2, t3, t4⟩ := R.tm a o q
    refine ⟨t1, t2, t3, fun j hj e => ?_⟩
    by_cases hji : j = i
    · subst hji
      obtain ⟨d, hd⟩ := hj
      rw [List.getElem?_set_self hi] at hd
      rw [List.getElem?_set_self hiσ] at e
      rcases hs with hs | ⟨d', hs, r⟩ | ⟨d', b, hs, hv, h1, h2, h3, h4⟩
      · rw [hs] at hd; rcases hd with hd | hd <;> cases hd
      · rw [hs] at hd; rcases hd with hd | hd <;> cases hd
      · subst hv
        cases e
        exact h3.2 o q
    · obtain ⟨d, hd⟩ := hj
      rw [σget j hji] at e
      exact t4 j ⟨d, hd.imp (get j _ hji) (get j _ hji)⟩ e
  · have old : ∀ m, m ≠ i → owns (env.set i s) m → owns env m := fun m hm ⟨d, hd⟩ => ⟨d, hd.imp (get m _ hm) (get m _ hm)⟩
    have cross : ∀ m, m ≠ i → owns (env.set i s) m → owns (env.set i s) i → (σ.set i (some v))[m]? = some (some (.ref a)) → (σ.set i (some v))[i]? = some (some (.ref a)) → False := fun m hm o1 o2 z1 z2 => by
      obtain ⟨d, hd⟩ := o2
      rw [List.getElem?_set_self hi] at hd
      rw [List.getElem?_set_self hiσ] at z2
      rcases hs with hs | ⟨d', hs, r⟩ | ⟨d', b, hs, hv, h1, h2, h3, h4⟩
      · rw [hs] at hd; rcases hd with hd | hd <;> cases hd
      · rw [hs] at hd; rcases hd with hd | hd <;> cases hd
      · subst hv
        cases z2
        rw [σget m hm] at z1
        exact h3.1 m (old m hm o1) z1
    by_cases hj : j = i
    · by_cases hk : k = i
      · rw [hj, hk]
      · subst hj
        exact (cross k hk q2 q1 e2 e1).elim
    · by_cases hk : k = i
      · subst hk
        exact (cross j hj q1 q2 e1 e2).elim
      · rw [σget j hj] at e1
        rw [σget k hk] at e2
        exact R.sep j k a (old j hj q1) (old k hk q2) e1 e2
def asg (i : Nat) (f : EF) : SF := fun env => match f env with
  | none => none
  | some (d, e) => match setV e i (.va d) with
    | none => none
    | some e' => some (.nx e')
def asgO (i : Nat) (f : EF) : SF := fun env => match f env with
  | none => none
  | some (d, e) => match setV e i (.ow d) with
    | none => none
    | some e' => some (.nx e')
theorem fs_set (i : Nat) {x : Str} {e : Expr} {pos pos' : Pos} {f : EF} (hN : X.N.Nodup) (he : FE T X e f) (hi : X.N[i]? = some x := by rfl) (hx : Loc X.env.scope x := by first | exact Or.inl rfl | exact Or.inr rfl) (hs : swapsWith e (some (.Name x pos')) pos.line X.env = pure false := by rfl)
    (hf : X.fn x = true ∨ X.env.scope.names.lookup x = some .local := by first | exact .inl rfl | exact .inr rfl) : FS T X (.Assign [.Name x pos'] e pos) (asg i f) :=
  (ps_set hN hi hx he hs hf).weak fun D σ H ⟨gh, F, env, out, R, e, q⟩ => by
    unfold asg at e
    split at e
    · cases e
    · rename_i d e1 ef
      split at e
      · cases e
      · rename_i e2 es
        cases e
        exact ⟨gh, F, env, _, _, R, ef, fun v H1 F1 R1 s1 r1 => q _ _ _ (R1.put es (.inr (.inl ⟨d, rfl, r1⟩))) s1⟩
theorem fs_setO (i : Nat) {x : Str} {e : Expr} {pos pos' : Pos} {f : EF} (hN : X.N.Nodup) (he : FN T X e f) (hi : X.N[i]? = some x := by rfl) (hx : Loc X.env.scope x := by first | exact Or.inl rfl | exact Or.inr rfl) (hs : swapsWith e (some (.Name x pos')) pos.line X.env = pure false := by rfl)
    (hf : X.fn x = true ∨ X.env.scope.names.lookup x = some .local := by first | exact .inl rfl | exact .inr rfl) : FS T X (.Assign [.Name x pos'] e pos) (asgO i f) :=
  (ps_set hN hi hx he hs hf).weak fun D σ H ⟨gh, F, env, out, R, e, q⟩ => by
    unfold asgO at e
    split at e
    · cases e
    · rename_i d e1 ef
      split at e
      · cases e
      · rename_i e2 es
        cases e
        exact ⟨gh, F, env, _, _, R, ef, fun a H1 F1 R1 s1 h1 h2 h3 h4 => q _ _ _ (R1.put es (.inr (.inr ⟨d, a, rfl, rfl, h1, h2, h3, h4⟩))) s1⟩

def bNm (i : Nat) : BF := fun d env => setV env i (.va d)
theorem fb_nm (i : Nat) {x : Str} {pos : Pos} (hN : X.N.Nodup) (hi : X.N[i]? = some x := by rfl) (hx : Loc X.env.scope x := by first | exact Or.inl rfl | exact Or.inr rfl) (hf : X.fn x = true ∨ X.env.scope.names.lookup x = some .local := by first | exact .inl rfl | exact .inr rfl) : FB T X (.Name x pos) [i] (bNm i) :=
  (pg_name hN hi hx hf).weak fun v σ H Q ⟨gh, F, env, d, env', R, r, e, q⟩ => q _ _ _ (R.put e (.inr (.inl ⟨d, rfl, r⟩))) (Same.refl _) fun vs hv => wipe_set (hv i (List.mem_singleton.mpr rfl))
def bNil : List PV → Ev → Option Ev := fun ds env => match ds with
  | [] => some env
  | _ => none
def bCons (f : BF) (h : List PV → Ev → Option Ev) : List PV → Ev → Option Ev := fun ds env => match ds with
  | d :: r => match f d env with
    | none => none
    | some e => h r e
  | [] => none
theorem fbs_nil : FBs T X [] [] bNil := pgs_nil.weak fun vs σ H Q ⟨gh, F, env, ds, env', R, r, e, q⟩ => by
  unfold bNil at e
  split at e
  · cases e
    cases r
    exact ⟨rfl, q σ H F R (Same.refl _) fun _ _ => rfl⟩
  · cases e
theorem fbs_cons {e : Expr} {es : List Expr} {t1 t2 : List Nat} {f : BF} {h : List PV → Ev → Option Ev} (h1 : FB T X e t1 f) (h2 : FBs T X es t2 h) (hs : (assignEach (e :: es) X.env).map (·.2) = assign e X.env :: (assignEach es X.env).map (·.2) := by rfl) : FBs T X (e :: es) (t1 ++ t2) (bCons f h) :=
  (pgs_cons h1 h2 hs).weak fun vs σ H Q ⟨gh, F, env, ds, env', R, r, e, q⟩ => by
    unfold bCons at e
    split at e
    · rename_i d dr
      split at e
      · cases e
      · rename_i e1 ef
        cases r with
        | cons r1 rr =>
          exact ⟨_, _, rfl, gh, F, env, d, e1, R, r1, ef, fun σ1 H1 F1 R1 s1 w1 => ⟨gh, F1, e1, dr, _, R1, rr.mono s1, e, fun σ2 H2 F2 R2 s2 w2 => q σ2 H2 F2 R2 (s1.trans s2) fun vs hv => (w2 vs fun i hi => hv i (List.mem_append_right _ hi)).trans (w1 vs fun i hi => hv i (List.mem_append_left _ hi))⟩⟩
    · cases e
def bTup (n : Nat) (h : List PV → Ev → Option Ev) : BF := fun d env => match d with
  | .tuple ds => if ds.length = n then h ds env else none
  | _ => none
theorem SqT.sub {K : PySem.W.Frag} {F H : Hp} {a : Addr} {xs : List V} (s : Same F H) (h : SqT K F a xs) : SqT K H a xs := SqT.mono s h
theorem fb_tup {es : List Expr} {k : Nat} {pos : Pos} {ts : List Nat} {h : List PV → Ev → Option Ev} {n : Nat} (hc : X.calm = true) (hb : FBs T X es ts h) (hn : (assignEach es X.env).length = n := by rfl) (hst : (assignEach es X.env).findIdx? (·.1) = none := by rfl) : FB T X (.Tuple es k pos) ts (bTup n h) :=
  (pg_tup hc hb hn hst).weak fun v σ H Q ⟨gh, F, env, d, env', R, r, e, q⟩ => by
    unfold bTup at e
    split at e
    · rename_i ds
      split at e
      · rename_i hl
        cases r with
        | tup hq rr =>
          exact ⟨_, _, rfl, SqT.sub R.sub (sqT hq), rr.len.trans hl, gh, F, env, ds, _, R, rr, e, q⟩
      · cases e
    · cases e
/-- target = e, any target -/
def asgB (b : BF) (f : EF) : SF := fun env => match f env with
  | none => none
  | some (d, e) => match b d e with
    | none => none
    | some e' => some (.nx e')
theorem fs_asg {tg e : Expr} {pos : Pos} {ts : List Nat} {b : BF} {f : EF} (he : FE T X e f) (hg : FB T X tg ts b) (hs : swapsWithSole [tg] e pos.line X.env = pure false := by rfl) (hw : swappedStores [tg] e X.env = pure none := by rfl)
    (h1 : (assignEach [tg] X.env).map (·.2) = [assign tg X.env] := by rfl) : FS T X (.Assign [tg] e pos) (asgB b f) :=
  (ps_asg he hg hs hw h1).weak fun D σ H ⟨gh, F, env, out, R, e, q⟩ => by
    unfold asgB at e
    split at e
    · cases e
    · rename_i d e1 ef
      split at e
      · cases e
      · rename_i e2 es
        cases e
        exact ⟨gh, F, env, _, _, R, ef, fun v H1 F1 R1 s1 r1 => ⟨gh, F1, _, d, _, R1, r1, es, fun σ2 H2 F2 R2 s2 _ => q σ2 H2 F2 R2 (s1.trans s2)⟩⟩
/-- a, b = x, y (plain local names) -/
def asg2 (i j : Nat) (f : AF) : SF := fun env => match f env with
  | some ([a, b], e) => match setV e i (.va a) with
    | none => none
    | some e1 => match setV e1 j (.va b) with
      | none => none
      | some e2 => some (.nx e2)
  | _ => none
theorem fs_par (i j : Nat) {x y : Str} {a b : Expr} {f : AF} {px py pt pos : Pos} {kt k2 : Nat} {pt2 : Pos} (hN : X.N.Nodup) (ha : FA T X [a, b] f) (hij : i ≠ j := by decide) (hi : X.N[i]? = some x := by rfl) (hj : X.N[j]? = some y := by rfl)
    (hc : X.calm = true := by rfl) (hx : X.env.scope.names.lookup x = some .local := by rfl) (hy : X.env.scope.names.lookup y = some .local := by rfl)
    (hw : swappedStores [.Tuple [.Name x px, .Name y py] kt pt] (.Tuple [a, b] k2 pt2) X.env = pure (some [x, y]) := by rfl)
    (hs : swapsWithSole [.Tuple [.Name x px, .Name y py] kt pt] (.Tuple [a, b] k2 pt2) pos.line X.env = pure false := by rfl) :
    FS T X (.Assign [.Tuple [.Name x px, .Name y py] kt pt] (.Tuple [a, b] k2 pt2) pos) (asg2 i j f) :=
  (ps_par hc hN hi hj hij hx hy ha hw hs).weak fun D σ H ⟨gh, F, env, out, R, e, q⟩ => by
    unfold asg2 at e
    split at e
    · rename_i d1 d2 e1 ef
      split at e
      · cases e
      · rename_i e2 es
        split at e
        · cases e
        · rename_i e3 es2
          cases e
          refine ⟨gh, F, env, _, _, R, ef, fun vs H1 F1 R1 s1 r1 => ?_⟩
          cases r1 with
          | cons ra r2 => cases r2 with
            | cons rb r3 =>
              cases r3
              exact ⟨_, _, rfl, q _ _ _ ((R1.put es (.inr (.inl ⟨_, rfl, ra⟩))).put es2 (.inr (.inl ⟨_, rfl, rb⟩))) s1⟩
    · cases e
/-- name op= e -/
def aug (i : Nat) (g : PV → PV → Option PV) (f : EF) : SF := fun env => match env[i]? with
  | some (.va a) => match f env with
    | none => none
    | some (b, e) => match g a b with
      | none => none
      | some d => match setV e i (.va d) with
        | none => none
        | some e' => some (.nx e')
  | _ => none
theorem fs_aug (i : Nat) {x : Str} {e : Expr} {op : Operator} {pos pos' : Pos} {r : R2} {g : PV → PV → Option PV} {f : EF} (hN : X.N.Nodup) (ho : OpR X (inplaceOp op) r) (hg : OpF T X.K r g) (he : FE T X e f) (hi : X.N[i]? = some x := by rfl) (hx : Loc X.env.scope x := by first | exact Or.inl rfl | exact Or.inr rfl)
    (hf : X.fn x = true ∨ X.env.scope.names.lookup x = some .local := by first | exact .inl rfl | exact .inr rfl) : FS T X (.AugAssign (.Name x pos') op e pos) (aug i g f) :=
  (ps_aug hN hi hx he (show PIp X op r from ho) hf).weak fun D σ H ⟨gh, F, env, out, R, e, q⟩ => by
    unfold aug at e
    split at e
    · rename_i a ha
      obtain ⟨v, e1, ra⟩ := R.va i a ha
      split at e
      · cases e
      · rename_i b e2 ef
        split at e
        · cases e
        · rename_i d eg
          split at e
          · cases e
          · rename_i e3 es
            cases e
            refine ⟨v, e1, gh, F, env, _, _, R, ef, fun y H1 F1 R1 s1 rb => ?_⟩
            exact hg gh F1 H1 σ _ v y a b d _ R1 (ra.mono s1) rb eg fun w H2 F2 R2 s2 r2 => q _ _ _ (R2.put es (.inr (.inl ⟨d, rfl, r2⟩))) (s1.trans s2)
    · cases e

def whF (t : TF) (b : SF) : Nat → SF
  | 0 => fun _ => none
  | n + 1 => fun env => match t env with
    | none => none
    | some (false, e) => some (.nx e)
    | some (true, e) => match b e with
      | none => none
      | some (.nx e') => whF t b n e'
      | some (.ct e') => whF t b n e'
      | some (.bk e') => some (.nx e')
      | some (.rt d e') => some (.rt d e')
      | some (.rf d e') => some (.rf d e')
theorem fs_while {c : Expr} {body : List Stmt} {pos : Pos} {t : TF} {b : SF} (n : Nat) (hp : PassesOwn (model X.prog X.w) X.A X.env X.xe) (hc : FT T X c t) (hb : FSs T X body b) : FS T X (.While c body [] pos) (whF t b n) :=
  (ps_while hp hc hb).weak fun D σ H ⟨gh, F, env, out, R, e, q⟩ => by
    refine ⟨fun m σ H => ∃ F' env', Rel T X.K gh F' H σ env' ∧ Same F F' ∧ whF t b m env' = some out, ⟨n, F, env, R, Same.refl _, e⟩, ?_⟩
    rintro m σ H ⟨F', env', R', s', e'⟩
    cases m with
    | zero => cases e'
    | succ m =>
      unfold whF at e'
      split at e'
      · cases e'
      · rename_i e1 et
        cases e'
        exact ⟨gh, F', env', _, _, R', et, fun H1 F1 R1 s1 => iteF (q _ _ _ R1 (s'.trans s1))⟩
      · rename_i e1 et
        refine ⟨gh, F', env', _, _, R', et, fun H1 F1 R1 s1 => ?_⟩
        refine iteT ?_
        refine ⟨fun σ' H' => ∃ F2 env2, Rel T X.K gh F2 H' σ' env2 ∧ Same F F2 ∧ whF t b m env2 = some out, fun σ' H' ⟨F2, env2, R2, s2, e2⟩ => ⟨m, Nat.lt_succ_self m, F2, env2, R2, s2, e2⟩, ?_⟩
        have s01 := s'.trans s1
        split at e'
        · cases e'
        · rename_i e2 eb
          exact ⟨gh, F1, e1, _, R1, eb, fun σ2 H2 F2 R2 s2 => ⟨F2, e2, R2, s01.trans s2, e'⟩⟩
        · rename_i e2 eb
          exact ⟨gh, F1, e1, _, R1, eb, fun σ2 H2 F2 R2 s2 => ⟨F2, e2, R2, s01.trans s2, e'⟩⟩
        · rename_i e2 eb
          cases e'
          exact ⟨gh, F1, e1, _, R1, eb, fun σ2 H2 F2 R2 s2 => q _ _ _ R2 (s01.trans s2)⟩
        · rename_i d e2 eb
          cases e'
          exact ⟨gh, F1, e1, _, R1, eb, fun v σ2 H2 F2 R2 s2 r2 => q _ _ _ _ R2 (s01.trans s2) r2⟩
        · rename_i d e2 eb
          cases e'
          exact ⟨gh, F1, e1, _, R1, eb, fun a σ2 H2 F2 R2 s2 => q _ _ _ _ R2 (s01.trans s2)⟩

/-- what a walk hands out -/
def Yields (T : List Addr) (K : PySem.W.Frag) (J : It) (ds : List PV) (F0 : Hp) : Prop :=
  ∀ (g : Gh) (i : Nat) F H σ env, Rel T K g F H σ env → Same F0 F →
    (∀ d, ds[i]? = some d → J.go i H ∧ ∀ x H', J.yld i H x H' → ∃ F', Rel T K g F' H' σ env ∧ Same F F' ∧ Rep K F' x d) ∧ (ds[i]? = none → J.stop i H)
def RI (T : List Addr) (K : PySem.W.Frag) (f : AF) : TI := fun σ H R => ∃ g F env ds env', Rel T K g F H σ env ∧ f env = some (ds, env') ∧ ∀ J H' F', Rel T K g F' H' σ env' → Same F F' → Yields T K J ds F' → R J H'
def FI (T : List Addr) (X : Cx) (tg iter : Expr) (f : AF) : Prop := PI X tg iter (RI T X.K f)
theorem _root_.L2.PI.weak {tg e : Expr} {t t' : TI} (h : PI X tg e t) (w : ∀ σ H Q, t' σ H Q → t σ H Q) : PI X tg e t' := ⟨fun pins s σ H Q I q => h.run pins s σ H Q I (w σ H Q q)⟩
def foF (bi : BF) (b : SF) : List PV → SF
  | [] => fun env => some (.nx env)
  | d :: ds => fun env => match bi d env with
    | none => none
    | some e => match b e with
      | none => none
      | some (.nx e') => foF bi b ds e'
      | some (.ct e') => foF bi b ds e'
      | some (.bk e') => some (.nx e')
      | some (.rt r e') => some (.rt r e')
      | some (.rf r e') => some (.rf r e')
def sFor (f : AF) (bi : BF) (b : SF) : SF := fun env => match f env with
  | none => none
  | some (ds, e) => foF bi b ds e
theorem fs_for {tg iter : Expr} {body : List Stmt} {pos : Pos} {f : AF} {ts : List Nat} {bi : BF} {b : SF} (hp : PassesOwn (model X.prog X.w) X.A X.env X.xe) (hc : X.calm = true) (hi : FI T X tg iter f) (hg : FB T X tg ts bi) (hb : FSs T X body b)
    (hs : ∀ x, foldedSetIterable iter X.env x = pure x := by intro _; rfl) : FS T X (.For tg iter body [] pos) (sFor f bi b) :=
  (ps_for hp hc hi hg hb hs).weak fun D σ H ⟨gh, F, env, out, R, e, q⟩ => by
    unfold sFor at e
    split at e
    · cases e
    · rename_i ds e1 ef
      refine ⟨gh, F, env, _, _, R, ef, fun J H1 F1 R1 s1 Y => ?_⟩
      refine ⟨fun i m σ H => ∃ F' env', m = ds.length - i ∧ Rel T X.K gh F' H σ env' ∧ Same F1 F' ∧ foF bi b (ds.drop i) env' = some out, ⟨_, F1, _, rfl, R1, Same.refl _, by simpa using e⟩, ?_⟩
      rintro i m σ H ⟨F', env', rfl, R', s', e'⟩
      obtain ⟨yi, yn⟩ := Y gh i F' H σ env' R' s'
      cases hd : ds[i]? with
      | none =>
        have hl : ds.length ≤ i := List.getElem?_eq_none_iff.mp hd
        rw [List.drop_of_length_le hl] at e'
        cases e'
        exact .inl ⟨yn hd, q _ _ _ R' (s1.trans s')⟩
      | some d =>
        obtain ⟨hgo, hy⟩ := yi d hd
        have hl : i < ds.length := (List.getElem?_eq_some_iff.mp hd).1
        have e2 : ds.drop i = d :: ds.drop (i + 1) := by
          rw [List.drop_eq_getElem_cons hl]
          rw [List.getElem?_eq_getElem hl] at hd
          cases hd; rfl
        rw [e2] at e'
        unfold foF at e'
        refine .inr ⟨hgo, fun σ' H' => ∃ F2 env2, Rel T X.K gh F2 H' σ' env2 ∧ Same F1 F2 ∧ foF bi b (ds.drop (i + 1)) env2 = some out, fun σ' H' ⟨F2, env2, R2, s2, z2⟩ => ⟨ds.length - (i + 1), by omega, F2, env2, rfl, R2, s2, z2⟩, fun x H' hx => ?_⟩
        obtain ⟨F2, R2, s2, rx⟩ := hy x H' hx
        split at e'
        · cases e'
        · rename_i e3 eb
          refine ⟨gh, F2, env', d, e3, R2, rx, eb, fun σ3 H3 F3 R3 s3 _ => ?_⟩
          have s03 := s'.trans (s2.trans s3)
          split at e'
          · cases e'
          · rename_i e4 ebo
            exact ⟨gh, F3, e3, _, R3, ebo, fun σ4 H4 F4 R4 s4 => ⟨F4, e4, R4, s03.trans s4, e'⟩⟩
          · rename_i e4 ebo
            exact ⟨gh, F3, e3, _, R3, ebo, fun σ4 H4 F4 R4 s4 => ⟨F4, e4, R4, s03.trans s4, e'⟩⟩
          · rename_i e4 ebo
            cases e'
            exact ⟨gh, F3, e3, _, R3, ebo, fun σ4 H4 F4 R4 s4 => q _ _ _ R4 (s1.trans (s03.trans s4))⟩
          · rename_i r4 e4 ebo
            cases e'
            exact ⟨gh, F3, e3, _, R3, ebo, fun v σ4 H4 F4 R4 s4 r5 => q _ _ _ _ R4 (s1.trans (s03.trans s4)) r5⟩
          · rename_i r4 e4 ebo
            cases e'
            exact ⟨gh, F3, e3, _, R3, ebo, fun a σ4 H4 F4 R4 s4 => q _ _ _ _ R4 (s1.trans (s03.trans s4))⟩
end
end Fx

namespace Fx
open PySem PySem.Spec L2
open PyProof.Rows hiding St

section
variable {K : PySem.W.Frag} {F H : Hp} {v : V}
theorem Rep.int_iff {i : Int} (h : Rep K F v (.int i)) : v = .int i := by cases h; rfl
theorem Rep.str_iff {x : Str} (h : Rep K F v (.str x)) : v = .str x := by cases h; rfl
theorem Rep.bl_iff {b : Bool} (h : Rep K F v (.bool b)) : v = .bl b := by cases h; rfl
theorem Rep.non_iff {d : PV} (h : Rep K F v d) : v = .non ↔ d = .none := by cases h <;> simp
mutual
def noDict : PV → Bool
  | .dict _ => false
  | .list xs => noDicts xs
  | .tuple xs => noDicts xs
  | _ => true
def noDicts : List PV → Bool
  | [] => true
  | x :: xs => noDict x && noDicts xs
end
mutual
theorem Rep.dp (s : Same F H) : ∀ {d : PV} {v : V}, Rep K F v d → noDict d = true → Dp K H v d
  | _, _, .non, _ => .non
  | _, _, .bl b, _ => .bl b
  | _, _, .int i, _ => .int i
  | _, _, .str x, _ => .str x
  | _, _, .lst h r, n => .lst (.inl (.inl (s _ _ h))) (Reps.dp s r (by simpa [noDict] using n))
  | _, _, .tup h r, n => .tup (SqT.mono s (sqT h)) (Reps.dp s r (by simpa [noDict] using n))
  | _, _, .dk h r, n => Bool.noConfusion n
  | _, _, .dt h r, n => Bool.noConfusion n
  | _, _, .lk h r, n => Bool.noConfusion n
theorem Reps.dp (s : Same F H) : ∀ {ds : List PV} {vs : List V}, Reps K F vs ds → noDicts ds = true → DpAll K H vs ds
  | _, _, .nil, _ => .nil
  | _, _, .cons h r, n => by
    have n' : (noDict _ && noDicts _) = true := n
    rw [Bool.and_eq_true] at n'
    exact .cons (Rep.dp s h n'.1) (Reps.dp s r n'.2)
end
end

def fits (a b : Int) : Bool := decide (a.natAbs.log2 + b.natAbs.log2 < 1000000)
def rAddAll (K : PySem.W.Frag) : R2 := fun x y H Q => (∃ i j, x = .int i ∧ y = .int j ∧ Q (.int (i + j)) H) ∨ (∃ i j, x = .str i ∧ y = .str j ∧ i.length + j.length ≤ sizeLine ∧ Q (.str (i ++ j)) H) ∨ L2.rCatA K x y H Q ∨ rCat x y H Q
def pAdd : PV → PV → Option PV
  | .int a, .int b => some (.int (a + b))
  | .str a, .str b => if a.length + b.length ≤ sizeLine then some (.str (a ++ b)) else none
  | .tuple xs, .tuple ys => if xs.length + ys.length ≤ sizeLine then some (.tuple (xs ++ ys)) else none
  | .list xs, .list ys => if xs.length + ys.length ≤ sizeLine then some (.list (xs ++ ys)) else none
  | _, _ => none
def pSub : PV → PV → Option PV
  | .int a, .int b => some (.int (a - b))
  | _, _ => none
def rMulAll : R2 := fun x y H Q => rI CMulW (fun i j => .int (i * j)) x y H Q ∨ rRep x y H Q
def pMul : PV → PV → Option PV
  | .int a, .int b => if fits a b then some (.int (a * b)) else none
  | .list xs, .int k => if -(2 ^ 63) ≤ k ∧ k < 2 ^ 63 ∧ xs.length * k.toNat ≤ sizeLine then some (.list (List.replicate k.toNat xs).flatten) else none
  | _, _ => none
def CDivG (_ j : Int) : Prop := j ≠ 0 ∧ j.natAbs.log2 < 9000
def pDiv : PV → PV → Option PV
  | .int a, .int b => if b ≠ 0 ∧ b.natAbs.log2 < 9000 then some (.int (a.fdiv b)) else none
  | _, _ => none
def pMod : PV → PV → Option PV
  | .int a, .int b => if b ≠ 0 then some (.int (a.fmod b)) else none
  | _, _ => none
def pPow : PV → PV → Option PV
  | .int a, .int b => if 0 ≤ b ∧ b ≤ 1000000 ∧ a.natAbs < 2 ^ 64 then some (.int (a ^ b.toNat)) else none
  | _, _ => none
def pNeg : PV → Option PV
  | .int a => some (.int (-a))
  | _ => none
def pEq (a b : PV) : Option PV := match a, b with
  | .int i, .int j => some (.bool (decide (i = j)))
  | .str i, .str j => some (.bool (decide (i = j)))
  | .bool i, .bool j => some (.bool (decide (i = j)))
  | a, b => if noDict a && noDict b && SeqAt.shaped a && SeqAt.shaped b then some (.bool (PyData.eqv a b)) else none
def pNe (a b : PV) : Option PV := match a, b with
  | .int i, .int j => some (.bool (!decide (i = j)))
  | .str i, .str j => some (.bool (!decide (i = j)))
  | .bool i, .bool j => some (.bool (!decide (i = j)))
  | a, b => if noDict a && noDict b && SeqAt.shaped a && SeqAt.shaped b then some (.bool (!PyData.eqv a b)) else none
def pLt : PV → PV → Option PV
  | .int a, .int b => some (.bool (decide (a < b)))
  | .str a, .str b => some (.bool (decide (a.cps.toList < b.cps.toList)))
  | _, _ => none
def pLe : PV → PV → Option PV
  | .int a, .int b => some (.bool (decide (a ≤ b)))
  | .str a, .str b => some (.bool (!decide (b.cps.toList < a.cps.toList)))
  | _, _ => none
def pGt : PV → PV → Option PV
  | .int a, .int b => some (.bool (decide (b < a)))
  | .str a, .str b => some (.bool (decide (b.cps.toList < a.cps.toList)))
  | _, _ => none
def pGe : PV → PV → Option PV
  | .int a, .int b => some (.bool (decide (b ≤ a)))
  | .str a, .str b => some (.bool (!decide (a.cps.toList < b.cps.toList)))
  | _, _ => none
def isNn : PV → Bool
  | .none => true
  | _ => false
def pIsN (a b : PV) : Option PV := match b with
  | .none => some (.bool (isNn a))
  | _ => none
def pNotN (a b : PV) : Option PV := match b with
  | .none => some (.bool (!isNn a))
  | _ => none

section
variable {T : List Addr} {X : Cx}
theorem op_addA : OpR X (binaryOp .Add) (rAddAll X.K) := by
  intro pins s σ H x y v u Q I rx ry h
  rcases h with h | h | h | h
  · exact op_add pins s σ H x y v u Q I rx ry h
  · exact op_add_str pins s σ H x y v u Q I rx ry h
  · exact L2.op_catA pins s σ H x y v u Q I rx ry h
  · exact op_cat pins s σ H x y v u Q I rx ry h
theorem of_add {K : PySem.W.Frag} : OpF T K (rAddAll K) pAdd := by
  intro gh F H σ env x y a b d Q R ra rb e q
  unfold pAdd at e
  split at e
  · cases e
    exact .inl ⟨_, _, ra.int_iff, rb.int_iff, q _ _ _ R (Same.refl _) (.int _)⟩
  · rename_i i j
    split at e
    · rename_i hl
      cases e
      exact .inr (.inl ⟨_, _, ra.str_iff, rb.str_iff, hl, q _ _ _ R (Same.refl _) (.str _)⟩)
    · cases e
  · rename_i xs ys
    split at e
    · rename_i hl
      cases e
      cases ra with
      | tup ha ra =>
        cases rb with
        | tup hb rb =>
          refine .inr (.inr (.inl ⟨_, _, _, _, rfl, rfl, SqT.mono R.sub (sqT ha), SqT.mono R.sub (sqT hb), by rw [ra.len, rb.len]; exact hl, fun z => ?_, fun z1 z => ?_, fun z1 z2 p hp => ?_⟩))
          · subst z
            cases ra
            exact q _ _ _ R (Same.refl _) (.tup hb rb)
          · subst z
            cases rb
            refine q _ _ _ R (Same.refl _) (.tup ha ?_)
            rw [List.append_nil]
            exact ra
          · obtain ⟨R2, s2⟩ := R.laidF (o := .tup _) hp
            exact q _ _ _ R2 s2 (.tup upd_same ((ra.append rb).mono s2))
    · cases e
  · rename_i xs ys
    split at e
    · rename_i hl
      cases e
      cases ra with
      | lst ha ra =>
        cases rb with
        | lst hb rb =>
          refine .inr (.inr (.inr ⟨_, _, _, _, rfl, rfl, R.sub _ _ ha, R.sub _ _ hb, by rw [ra.len, rb.len]; exact hl, fun p hp => ?_⟩))
          obtain ⟨R2, s2⟩ := R.laidF (o := .lst _) hp
          exact q _ _ _ R2 s2 (.lst upd_same ((ra.append rb).mono s2))
    · cases e
  · cases e
theorem of_int {K : PySem.W.Frag} {C : Int → Int → Prop} {f : Int → Int → PV} {g : PV → PV → Option PV} {f' : Int → Int → V} (hf : ∀ i j F, Rep K F (f' i j) (f i j)) (hg : ∀ a b d, g a b = some d → ∃ i j, a = .int i ∧ b = .int j ∧ C i j ∧ d = f i j) : OpF T K (rI C f') g := by
  intro gh F H σ env x y a b d Q R ra rb e q
  obtain ⟨i, j, rfl, rfl, hc, rfl⟩ := hg a b d e
  exact ⟨i, j, ra.int_iff, rb.int_iff, hc, q _ _ _ R (Same.refl _) (hf i j F)⟩
theorem of_int0 {K : PySem.W.Frag} {f : Int → Int → PV} {g : PV → PV → Option PV} {f' : Int → Int → V} (hf : ∀ i j F, Rep K F (f' i j) (f i j)) (hg : ∀ a b d, g a b = some d → ∃ i j, a = .int i ∧ b = .int j ∧ d = f i j) : OpF T K (rI0 f') g := by
  intro gh F H σ env x y a b d Q R ra rb e q
  obtain ⟨i, j, rfl, rfl, rfl⟩ := hg a b d e
  exact ⟨i, j, ra.int_iff, rb.int_iff, q _ _ _ R (Same.refl _) (hf i j F)⟩
theorem of_sub {K : PySem.W.Frag} : OpF T K (rI0 fun i j => .int (i - j)) pSub := of_int0 (f := fun i j => .int (i - j)) (fun _ _ _ => .int _) fun a b d e => by
  unfold pSub at e
  split at e
  · cases e; exact ⟨_, _, rfl, rfl, rfl⟩
  · cases e
theorem op_mulA : OpR X (binaryOp .Mult) rMulAll := OpR.or op_mulW op_rep
theorem of_mul {K : PySem.W.Frag} : OpF T K rMulAll pMul := by
  intro gh F H σ env x y a b d Q R ra rb e q
  unfold pMul at e
  split at e
  · split at e
    · rename_i hf
      cases e
      exact .inl ⟨_, _, ra.int_iff, rb.int_iff, (show _ < _ from of_decide_eq_true hf), q _ _ _ R (Same.refl _) (.int _)⟩
    · cases e
  · rename_i xs k
    split at e
    · rename_i hl
      cases e
      cases ra with
      | lst ha ra =>
        refine .inr ⟨_, _, _, rfl, rb.int_iff, R.sub _ _ ha, hl.1, hl.2.1, by rw [ra.len]; exact hl.2.2, fun p hp => ?_⟩
        obtain ⟨R2, s2⟩ := R.laidF (o := .lst _) hp
        refine q _ _ _ R2 s2 (.lst upd_same ?_)
        have : ∀ n : Nat, Reps K F (List.replicate n _).flatten (List.replicate n xs).flatten := fun n => by
          induction n with
          | zero => exact .nil
          | succ n ih =>
            rw [List.replicate_succ, List.replicate_succ, List.flatten_cons, List.flatten_cons]
            exact ra.append ih
        exact (this _).mono s2
    · cases e
  · cases e
theorem op_fdivG : OpR X (binaryOp .FloorDiv) (rI CDivG fun i j => .int (i.fdiv j)) := opI fun _ _ _ _ _ _ _ hc q => floordiv_int hc.1 q (.inl (PyProof.noPylong_of_log2 hc.2))
theorem iop_fdivG : OpR X (inplaceOp .FloorDiv) (rI CDivG fun i j => .int (i.fdiv j)) := opI fun _ _ _ _ _ _ _ hc q => ifloordiv_int hc.1 q (.inl (PyProof.noPylong_of_log2 hc.2))
theorem of_div {K : PySem.W.Frag} : OpF T K (rI CDivG fun i j => .int (i.fdiv j)) pDiv := of_int (f := fun i j => .int (i.fdiv j)) (fun _ _ _ => .int _) fun a b d e => by
  unfold pDiv at e
  split at e
  · split at e
    · rename_i h
      cases e; exact ⟨_, _, rfl, rfl, h, rfl⟩
    · cases e
  · cases e
theorem iop_modN : OpR X (inplaceOp .Mod) (rI (fun _ j => j ≠ 0) fun i j => .int (i.fmod j)) := opI fun _ _ _ _ _ _ _ hc q => imod_int hc q
theorem of_mod {K : PySem.W.Frag} : OpF T K (rI (fun _ j => j ≠ 0) fun i j => .int (i.fmod j)) pMod := of_int (f := fun i j => .int (i.fmod j)) (fun _ _ _ => .int _) fun a b d e => by
  unfold pMod at e
  split at e
  · split at e
    · rename_i h
      cases e; exact ⟨_, _, rfl, rfl, h, rfl⟩
    · cases e
  · cases e
theorem of_pow {K : PySem.W.Frag} : OpF T K (rI CPow fun i j => .int (i ^ j.toNat)) pPow := of_int (f := fun i j => .int (i ^ j.toNat)) (fun _ _ _ => .int _) fun a b d e => by
  unfold pPow at e
  split at e
  · split at e
    · rename_i h
      cases e; exact ⟨_, _, rfl, rfl, h, rfl⟩
    · cases e
  · cases e
theorem iop_addA : OpR X (inplaceOp .Add) (fun x y H Q => (∃ i j, x = .int i ∧ y = .int j ∧ Q (.int (i + j)) H) ∨ ∃ i j, x = .str i ∧ y = .str j ∧ i.length + j.length ≤ sizeLine ∧ Q (.str (i ++ j)) H) := OpR.or iop_add iop_add_str
def pAddI : PV → PV → Option PV
  | .int a, .int b => some (.int (a + b))
  | .str a, .str b => if a.length + b.length ≤ sizeLine then some (.str (a ++ b)) else none
  | _, _ => none
theorem of_addI {K : PySem.W.Frag} : OpF T K (fun x y H Q => (∃ i j, x = .int i ∧ y = .int j ∧ Q (.int (i + j)) H) ∨ ∃ i j, x = .str i ∧ y = .str j ∧ i.length + j.length ≤ sizeLine ∧ Q (.str (i ++ j)) H) pAddI := by
  intro gh F H σ env x y a b d Q R ra rb e q
  unfold pAddI at e
  split at e
  · cases e
    exact .inl ⟨_, _, ra.int_iff, rb.int_iff, q _ _ _ R (Same.refl _) (.int _)⟩
  · split at e
    · rename_i hl
      cases e
      exact .inr ⟨_, _, ra.str_iff, rb.str_iff, hl, q _ _ _ R (Same.refl _) (.str _)⟩
    · cases e
  · cases e
def pMulI : PV → PV → Option PV
  | .int a, .int b => if -(2 ^ 64) < a ∧ a < 2 ^ 64 ∨ -(2 ^ 64) < b ∧ b < 2 ^ 64 then some (.int (a * b)) else none
  | _, _ => none
theorem iop_mulW : OpR X (inplaceOp .Mult) (rI CMulW fun i j => .int (i * j)) := opI fun _ _ _ _ _ _ _ hc q => imul_int q hc.ok
def pMulW : PV → PV → Option PV
  | .int a, .int b => if fits a b then some (.int (a * b)) else none
  | _, _ => none
theorem of_mulW {K : PySem.W.Frag} : OpF T K (rI CMulW fun i j => .int (i * j)) pMulW := of_int (f := fun i j => .int (i * j)) (fun _ _ _ => .int _) fun a b d e => by
  unfold pMulW at e
  split at e
  · split at e
    · rename_i h
      cases e; exact ⟨_, _, rfl, rfl, (show _ < _ from of_decide_eq_true h), rfl⟩
    · cases e
  · cases e
theorem op_ltA : OpR X (compareOp .Lt) (fun x y H Q => rI0 (fun i j => .bl (decide (i < j))) x y H Q ∨ ∃ i j, x = .str i ∧ y = .str j ∧ Q (.bl (decide (i.cps.toList < j.cps.toList))) H) := OpR.or op_lt op_lt_str
theorem op_leA : OpR X (compareOp .LtE) (fun x y H Q => rI0 (fun i j => .bl (decide (i ≤ j))) x y H Q ∨ ∃ i j, x = .str i ∧ y = .str j ∧ Q (.bl (!decide (j.cps.toList < i.cps.toList))) H) := OpR.or op_le op_le_str
theorem op_gtA : OpR X (compareOp .Gt) (fun x y H Q => rI0 (fun i j => .bl (decide (j < i))) x y H Q ∨ ∃ i j, x = .str i ∧ y = .str j ∧ Q (.bl (decide (j.cps.toList < i.cps.toList))) H) := OpR.or op_gt op_gt_str
theorem op_geA : OpR X (compareOp .GtE) (fun x y H Q => rI0 (fun i j => .bl (decide (j ≤ i))) x y H Q ∨ ∃ i j, x = .str i ∧ y = .str j ∧ Q (.bl (!decide (i.cps.toList < j.cps.toList))) H) := OpR.or op_ge op_ge_str
theorem of_ord {K : PySem.W.Frag} {f : Int → Int → Bool} {h : Str → Str → Bool} {g : PV → PV → Option PV} (hg : ∀ a b d, g a b = some d → (∃ i j, a = .int i ∧ b = .int j ∧ d = .bool (f i j)) ∨ ∃ i j, a = .str i ∧ b = .str j ∧ d = .bool (h i j)) :
    OpF T K (fun x y H Q => rI0 (fun i j => .bl (f i j)) x y H Q ∨ ∃ i j, x = .str i ∧ y = .str j ∧ Q (.bl (h i j)) H) g := by
  intro gh F H σ env x y a b d Q R ra rb e q
  rcases hg a b d e with ⟨i, j, rfl, rfl, rfl⟩ | ⟨i, j, rfl, rfl, rfl⟩
  · exact .inl ⟨_, _, ra.int_iff, rb.int_iff, q _ _ _ R (Same.refl _) (.bl _)⟩
  · exact .inr ⟨_, _, ra.str_iff, rb.str_iff, q _ _ _ R (Same.refl _) (.bl _)⟩
theorem of_lt {K : PySem.W.Frag} : OpF T K (fun x y H Q => rI0 (fun i j => .bl (decide (i < j))) x y H Q ∨ ∃ i j, x = .str i ∧ y = .str j ∧ Q (.bl (decide (i.cps.toList < j.cps.toList))) H) pLt := of_ord (f := fun i j => decide (i < j)) (h := fun i j => decide (i.cps.toList < j.cps.toList)) fun a b d e => by
  unfold pLt at e
  split at e
  · cases e; exact .inl ⟨_, _, rfl, rfl, rfl⟩
  · cases e; exact .inr ⟨_, _, rfl, rfl, rfl⟩
  · cases e
theorem of_le {K : PySem.W.Frag} : OpF T K (fun x y H Q => rI0 (fun i j => .bl (decide (i ≤ j))) x y H Q ∨ ∃ i j, x = .str i ∧ y = .str j ∧ Q (.bl (!decide (j.cps.toList < i.cps.toList))) H) pLe := of_ord (f := fun i j => decide (i ≤ j)) (h := fun i j => !decide (j.cps.toList < i.cps.toList)) fun a b d e => by
  unfold pLe at e
  split at e
  · cases e; exact .inl ⟨_, _, rfl, rfl, rfl⟩
  · cases e; exact .inr ⟨_, _, rfl, rfl, rfl⟩
  · cases e
theorem of_gt {K : PySem.W.Frag} : OpF T K (fun x y H Q => rI0 (fun i j => .bl (decide (j < i))) x y H Q ∨ ∃ i j, x = .str i ∧ y = .str j ∧ Q (.bl (decide (j.cps.toList < i.cps.toList))) H) pGt := of_ord (f := fun i j => decide (j < i)) (h := fun i j => decide (j.cps.toList < i.cps.toList)) fun a b d e => by
  unfold pGt at e
  split at e
  · cases e; exact .inl ⟨_, _, rfl, rfl, rfl⟩
  · cases e; exact .inr ⟨_, _, rfl, rfl, rfl⟩
  · cases e
theorem of_ge {K : PySem.W.Frag} : OpF T K (fun x y H Q => rI0 (fun i j => .bl (decide (j ≤ i))) x y H Q ∨ ∃ i j, x = .str i ∧ y = .str j ∧ Q (.bl (!decide (i.cps.toList < j.cps.toList))) H) pGe := of_ord (f := fun i j => decide (j ≤ i)) (h := fun i j => !decide (i.cps.toList < j.cps.toList)) fun a b d e => by
  unfold pGe at e
  split at e
  · cases e; exact .inl ⟨_, _, rfl, rfl, rfl⟩
  · cases e; exact .inr ⟨_, _, rfl, rfl, rfl⟩
  · cases e
theorem op_eqA (hu : X.A.units + 64 < cLine) : OpR X (compareOp .Eq) (fun x y H Q => rEq x y H Q ∨ rEqD X.K x y H Q) := OpR.or op_eq (op_eqD hu)
theorem op_neA (hu : X.A.units + 64 < cLine) : OpR X (compareOp .NotEq) (fun x y H Q => rNe x y H Q ∨ rNeD X.K x y H Q) := OpR.or op_ne (op_neD hu)
theorem of_eq {K : PySem.W.Frag} : OpF T K (fun x y H Q => rEq x y H Q ∨ rEqD K x y H Q) pEq := by
  intro gh F H σ env x y a b d Q R ra rb e q
  unfold pEq at e
  split at e
  · cases e
    cases ra; cases rb
    exact .inl ⟨rfl, q _ _ _ R (Same.refl _) (by simp only [V.int.injEq]; exact .bl _)⟩
  · cases e
    cases ra; cases rb
    exact .inl ⟨rfl, q _ _ _ R (Same.refl _) (by simp only [V.str.injEq]; exact .bl _)⟩
  · cases e
    cases ra; cases rb
    exact .inl ⟨rfl, q _ _ _ R (Same.refl _) (by simp only [V.bl.injEq]; exact .bl _)⟩
  · split at e
    · rename_i h
      cases e
      simp only [Bool.and_eq_true] at h
      exact .inr ⟨a, b, ra.dp R.sub h.1.1.1, rb.dp R.sub h.1.1.2, h.1.2, h.2, q _ _ _ R (Same.refl _) (.bl _)⟩
    · cases e
theorem of_ne {K : PySem.W.Frag} : OpF T K (fun x y H Q => rNe x y H Q ∨ rNeD K x y H Q) pNe := by
  intro gh F H σ env x y a b d Q R ra rb e q
  unfold pNe at e
  split at e
  · cases e
    cases ra; cases rb
    exact .inl ⟨rfl, q _ _ _ R (Same.refl _) (by simp only [V.int.injEq]; exact .bl _)⟩
  · cases e
    cases ra; cases rb
    exact .inl ⟨rfl, q _ _ _ R (Same.refl _) (by simp only [V.str.injEq]; exact .bl _)⟩
  · cases e
    cases ra; cases rb
    exact .inl ⟨rfl, q _ _ _ R (Same.refl _) (by simp only [V.bl.injEq]; exact .bl _)⟩
  · split at e
    · rename_i h
      cases e
      simp only [Bool.and_eq_true] at h
      exact .inr ⟨a, b, ra.dp R.sub h.1.1.1, rb.dp R.sub h.1.1.2, h.1.2, h.2, q _ _ _ R (Same.refl _) (.bl _)⟩
    · cases e
theorem isNn_dec {K : PySem.W.Frag} {F : Hp} {v : V} {d : PV} (r : Rep K F v d) : decide (v = .non) = isNn d := by
  cases r <;> simp [isNn]
theorem of_isN {K : PySem.W.Frag} : OpF T K (fun x y H Q => y = .non ∧ Q (.bl (decide (x = .non))) H) pIsN := by
  intro gh F H σ env x y a b d Q R ra rb e q
  unfold pIsN at e
  split at e
  · cases e
    cases rb
    exact ⟨rfl, q _ _ _ R (Same.refl _) (by rw [isNn_dec ra]; exact .bl _)⟩
  · cases e
theorem of_notN {K : PySem.W.Frag} : OpF T K (fun x y H Q => y = .non ∧ Q (.bl (!decide (x = .non))) H) pNotN := by
  intro gh F H σ env x y a b d Q R ra rb e q
  unfold pNotN at e
  split at e
  · cases e
    cases rb
    exact ⟨rfl, q _ _ _ R (Same.refl _) (by rw [isNn_dec ra]; exact .bl _)⟩
  · cases e
theorem fe_neg {a : Expr} {pos : Pos} {f : EF} (h : FE T X a f) : FE T X (.UnaryOp .USub a pos) (un pNeg f) :=
  (pe_un un_neg h).weak fun σ H Q ⟨gh, F, env, d, env', R, e, q⟩ => by
    unfold un at e
    split at e
    · cases e
    · rename_i d1 e1 ef
      split at e
      · cases e
      · rename_i d2 eg
        cases e
        refine ⟨gh, F, env, _, _, R, ef, fun v H1 F1 R1 s1 r1 => ?_⟩
        unfold pNeg at eg
        split at eg
        · cases eg
          exact ⟨_, r1.int_iff, q _ _ _ R1 s1 (.int _)⟩
        · cases eg
/-- a < b <= c -/
def chn (g h : PV → PV → Option PV) (fa fb fc : EF) : EF := fun env => match fa env with
  | none => none
  | some (a, e1) => match fb e1 with
    | none => none
    | some (b, e2) => match g a b with
      | some (.bool true) => match fc e2 with
        | none => none
        | some (c, e3) => match h b c with
          | none => none
          | some d => some (d, e3)
      | some (.bool false) => some (.bool false, e2)
      | _ => none
theorem re_chn {r r' : R2} {g h : PV → PV → Option PV} {fa fb fc : EF} {K : PySem.W.Frag} (hg : OpF T K r g) (hh : OpF T K r' h) : ∀ σ H Q, RE T K (chn g h fa fb fc) σ H Q → tChain r r' (RE T K fa) (RE T K fb) (RE T K fc) σ H Q := by
  rintro σ H Q ⟨gh, F, env, d, env', R, e, q⟩
  unfold chn at e
  split at e
  · cases e
  · rename_i a e1 ea
    split at e
    · cases e
    · rename_i b e2 eb
      refine ⟨gh, F, env, a, e1, R, ea, fun x H1 F1 R1 s1 ra => ⟨gh, F1, e1, b, _, R1, eb, fun y H2 F2 R2 s2 rb => ?_⟩⟩
      split at e
      · rename_i eg
        refine hg gh F2 H2 σ _ x y a b _ _ R2 (ra.mono s2) rb eg fun v H3 F3 R3 s3 r3 => ?_
        cases r3
        refine ⟨true, rfl, iteT ?_⟩
        split at e
        · cases e
        · rename_i c e3 ec
          split at e
          · cases e
          · rename_i d' eh
            cases e
            exact ⟨gh, F3, _, c, _, R3, ec, fun w H4 F4 R4 s4 r4 => hh gh F4 H4 σ _ y w b c _ Q R4 (rb.mono (s3.trans s4)) r4 eh fun v H5 F5 R5 s5 r5 => q v H5 F5 R5 (s1.trans (s2.trans (s3.trans (s4.trans s5)))) r5⟩
      · rename_i eg
        cases e
        refine hg gh F2 H2 σ _ x y a b _ _ R2 (ra.mono s2) rb eg fun v H3 F3 R3 s3 r3 => ?_
        cases r3
        exact ⟨false, rfl, iteF (q _ H3 F3 R3 (s1.trans (s2.trans s3)) (.bl _))⟩
      · cases e
theorem fe_chain {op op' : CmpOp} {a b c : Expr} {pos : Pos} {r r' : R2} {g h : PV → PV → Option PV} {fa fb fc : EF} (ho : OpR X (compareOp op) r) (hg : OpF T X.K r g) (ho' : OpR X (compareOp op') r') (hh : OpF T X.K r' h) (ha : FE T X a fa) (hb : FE T X b fb) (hc : FE T X c fc)
    (hm : lastMarks [op, op'] [b, c] = false := by with_unfolding_all rfl) : FE T X (.Compare a [op, op'] [b, c] pos) (chn g h fa fb fc) := (pe_chain ho ho' ha hb hc hm).weak (re_chn hg hh)
theorem ft_chain {op op' : CmpOp} {a b c : Expr} {pos : Pos} {r r' : R2} {g h : PV → PV → Option PV} {fa fb fc : EF} (ho : OpR X (compareOp op) r) (hg : OpF T X.K r g) (ho' : OpR X (compareOp op') r') (hh : OpF T X.K r' h) (ha : FE T X a fa) (hb : FE T X b fb) (hc : FE T X c fc)
    (hm : lastMarks [op, op'] [b, c] = false := by with_unfolding_all rfl) : FT T X (.Compare a [op, op'] [b, c] pos) (tB' (chn g h fa fb fc)) :=
  PT.weak (pt_chain ho ho' ha hb hc hm) fun σ H Q hq => tTest_mono (re_chn hg hh) σ H Q (rt_b σ H Q hq)

def tru : PV → Option Bool
  | .none => some false
  | .bool b => some b
  | .int i => some (i != 0)
  | .str z => if z.length ≤ sizeLine then some ((z.length : Int) != 0) else none
  | .list xs => some (!xs.isEmpty)
  | .tuple xs => some (!xs.isEmpty)
  | .dict _ => none
def tTr (f : EF) : TF := fun env => match f env with
  | none => none
  | some (d, e) => match tru d with
    | none => none
    | some b => some (b, e)
theorem Reps.empty_iff {K : PySem.W.Frag} {F : Hp} {vs : List V} {ds : List PV} (r : Reps K F vs ds) : vs.isEmpty = ds.isEmpty := by cases r <;> rfl
theorem ft_tru {e : Expr} {f : EF} (h : FE T X e f) (he : ∀ whole, isTrue e X.env whole = (do let v ← whole; standAt e.pos; holding [v] (truthy v)) := by intro _; rfl) : FT T X e (tTr f) :=
  PT.weak (pt_truth h he) fun σ H Q ⟨gh, F, env, b, env', R, e, q⟩ => by
    unfold tTr at e
    split at e
    · cases e
    · rename_i d e1 ef
      split at e
      · cases e
      · rename_i b' et
        cases e
        refine ⟨gh, F, env, _, _, R, ef, fun v H1 F1 R1 s1 r1 => ⟨b, ?_, q H1 F1 R1 s1⟩⟩
        cases r1 with
        | non => cases et; rfl
        | bl => cases et; rfl
        | int => cases et; rfl
        | str z =>
          have et' : (if z.length ≤ sizeLine then some ((z.length : Int) != 0) else none) = some b := et
          by_cases hz : z.length ≤ sizeLine
          · rw [if_pos hz] at et'; cases et'; exact ⟨hz, rfl⟩
          · rw [if_neg hz] at et'; cases et'
        | lst h r => cases et; exact .inl ⟨_, .inl (.inl (R1.sub _ _ h)), by rw [r.empty_iff]⟩
        | tup h r => cases et; exact .inr (.inl ⟨_, SqT.mono R1.sub (sqT h), by rw [r.empty_iff]⟩)
        | dk h r => cases et
        | dt h r => cases et
        | lk h r => cases et

def pLen : List PV → Option PV
  | [.list xs] => some (.int xs.length)
  | [.tuple xs] => some (.int xs.length)
  | [.str z] => if z.length ≤ sizeLine then some (.int z.length) else none
  | _ => none
theorem cf_len {K : PySem.W.Frag} : CallF T K (fun xs H Q => ∃ x n, xs = [x] ∧ LenV K x H n ∧ Q (.int n) H) pLen := by
  intro gh F H σ env xs ds d Q R r e q
  unfold pLen at e
  split at e
  · cases e
    cases r with
    | cons r1 r2 =>
      cases r2
      cases r1 with
      | lst h rr => exact ⟨_, _, rfl, .inl ⟨_, .inl (.inl (R.sub _ _ h)), rfl⟩, by rw [rr.len]; exact q _ _ _ R (Same.refl _) (.int _)⟩
  · cases e
    cases r with
    | cons r1 r2 =>
      cases r2
      cases r1 with
      | tup h rr => exact ⟨_, _, rfl, .inr ⟨_, SqT.mono R.sub (sqT h), rfl⟩, by rw [rr.len]; exact q _ _ _ R (Same.refl _) (.int _)⟩
  · split at e
    · rename_i hz
      cases e
      cases r with
      | cons r1 r2 =>
        cases r2
        cases r1
        exact ⟨_, _, rfl, ⟨hz, rfl⟩, q _ _ _ R (Same.refl _) (.int _)⟩
    · cases e
  · cases e
def pAbs : List PV → Option PV
  | [.int i] => some (.int (if i < 0 then -i else i))
  | _ => none
theorem cf_abs {K : PySem.W.Frag} : CallF T K (fun xs H Q => ∃ i, xs = [.int i] ∧ Q (.int (if i < 0 then -i else i)) H) pAbs := by
  intro gh F H σ env xs ds d Q R r e q
  unfold pAbs at e
  split at e
  · cases e
    cases r with
    | cons r1 r2 =>
      cases r2
      cases r1
      exact ⟨_, rfl, q _ _ _ R (Same.refl _) (.int _)⟩
  · cases e
def pGcd : List PV → Option PV
  | [.int a, .int b] => some (.int (Nat.gcd a.natAbs b.natAbs : Nat))
  | _ => none
theorem cf_gcd {K : PySem.W.Frag} : CallF T K rGcd pGcd := by
  intro gh F H σ env xs ds d Q R r e q
  unfold pGcd at e
  split at e
  · cases e
    cases r with
    | cons r1 r2 => cases r2 with
      | cons r3 r4 =>
        cases r4; cases r1; cases r3
        exact ⟨_, _, rfl, q _ _ _ R (Same.refl _) (.int _)⟩
  · cases e
def pMin2 : List PV → Option PV
  | [.int a, .int b] => some (.int (if b < a then b else a))
  | _ => none
theorem cf_min2 {K : PySem.W.Frag} : CallF T K (fun xs H Q => ∃ i j, xs = [.int i, .int j] ∧ Q (.int (if j < i then j else i)) H) pMin2 := by
  intro gh F H σ env xs ds d Q R r e q
  unfold pMin2 at e
  split at e
  · cases e
    cases r with
    | cons r1 r2 => cases r2 with
      | cons r3 r4 =>
        cases r4; cases r1; cases r3
        exact ⟨_, _, rfl, q _ _ _ R (Same.refl _) (.int _)⟩
  · cases e
def pMax2 : List PV → Option PV
  | [.int a, .int b] => some (.int (if b > a then b else a))
  | _ => none
theorem cf_max2 {K : PySem.W.Frag} : CallF T K (fun xs H Q => ∃ i j, xs = [.int i, .int j] ∧ Q (.int (if j > i then j else i)) H) pMax2 := by
  intro gh F H σ env xs ds d Q R r e q
  unfold pMax2 at e
  split at e
  · cases e
    cases r with
    | cons r1 r2 => cases r2 with
      | cons r3 r4 =>
        cases r4; cases r1; cases r3
        exact ⟨_, _, rfl, q _ _ _ R (Same.refl _) (.int _)⟩
  · cases e
/-- int(n) -/
def pInt1 : List PV → Option PV
  | [.int i] => some (.int i)
  | _ => none
theorem cf_int1 {K : PySem.W.Frag} : CallF T K (fun xs H Q => (∃ i, xs = [.int i] ∧ Q (.int i) H) ∨ ∃ k, xs = [.bl k] ∧ Q (.int (if k then 1 else 0)) H) pInt1 := by
  intro gh F H σ env xs ds d Q R r e q
  unfold pInt1 at e
  split at e
  · cases e
    cases r with
    | cons r1 r2 =>
      cases r2
      cases r1
      exact .inl ⟨_, rfl, q _ _ _ R (Same.refl _) (.int _)⟩
  · cases e
/-- str(n) -/
def pStr : List PV → Option PV
  | [.int i] => if i.natAbs.log2 < 1920 then some (.str (toString i)) else none
  | _ => none
theorem cf_str {K : PySem.W.Frag} : CallF T K (fun xs H Q => ∃ i, xs = [.int i] ∧ i.natAbs.log2 < 1920 ∧ Q (.str (toString i)) H) pStr := by
  intro gh F H σ env xs ds d Q R r e q
  unfold pStr at e
  split at e
  · split at e
    · rename_i hl
      cases e
      cases r with
      | cons r1 r2 =>
        cases r2
        cases r1
        exact ⟨_, rfl, hl, q _ _ _ R (Same.refl _) (.str _)⟩
    · cases e
  · cases e
/-- all items are ints -/
def intsOf : List PV → Option (List Int)
  | [] => some []
  | .int i :: r => match intsOf r with
    | some is => some (i :: is)
    | none => none
  | _ :: _ => none
theorem intsOf_eq : ∀ {ds : List PV} {is : List Int}, intsOf ds = some is → ds = is.map PyData.int
  | [], _, h => by cases h; rfl
  | .int i :: r, is, h => by
    unfold intsOf at h
    split at h
    · rename_i js hj
      cases h
      rw [intsOf_eq hj]; rfl
    · cases h
  | .none :: _, _, h => by cases h
  | .bool _ :: _, _, h => by cases h
  | .str _ :: _, _, h => by cases h
  | .list _ :: _, _, h => by cases h
  | .tuple _ :: _, _, h => by cases h
  | .dict _ :: _, _, h => by cases h
theorem intsOf_map (is : List Int) : intsOf (is.map PyData.int) = some is := by
  induction is with
  | nil => rfl
  | cons i r ih => simp [intsOf, ih]
theorem Reps.ints {K : PySem.W.Frag} {F : Hp} : ∀ {is : List Int} {vs : List V}, Reps K F vs (is.map PyData.int) → vs = is.map V.int
  | [], _, .nil => rfl
  | i :: r, _, .cons h t => by
    cases h
    rw [Reps.ints (is := r) t]; rfl
theorem reps_ints {K : PySem.W.Frag} {F : Hp} : ∀ (is : List Int), Reps K F (is.map V.int) (is.map PyData.int)
  | [] => .nil
  | i :: r => .cons (.int i) (reps_ints r)
def pSum : List PV → Option PV
  | [.list xs] => match intsOf xs with
    | some is => some (.int is.sum)
    | none => none
  | _ => none
theorem cf_sum {K : PySem.W.Frag} : CallF T K (rSum K) pSum := by
  intro gh F H σ env xs ds d Q R r e q
  unfold pSum at e
  split at e
  · split at e
    · rename_i is hi
      cases e
      cases r with
      | cons r1 r2 =>
        cases r2
        cases r1 with
        | lst h rr =>
          rw [intsOf_eq hi] at rr
          have := rr.ints
          subst this
          exact ⟨_, is, rfl, .inl (.inl (R.sub _ _ h)), q _ _ _ R (Same.refl _) (.int _)⟩
    · cases e
  · cases e
/-- sorted(xs), ints -/
def insI (i : Int) : List Int → List Int
  | [] => [i]
  | j :: r => if i ≤ j then i :: j :: r else j :: insI i r
def srtI : List Int → List Int
  | [] => []
  | i :: r => insI i (srtI r)
theorem insI_perm (i : Int) : ∀ l : List Int, (insI i l).Perm (i :: l)
  | [] => .refl _
  | j :: r => by
    unfold insI
    split
    · exact .refl _
    · exact ((insI_perm i r).cons j).trans (.swap i j r)
theorem srtI_perm : ∀ l : List Int, (srtI l).Perm l
  | [] => .refl _
  | i :: r => (insI_perm i _).trans ((srtI_perm r).cons i)
theorem insI_sorted (i : Int) : ∀ l : List Int, l.Pairwise (· ≤ ·) → (insI i l).Pairwise (· ≤ ·)
  | [], _ => by simp [insI]
  | j :: r, h => by
    unfold insI
    have hj := List.pairwise_cons.mp h
    split
    · rename_i hij
      refine List.pairwise_cons.mpr ⟨fun x hx => ?_, h⟩
      rcases List.mem_cons.mp hx with rfl | hx
      · exact hij
      · exact Int.le_trans hij (hj.1 x hx)
    · rename_i hij
      refine List.pairwise_cons.mpr ⟨fun x hx => ?_, insI_sorted i r hj.2⟩
      rcases List.mem_cons.mp ((insI_perm i r).mem_iff.mp hx) with rfl | hx
      · omega
      · exact hj.1 x hx
theorem srtI_sorted : ∀ l : List Int, (srtI l).Pairwise (· ≤ ·)
  | [] => .nil
  | i :: r => insI_sorted i _ (srtI_sorted r)
theorem sorted_one : ∀ {a b : List Int}, a.Perm b → a.Pairwise (· ≤ ·) → b.Pairwise (· ≤ ·) → a = b := fun {a b} p ha hb => p.eq_of_pairwise (fun x y _ _ h1 h2 => Int.le_antisymm h1 h2) ha hb
def pSorted : List PV → Option PV
  | [.list xs] => match intsOf xs with
    | some is => some (.list ((srtI is).map PyData.int))
    | none => none
  | _ => none
theorem cn_sorted {K : PySem.W.Frag} : CallN T K (rSortedI K) pSorted := by
  intro gh F H σ env xs ds d Q R r e q
  unfold pSorted at e
  split at e
  · split at e
    · rename_i is hi
      cases e
      cases r with
      | cons r1 r2 =>
        cases r2
        cases r1 with
        | lst h rr =>
          rw [intsOf_eq hi] at rr
          have := rr.ints
          subst this
          refine ⟨_, is, rfl, .inl (.inl (R.sub _ _ h)), fun ns' p hp hs hnew => ?_⟩
          have e1 : ns' = srtI is := sorted_one (hp.trans (srtI_perm is).symm) hs (srtI_sorted is)
          subst e1
          obtain ⟨h0, nT, hF⟩ := R.fresh hnew
          exact q p _ F (R.laid hnew) (Same.refl _) hF h0 (R.own_ne hnew) (.lst upd_same (reps_ints _))
    · cases e
  · cases e
theorem Rep.isLk {K : PySem.W.Frag} {F : Hp} {v : V} {ds : List PV} (h : Rep K F v (.dict [(.bool true, .list ds)])) : ∃ a xs, v = .ref a ∧ SqL K F a xs ∧ Reps K F xs ds := by
  generalize e : PyData.dict [(.bool true, .list ds)] = d at h
  cases h with
  | lk h r => cases e; exact ⟨_, _, rfl, h, r⟩
  | dk h r =>
    injection e with e
    cases r with
    | nil => cases e
    | cons r1 r2 =>
      rename_i k _ _ _ _
      injection e with e1 e2
      injection e1 with e1 e3
      cases k <;> cases e1
  | _ => cases e
/-- list(x) -/
def pList : List PV → Option PV
  | [.list xs] => some (.list xs)
  | [.tuple xs] => some (.list xs)
  | [.dict [(.bool true, .list xs)]] => some (.list xs)
  | _ => none
theorem cn_list {K : PySem.W.Frag} : CallN T K (fun xs H Q => ∃ p ys, xs = [.ref p] ∧ (SqL K H p ys ∨ SqT K H p ys) ∧ ∀ l, H l = none → Q (.ref l) (upd H l (.lst ys))) pList := by
  intro gh F H σ env xs ds d Q R r e q
  unfold pList at e
  split at e
  · cases e
    cases r with
    | cons r1 r2 =>
      cases r2
      cases r1 with
      | lst h rr =>
        refine ⟨_, _, rfl, .inl (.inl (.inl (R.sub _ _ h))), fun l hl => ?_⟩
        obtain ⟨h0, nT, hF⟩ := R.fresh hl
        exact q l _ F (R.laid hl) (Same.refl _) hF h0 (R.own_ne hl) (.lst upd_same rr)
  · cases e
    cases r with
    | cons r1 r2 =>
      cases r2
      cases r1 with
      | tup h rr =>
        refine ⟨_, _, rfl, .inr (SqT.mono R.sub (sqT h)), fun l hl => ?_⟩
        obtain ⟨h0, nT, hF⟩ := R.fresh hl
        exact q l _ F (R.laid hl) (Same.refl _) hF h0 (R.own_ne hl) (.lst upd_same rr)
  · cases e
    cases r with
    | cons r1 r2 =>
      cases r2
      obtain ⟨a, ys, rfl, h, rr⟩ := r1.isLk
      refine ⟨_, _, rfl, .inl (SqL.mono R.sub h), fun l hl => ?_⟩
      obtain ⟨h0, nT, hF⟩ := R.fresh hl
      exact q l _ F (R.laid hl) (Same.refl _) hF h0 (R.own_ne hl) (.lst upd_same rr)
  · cases e
/-- tuple(x) -/
def pTuple : List PV → Option PV
  | [.list xs] => some (.tuple xs)
  | [.tuple xs] => some (.tuple xs)
  | _ => none
theorem cf_tuple {K : PySem.W.Frag} : CallF T K (fun xs H Q => ∃ p ys, xs = [.ref p] ∧ ((SqL K H p ys ∧ ∀ l, H l = none → Q (.ref l) (upd H l (.tup ys))) ∨ (SqT K H p ys ∧ Q (.ref p) H))) pTuple := by
  intro gh F H σ env xs ds d Q R r e q
  unfold pTuple at e
  split at e
  · cases e
    cases r with
    | cons r1 r2 =>
      cases r2
      cases r1 with
      | lst h rr =>
        refine ⟨_, _, rfl, .inl ⟨.inl (.inl (R.sub _ _ h)), fun l hl => ?_⟩⟩
        obtain ⟨R2, s2⟩ := R.laidF (o := .tup _) hl
        exact q _ _ _ R2 s2 (.tup upd_same (rr.mono s2))
  · cases e
    cases r with
    | cons r1 r2 =>
      cases r2
      cases r1 with
      | tup h rr => exact ⟨_, _, rfl, .inr ⟨SqT.mono R.sub (sqT h), q _ _ _ R (Same.refl _) (.tup h rr)⟩⟩
  · cases e

def isi (n : String) : PV → Option Bool
  | .none => kitB "NoneType" n
  | .bool _ => kitB "bool" n
  | .int _ => kitB "int" n
  | .str _ => kitB "str" n
  | .list _ => kitB "list" n
  | .tuple _ => kitB "tuple" n
  | .dict _ => none
def eIsi (n : String) (f : EF) : EF := fun env => match f env with
  | none => none
  | some (d, e) => match isi n d with
    | none => none
    | some b => some (.bool b, e)
theorem Rep.tyX {K : PySem.W.Frag} {F H : Hp} {v : V} {d : PV} {n : String} {b : Bool} (s : Same F H) (r : Rep K F v d) (e : isi n d = some b) : ∃ t, TyX K H v t ∧ PySem.W.kitOne K t (.type n) = some b := by
  cases r with
  | non => exact ⟨_, .base .non, kit_ty e⟩
  | bl x => exact ⟨_, .base (.bl x), kit_ty e⟩
  | int x => exact ⟨_, .base (.int x), kit_ty e⟩
  | str x => exact ⟨_, .base (.str x), kit_ty e⟩
  | lst h r => exact ⟨_, .base (.lst (s _ _ h)), kit_ty e⟩
  | tup h r =>
    rcases SqT.mono s (sqT h) with (h | ⟨o, h⟩) | ⟨o, its, n', hk, hc, _⟩
    · exact ⟨_, .base (.tup h), kit_ty e⟩
    · exact ⟨_, .fTuple h, kit_ty e⟩
    · exact ⟨_, .kTuple hk hc, kit_ty e⟩
  | dk h r => cases e
  | dt h r => cases e
  | lk h r => cases e
theorem fe_isi (n : String) {a : Expr} {p p2 pos : Pos} {x : Str} {f : EF} (hg : Gl X "isinstance") (hm : X.mg "isinstance" = none) (hg2 : Gl X x) (hm2 : X.mg x = none) (hv : bootBuiltins x = some (.type n)) (ha : FE T X a f) (hb : bootBuiltins "isinstance" = some (.builtin "isinstance") := by decide +kernel)
    (hn : x ≠ "__name__" := by decide) (hd : (x == ("__debug__" : Str)) = false := by decide)
    (he : starEach [a, .Name x p2] X.env = (false, eval a X.env) :: starEach [.Name x p2] X.env := by rfl) (he2 : starEach [.Name x p2] X.env = (false, eval (.Name x p2) X.env) :: starEach [] X.env := by rfl) (hpl : (backTo pos (starEach [.Name x p2] X.env)).any (·.1) = false := by rfl) :
    FE T X (.Call (.Name "isinstance" p) [a, .Name x p2] [] pos) (eIsi n f) :=
  (pe_callB call_isi hg hm hb (pa_cons ha (pa_cons (pe_bltn (v := .ty n) hg2 hm2 hv rfl hn hd) pa_nil he2) he) (by decide) (by decide) he hpl).weak fun σ H Q ⟨gh, F, env, d, env', R, e, q⟩ => by
    unfold eIsi at e
    split at e
    · cases e
    · rename_i d1 e1 ef
      split at e
      · cases e
      · rename_i b eb
        cases e
        refine ⟨gh, F, env, _, _, R, ef, fun v H1 F1 R1 s1 r1 => ?_⟩
        obtain ⟨t, h1, h2⟩ := r1.tyX R1.sub eb
        exact ⟨v, .ty n, t, .type n, b, rfl, .ty n, h1, h2, q _ _ _ R1 s1 (.bl b)⟩

def pIx : PV → PV → Option PV
  | .list xs, .int i => atI xs i
  | .tuple xs, .int i => atI xs i
  | .str z, .int i => if z.length ≤ sizeLine then (atI z.cps.toList i).map fun c => .str ⟨#[c]⟩ else none
  | _, _ => none
def rIxA (K : PySem.W.Frag) : R2 := fun x y H Q => rIxL K x y H Q ∨ rIxT K x y H Q ∨ rIxS x y H Q
theorem ix_all : IxR X (rIxA X.K) := IxR.or ix_list (IxR.or ix_tup ix_str)
theorem Reps.atI {K : PySem.W.Frag} {F : Hp} {vs : List V} {ds : List PV} {i : Int} {d : PV} (r : Reps K F vs ds) (h : L2.atI ds i = some d) : ∃ v, L2.atI vs i = some v ∧ Rep K F v d := by
  unfold L2.atI at h ⊢
  rw [r.len]
  cases e : ixN ds.length i with
  | none => rw [e] at h; cases h
  | some j =>
    rw [e] at h
    exact r.get h
theorem of_ix {K : PySem.W.Frag} : OpF T K (rIxA K) pIx := by
  intro gh F H σ env x y a b d Q R ra rb e q
  unfold pIx at e
  split at e
  · cases ra with
    | lst h r =>
      obtain ⟨v, e1, r1⟩ := r.atI e
      exact .inl ⟨_, _, _, _, rfl, rb.int_iff, .inl (.inl (R.sub _ _ h)), e1, q _ _ _ R (Same.refl _) r1⟩
  · cases ra with
    | tup h r =>
      obtain ⟨v, e1, r1⟩ := r.atI e
      exact .inr (.inl ⟨_, _, _, _, rfl, rb.int_iff, SqT.mono R.sub (sqT h), e1, q _ _ _ R (Same.refl _) r1⟩)
  · split at e
    · rename_i hz
      cases hc : atI _ _ with
      | none => rw [hc] at e; cases e
      | some c =>
        rw [hc] at e
        cases e
        exact .inr (.inr ⟨_, _, _, ra.str_iff, rb.int_iff, hz, hc, q _ _ _ R (Same.refl _) (.str _)⟩)
    · cases e
  · cases e
theorem fe_ix {a b : Expr} {pos : Pos} {fa fb : EF} (ha : FE T X a fa) (hb : FE T X b fb) (hs : PlainIx b := by exact fun _ _ => rfl) : FE T X (.Subscript a b pos) (bin pIx fa fb) :=
  (pe_ix ix_all ha hb hs).weak (re_bin (ta := RE T X.K fa) (tb := RE T X.K fb) of_ix)

def cont (env : Ev) (i : Nat) : Option PV := match env[i]? with
  | some (.va d) => some d
  | some (.ow d) => some d
  | some (.io d) => some d
  | _ => none
/-- readable now -/
inductive Read (K : PySem.W.Frag) (F H : Hp) : V → PV → Prop
  | val {v : V} {d : PV} : Rep K F v d → Read K F H v d
  | own {a : Addr} {d : PV} : Own K F H a d → Read K F H (.ref a) d
theorem Rel.cont {K : PySem.W.Frag} {g : Gh} {F H : Hp} {σ : St} {env : Ev} {i : Nat} {d : PV} (R : Rel T K g F H σ env) (h : Fx.cont env i = some d) : ∃ v, σ[i]? = some (some v) ∧ Read K F H v d := by
  unfold Fx.cont at h
  split at h
  · rename_i d' hd; cases h
    obtain ⟨v, e, r⟩ := R.va i _ hd
    exact ⟨v, e, .val r⟩
  · rename_i d' hd; cases h
    obtain ⟨a, e, _, _, r⟩ := R.ow i _ hd
    exact ⟨_, e, .own r⟩
  · rename_i d' hd; cases h
    obtain ⟨a, _, e, _, r⟩ := R.io i _ hd
    exact ⟨_, e, .own r⟩
  · cases h
/-- what a list, read now, is -/
theorem Read.lst {K : PySem.W.Frag} {F H : Hp} {v : V} {ds : List PV} (s : Same F H) (h : Read K F H v (.list ds)) : ∃ a xs, v = .ref a ∧ H a = some (.lst xs) ∧ Reps K F xs ds := by
  cases h with
  | val r => cases r with
    | lst h r => exact ⟨_, _, rfl, s _ _ h, r⟩
  | own r => cases r with
    | lst h r => exact ⟨_, _, rfl, h, r⟩
theorem Read.tup {K : PySem.W.Frag} {F H : Hp} {v : V} {ds : List PV} (s : Same F H) (h : Read K F H v (.tuple ds)) : ∃ a xs, v = .ref a ∧ SqT K H a xs ∧ Reps K F xs ds := by
  cases h with
  | val r => cases r with
    | tup h r => exact ⟨_, _, rfl, SqT.mono s (sqT h), r⟩
  | own r => cases r
theorem Read.str {K : PySem.W.Frag} {F H : Hp} {v : V} {z : Str} (h : Read K F H v (.str z)) : v = .str z := by
  cases h with
  | val r => exact r.str_iff
  | own r => cases r
def ixN' (i : Nat) (fb : EF) : EF := fun env => match Fx.cont env i with
  | none => none
  | some _ => match fb env with
    | none => none
    | some (k, e) => match Fx.cont e i with
      | none => none
      | some d => match pIx d k with
        | none => none
        | some r => some (r, e)
theorem fe_ixN (i : Nat) {x : Str} {px pos : Pos} {b : Expr} {fb : EF} (hb : FE T X b fb) (hN : X.N[i]? = some x := by rfl) (hv : Vis X.env.scope x := by first | exact Or.inl rfl | exact Or.inr (Or.inl rfl) | exact Or.inr (Or.inr rfl)) (hs : PlainIx b := by exact fun _ _ => rfl)
    (hd : (x == ("__debug__" : Str)) = false := by decide) (hcd : (x == ("__classdict__" : Str)) = false := by decide) : FE T X (.Subscript (.Name x px) b pos) (ixN' i fb) :=
  (pe_ix ix_all (pe_var hN hv hd hcd) hb hs).weak fun σ H Q ⟨gh, F, env, d, env', R, e, q⟩ => by
    unfold ixN' at e
    split at e
    · cases e
    · rename_i d0 h0
      obtain ⟨v, ev, _⟩ := R.cont h0
      refine ⟨v, ev, ?_⟩
      split at e
      · cases e
      · rename_i k e1 eb
        refine ⟨gh, F, env, _, _, R, eb, fun y H1 F1 R1 s1 rb => ?_⟩
        split at e
        · cases e
        · rename_i d1 h1
          obtain ⟨v', ev', rd⟩ := R1.cont h1
          rw [ev] at ev'
          cases ev'
          split at e
          · cases e
          · rename_i r er
            cases e
            unfold pIx at er
            split at er
            · obtain ⟨a, xs, rfl, hl, rr⟩ := rd.lst R1.sub
              obtain ⟨w, e2, r2⟩ := rr.atI er
              exact .inl ⟨_, _, _, _, rfl, rb.int_iff, .inl (.inl hl), e2, q _ _ _ R1 s1 r2⟩
            · obtain ⟨a, xs, rfl, hl, rr⟩ := rd.tup R1.sub
              obtain ⟨w, e2, r2⟩ := rr.atI er
              exact .inr (.inl ⟨_, _, _, _, rfl, rb.int_iff, hl, e2, q _ _ _ R1 s1 r2⟩)
            · have := rd.str
              subst this
              split at er
              · rename_i hz
                cases hc : atI _ _ with
                | none => rw [hc] at er; cases er
                | some c =>
                  rw [hc] at er
                  cases er
                  exact .inr (.inr ⟨_, _, _, rfl, rb.int_iff, hz, hc, q _ _ _ R1 s1 (.str _)⟩)
              · cases er
            · cases er
/-- len of a name -/
def lenN (i : Nat) : EF := fun env => match Fx.cont env i with
  | none => none
  | some d => match pLen [d] with
    | none => none
    | some r => some (r, env)
theorem fe_lenN (i : Nat) {x : Str} {p px pos : Pos} (hg : Gl X "len") (hm : X.mg "len" = none) (hN : X.N[i]? = some x := by rfl) (hv : Vis X.env.scope x := by first | exact Or.inl rfl | exact Or.inr (Or.inl rfl) | exact Or.inr (Or.inr rfl))
    (hd : (x == ("__debug__" : Str)) = false := by decide) (hcd : (x == ("__classdict__" : Str)) = false := by decide) (he : starEach [.Name x px] X.env = (false, eval (.Name x px) X.env) :: starEach [] X.env := by rfl) (hpl : (backTo pos (starEach [] X.env)).any (·.1) = false := by rfl) :
    FE T X (.Call (.Name "len" p) [.Name x px] [] pos) (lenN i) :=
  (pe_callB call_len hg hm PySem.boot_len (pa_cons (pe_var hN hv hd hcd) pa_nil he) (by decide) (by decide) he hpl).weak fun σ H Q ⟨gh, F, env, d, env', R, e, q⟩ => by
    unfold lenN at e
    split at e
    · cases e
    · rename_i d0 h0
      obtain ⟨v, ev, rd⟩ := R.cont h0
      refine ⟨v, ev, ?_⟩
      split at e
      · cases e
      · rename_i r er
        cases e
        unfold pLen at er
        split at er
        · rename_i xs hx
          cases er
          cases hx
          obtain ⟨a, ys, rfl, hl, rr⟩ := rd.lst R.sub
          exact ⟨_, _, rfl, .inl ⟨_, .inl (.inl hl), rfl⟩, by rw [rr.len]; exact q _ _ _ R (Same.refl _) (.int _)⟩
        · rename_i xs hx
          cases er
          cases hx
          obtain ⟨a, ys, rfl, hl, rr⟩ := rd.tup R.sub
          exact ⟨_, _, rfl, .inr ⟨_, hl, rfl⟩, by rw [rr.len]; exact q _ _ _ R (Same.refl _) (.int _)⟩
        · rename_i z hz
          cases hz
          split at er
          · rename_i hl
            cases er
            have := rd.str
            subst this
            exact ⟨_, _, rfl, ⟨hl, rfl⟩, q _ _ _ R (Same.refl _) (.int _)⟩
          · cases er
        · cases er
end
end Fx

namespace Fx
open PySem PySem.Spec L2
open PyProof.Rows hiding St

section
variable {T : List Addr} {K : PySem.W.Frag} {g : Gh} {F H : Hp} {σ : St} {env : Ev}
/-- the object that the name i holds is changed -/
theorem Rel.write (R : Rel T K g F H σ env) {i : Nat} {p : Addr} {o : HO} {d' : PV} {s : Sl} (hp : σ[i]? = some (some (.ref p))) (ho : Own K F (upd H p o) p d') (h : (∃ d, env[i]? = some (.ow d) ∧ s = .ow d') ∨ ∃ d, env[i]? = some (.io d) ∧ s = .io d') :
    Rel T K g F (upd H p o) σ (env.set i s) := by
  have hi : i < env.length := by
    rcases h with ⟨d, e, _⟩ | ⟨d, e, _⟩ <;> exact (List.getElem?_eq_some_iff.mp e).1
  have oi : owns env i := by
    rcases h with ⟨d, e, _⟩ | ⟨d, e, _⟩
    · exact ⟨d, .inl e⟩
    · exact ⟨d, .inr e⟩
  obtain ⟨hF, o₀, hH, hnt⟩ : F p = none ∧ ∃ o₀, H p = some o₀ ∧ ∀ ps, o₀ ≠ .tbl ps := by
    rcases h with ⟨d, e, _⟩ | ⟨d, e, _⟩
    · obtain ⟨a, e1, e2, _, ho⟩ := R.ow i d e
      rw [hp] at e1; cases e1
      exact ⟨e2, ho.at_⟩
    · obtain ⟨a, _, e1, e2, ho⟩ := R.io i d e
      rw [hp] at e1; cases e1
      exact ⟨e2, ho.at_⟩
  have get : ∀ (j : Nat) x, j ≠ i → (env.set i s)[j]? = some x → env[j]? = some x := fun j x hj q => by
    rw [List.getElem?_set_ne (Ne.symm hj)] at q; exact q
  have own' : ∀ j : Nat, owns (env.set i s) j → owns env j := fun j ⟨d, hd⟩ => by
    by_cases hj : j = i
    · rw [hj]; exact oi
    · exact ⟨d, hd.imp (get j _ hj) (get j _ hj)⟩
  have ne : ∀ (j : Nat) (b : Addr), j ≠ i → owns env j → σ[j]? = some (some (.ref b)) → b ≠ p := fun j b hj oj ej z => by
    subst z
    exact hj (R.sep j i b oj oi ej hp)
  refine ⟨by rw [List.length_set]; exact R.len, fun a o' e => ?_, R.f0, R.new, fun a o' e n1 n2 => ?_, fun P hP => ?_, R.nt, fun j d q => ?_, fun j d q => ?_, fun j d q => ?_, fun j a q => ?_, fun a o' q => ?_, fun j k a q1 q2 => R.sep j k a (own' j q1) (own' k q2)⟩
  · rw [upd_ne (fun (z : a = p) => by rw [z, hF] at e; cases e)]
    exact R.sub a o' e
  · have : a ≠ p := fun z => by
      subst z
      rcases h with ⟨d, e', _⟩ | ⟨d, e', _⟩
      · obtain ⟨a', e1, _, e3, _⟩ := R.ow i d e'
        rw [hp] at e1; cases e1
        rw [e] at e3; cases e3
      · obtain ⟨a', e0, e1, _⟩ := R.io i d e'
        rw [hp] at e1; cases e1
        exact n2 i e0
    rw [upd_ne this]
    exact R.keep a o' e n1 n2
  · obtain ⟨ps, e, t⟩ := R.tab P hP
    have : P ≠ p := fun z => by rw [z, hH] at e; cases e; exact hnt ps rfl
    exact ⟨ps, by rw [upd_ne this]; exact e, t⟩
  · have hj : j ≠ i := fun z => by
      rw [z, List.getElem?_set_self hi] at q
      rcases h with ⟨_, _, e⟩ | ⟨_, _, e⟩ <;> rw [e] at q <;> cases q
    exact R.va j d (get j _ hj q)
  · by_cases hj : j = i
    · subst hj
      rw [List.getElem?_set_self hi] at q
      rcases h with ⟨d0, e0, e⟩ | ⟨d0, e0, e⟩
      · rw [e] at q; cases q
        obtain ⟨a, e1, e2, e3, _⟩ := R.ow j d0 e0
        rw [hp] at e1; cases e1
        exact ⟨p, hp, e2, e3, ho⟩
      · rw [e] at q; cases q
    · obtain ⟨a, e1, e2, e3, h4⟩ := R.ow j d (get j _ hj q)
      exact ⟨a, e1, e2, e3, h4.mono (Same.refl _) (upd_ne (ne j a hj ⟨d, .inl (get j _ hj q)⟩ e1))⟩
  · by_cases hj : j = i
    · subst hj
      rw [List.getElem?_set_self hi] at q
      rcases h with ⟨d0, e0, e⟩ | ⟨d0, e0, e⟩
      · rw [e] at q; cases q
      · rw [e] at q; cases q
        obtain ⟨a, e00, e1, e2, _⟩ := R.io j d0 e0
        rw [hp] at e1; cases e1
        exact ⟨p, e00, hp, e2, ho⟩
    · obtain ⟨a, e0, e1, e2, h4⟩ := R.io j d (get j _ hj q)
      exact ⟨a, e0, e1, e2, h4.mono (Same.refl _) (upd_ne (ne j a hj ⟨d, .inr (get j _ hj q)⟩ e1))⟩
  · obtain ⟨e1, d, e2⟩ := R.iok j a q
    refine ⟨e1, ?_⟩
    by_cases hj : j = i
    · subst hj
      rcases h with ⟨d0, e0, e⟩ | ⟨d0, e0, e⟩
      · rw [e2] at e0; cases e0
      · exact ⟨d', by rw [List.getElem?_set_self hi, e]⟩
    · exact ⟨d, by rw [List.getElem?_set_ne (Ne.symm hj)]; exact e2⟩
  · obtain ⟨t1, t2, t3, t4⟩ := R.tm a o' q
    have ha : a ≠ p := fun z => t4 i oi (by rw [hp, z])
    exact ⟨by rw [upd_ne ha]; exact t1, t2, t3, fun j hj => t4 j (own' j hj)⟩
/-- the same in words of the slot -/
inductive Mine : Sl → PV → Prop
  | ow (d : PV) : Mine (.ow d) d
  | io (d : PV) : Mine (.io d) d
def mine (env : Ev) (i : Nat) : Option PV := match env[i]? with
  | some (.ow d) => some d
  | some (.io d) => some d
  | _ => none
def putM (env : Ev) (i : Nat) (d : PV) : Ev := match env[i]? with
  | some (.ow _) => env.set i (.ow d)
  | some (.io _) => env.set i (.io d)
  | _ => env
theorem Rel.mine (R : Rel T K g F H σ env) {i : Nat} {d : PV} (h : Fx.mine env i = some d) : ∃ p, σ[i]? = some (some (.ref p)) ∧ F p = none ∧ Own K F H p d ∧
    ∀ o d', Own K F (upd H p o) p d' → Rel T K g F (upd H p o) σ (putM env i d') := by
  unfold Fx.mine at h
  split at h
  · rename_i d0 e; cases h
    obtain ⟨a, e1, e2, _, ho⟩ := R.ow i _ e
    refine ⟨a, e1, e2, ho, fun o d' ho' => ?_⟩
    have : putM env i d' = env.set i (.ow d') := by unfold putM; rw [e]
    rw [this]
    exact R.write e1 ho' (.inl ⟨_, e, rfl⟩)
  · rename_i d0 e; cases h
    obtain ⟨a, _, e1, e2, ho⟩ := R.io i _ e
    refine ⟨a, e1, e2, ho, fun o d' ho' => ?_⟩
    have : putM env i d' = env.set i (.io d') := by unfold putM; rw [e]
    rw [this]
    exact R.write e1 ho' (.inr ⟨_, e, rfl⟩)
  · cases h
theorem Own.isLst {p : Addr} {ds : List PV} (h : Own K F H p (.list ds)) : ∃ xs, H p = some (.lst xs) ∧ Reps K F xs ds := by
  cases h with
  | lst h r => exact ⟨_, h, r⟩
end

section
variable {T : List Addr} {X : Cx}
def isL (env : Ev) (i : Nat) : Bool := match Fx.mine env i with
  | some (.list _) => true
  | _ => false
def append (i : Nat) (f : EF) : EF := fun env => match isL env i with
  | false => none
  | true => match f env with
    | none => none
    | some (d, e) => match Fx.mine e i with
      | some (.list ds) => if ds.length < sizeLine then some (.none, putM e i (.list (ds ++ [d]))) else none
      | _ => none
theorem isL_eq {env : Ev} {i : Nat} (h : isL env i = true) : ∃ ds, Fx.mine env i = some (.list ds) := by
  unfold isL at h
  split at h
  · rename_i ds e; exact ⟨ds, e⟩
  · cases h
theorem fe_append (i : Nat) {x : Str} {px apos cpos : Pos} {a : Expr} {f : EF} (ha : FE T X a f) (hN : X.N[i]? = some x := by rfl) (hv : Vis X.env.scope x := by first | exact Or.inl rfl | exact Or.inr (Or.inl rfl) | exact Or.inr (Or.inr rfl))
    (hd : (x == ("__debug__" : Str)) = false := by decide) (hcd : (x == ("__classdict__" : Str)) = false := by decide) (hbase : attributeBase (.Name x px) "append" X.env (eval (.Name x px) X.env) = eval (.Name x px) X.env := by rfl)
    (hfew : ((backTo cpos (starEach [a] X.env)).all (fun x => !x.1) && (backToKw cpos (keywordEach [] X.env)).all (fun x => x.1.isSome) && decide ([a].length + ([] : List Keyword).length + (if ([] : List Keyword).isEmpty then 0 else 1) < 30)) = true := by rfl)
    (hline : (apos.endLine == cpos.line) = true := by rfl) (hs : starEach [a] X.env = (false, eval a X.env) :: starEach [] X.env := by rfl) (hplain : (backTo cpos (starEach [] X.env)).any (·.1) = false := by rfl) :
    FE T X (.Call (.Attribute (.Name x px) "append" apos) [a] [] cpos) (append i f) :=
  (pe_bm PySem.F.plainAttrs_list PySem.F.slot_list_append PySem.F.type_list_append mt_append (pe_var hN hv hd hcd) (pa_cons ha pa_nil hs) hbase hfew hline hs hplain).weak fun σ H Q ⟨gh, F, env, d, env', R, e, q⟩ => by
    unfold append at e
    split at e
    · cases e
    · rename_i hl
      obtain ⟨ds0, h0⟩ := isL_eq hl
      obtain ⟨p, ep, _, ho, _⟩ := R.mine h0
      obtain ⟨xs0, hx0, _⟩ := ho.isLst
      refine ⟨.ref p, ep, .inl ⟨rfl, xs0, .inl (.inl hx0)⟩, ?_⟩
      split at e
      · cases e
      · rename_i d1 e1 ef
        refine ⟨gh, F, env, _, _, R, ef, fun y H1 F1 R1 s1 r1 => ?_⟩
        split at e
        · rename_i ds h1
          split at e
          · rename_i hlen
            cases e
            obtain ⟨p', ep', hF1, ho1, upd1⟩ := R1.mine h1
            rw [ep] at ep'; cases ep'
            obtain ⟨xs, hx, rr⟩ := ho1.isLst
            refine ⟨p, xs, y, rfl, rfl, hx, by rw [rr.len]; exact hlen, ?_⟩
            exact q _ _ F1 (upd1 _ _ (.lst upd_same (rr.append (.one r1)))) s1 .non
          · cases e
        · cases e
def pop0 (i : Nat) : EF := fun env => match Fx.mine env i with
  | some (.list ds) => match ds[ds.length - 1]? with
    | some d => some (d, putM env i (.list ds.dropLast))
    | none => none
  | _ => none
theorem Reps.dropLast {K : PySem.W.Frag} {F : Hp} {xs : List V} {ds : List PV} (r : Reps K F xs ds) : Reps K F xs.dropLast ds.dropLast := by
  rw [List.dropLast_eq_take, List.dropLast_eq_take, r.len]
  exact r.take _
theorem fe_pop0 (i : Nat) {x : Str} {px apos cpos : Pos} (hN : X.N[i]? = some x := by rfl) (hv : Vis X.env.scope x := by first | exact Or.inl rfl | exact Or.inr (Or.inl rfl) | exact Or.inr (Or.inr rfl))
    (hd : (x == ("__debug__" : Str)) = false := by decide) (hcd : (x == ("__classdict__" : Str)) = false := by decide) (hbase : attributeBase (.Name x px) "pop" X.env (eval (.Name x px) X.env) = eval (.Name x px) X.env := by rfl)
    (hline : (apos.endLine == cpos.line) = true := by rfl) :
    FE T X (.Call (.Attribute (.Name x px) "pop" apos) [] [] cpos) (pop0 i) :=
  (pe_bm0 PySem.F.plainAttrs_list PySem.F.slot_list_pop PySem.F.type_list_pop mt_pop (pe_var hN hv hd hcd) hbase hline).weak fun σ H Q ⟨gh, F, env, d, env', R, e, q⟩ => by
    unfold pop0 at e
    split at e
    · rename_i ds h0
      split at e
      · rename_i d1 hd1
        cases e
        obtain ⟨p, ep, hF, ho, up⟩ := R.mine h0
        obtain ⟨xs, hx, rr⟩ := ho.isLst
        obtain ⟨v, hv1, rv⟩ := rr.get hd1
        refine ⟨.ref p, ep, .inl ⟨rfl, xs, .inl (.inl hx)⟩, p, xs, v, rfl, rfl, hx, by rw [rr.len]; exact hv1, ?_⟩
        exact q _ _ F (up _ _ (.lst upd_same rr.dropLast)) (Same.refl _) rv
      · cases e
    · cases e
def popAt (i : Nat) (f : EF) : EF := fun env => match isL env i with
  | false => none
  | true => match f env with
    | some (.int k, e) => match Fx.mine e i with
      | some (.list ds) => if -(2 ^ 63) ≤ k ∧ k < 2 ^ 63 then match seqIndex? k ds.length with
        | none => none
        | some j => match ds[j]? with
          | none => none
          | some d => some (d, putM e i (.list (ds.eraseIdx j)))
        else none
      | _ => none
    | _ => none
theorem Reps.eraseIdx {K : PySem.W.Frag} {F : Hp} : ∀ {xs : List V} {ds : List PV} (j : Nat), Reps K F xs ds → Reps K F (xs.eraseIdx j) (ds.eraseIdx j)
  | _, _, _, .nil => .nil
  | _, _, 0, .cons _ t => t
  | _, _, j + 1, .cons r t => .cons r (Reps.eraseIdx j t)
theorem fe_popAt (i : Nat) {x : Str} {px apos cpos : Pos} {a : Expr} {f : EF} (ha : FE T X a f) (hN : X.N[i]? = some x := by rfl) (hv : Vis X.env.scope x := by first | exact Or.inl rfl | exact Or.inr (Or.inl rfl) | exact Or.inr (Or.inr rfl))
    (hd : (x == ("__debug__" : Str)) = false := by decide) (hcd : (x == ("__classdict__" : Str)) = false := by decide) (hbase : attributeBase (.Name x px) "pop" X.env (eval (.Name x px) X.env) = eval (.Name x px) X.env := by rfl)
    (hfew : ((backTo cpos (starEach [a] X.env)).all (fun x => !x.1) && (backToKw cpos (keywordEach [] X.env)).all (fun x => x.1.isSome) && decide ([a].length + ([] : List Keyword).length + (if ([] : List Keyword).isEmpty then 0 else 1) < 30)) = true := by rfl)
    (hline : (apos.endLine == cpos.line) = true := by rfl) (hs : starEach [a] X.env = (false, eval a X.env) :: starEach [] X.env := by rfl) (hplain : (backTo cpos (starEach [] X.env)).any (·.1) = false := by rfl) :
    FE T X (.Call (.Attribute (.Name x px) "pop" apos) [a] [] cpos) (popAt i f) :=
  (pe_bm PySem.F.plainAttrs_list PySem.F.slot_list_pop PySem.F.type_list_pop mt_popAt (pe_var hN hv hd hcd) (pa_cons ha pa_nil hs) hbase hfew hline hs hplain).weak fun σ H Q ⟨gh, F, env, d, env', R, e, q⟩ => by
    unfold popAt at e
    split at e
    · cases e
    · rename_i hl
      obtain ⟨ds0, h0⟩ := isL_eq hl
      obtain ⟨p, ep, _, ho, _⟩ := R.mine h0
      obtain ⟨xs0, hx0, _⟩ := ho.isLst
      refine ⟨.ref p, ep, .inl ⟨rfl, xs0, .inl (.inl hx0)⟩, ?_⟩
      split at e
      · rename_i k e1 ef
        refine ⟨gh, F, env, _, _, R, ef, fun y H1 F1 R1 s1 r1 => ?_⟩
        split at e
        · rename_i ds h1
          split at e
          · rename_i hk
            split at e
            · cases e
            · rename_i j hj
              split at e
              · cases e
              · rename_i d1 hd1
                cases e
                obtain ⟨p', ep', hF1, ho1, upd1⟩ := R1.mine h1
                rw [ep] at ep'; cases ep'
                obtain ⟨xs, hx, rr⟩ := ho1.isLst
                obtain ⟨v, hv1, rv⟩ := rr.get hd1
                refine ⟨p, xs, k, j, v, rfl, by rw [r1.int_iff], hx, hk.1, hk.2, by rw [rr.len]; exact hj, hv1, ?_⟩
                exact q _ _ F1 (upd1 _ _ (.lst upd_same (rr.eraseIdx j))) s1 rv
          · cases e
        · cases e
      · cases e
/-- x.extend(e), e a new list of its own -/
def extend (i : Nat) (f : EF) : EF := fun env => match isL env i with
  | false => none
  | true => match f env with
    | some (.list zs, e) => match Fx.mine e i with
      | some (.list ds) => if ds.length + zs.length ≤ sizeLine then some (.none, putM e i (.list (ds ++ zs))) else none
      | _ => none
    | _ => none
theorem fe_extend (i : Nat) {x : Str} {px apos cpos : Pos} {a : Expr} {f : EF} (ha : FE T X a f) (hN : X.N[i]? = some x := by rfl) (hv : Vis X.env.scope x := by first | exact Or.inl rfl | exact Or.inr (Or.inl rfl) | exact Or.inr (Or.inr rfl))
    (hd : (x == ("__debug__" : Str)) = false := by decide) (hcd : (x == ("__classdict__" : Str)) = false := by decide) (hbase : attributeBase (.Name x px) "extend" X.env (eval (.Name x px) X.env) = eval (.Name x px) X.env := by rfl)
    (hfew : ((backTo cpos (starEach [a] X.env)).all (fun x => !x.1) && (backToKw cpos (keywordEach [] X.env)).all (fun x => x.1.isSome) && decide ([a].length + ([] : List Keyword).length + (if ([] : List Keyword).isEmpty then 0 else 1) < 30)) = true := by rfl)
    (hline : (apos.endLine == cpos.line) = true := by rfl) (hs : starEach [a] X.env = (false, eval a X.env) :: starEach [] X.env := by rfl) (hplain : (backTo cpos (starEach [] X.env)).any (·.1) = false := by rfl) :
    FE T X (.Call (.Attribute (.Name x px) "extend" apos) [a] [] cpos) (extend i f) :=
  (pe_bm PySem.F.plainAttrs_list PySem.F.slot_list_extend PySem.F.type_list_extend mt_extend (pe_var hN hv hd hcd) (pa_cons ha pa_nil hs) hbase hfew hline hs hplain).weak fun σ H Q ⟨gh, F, env, d, env', R, e, q⟩ => by
    unfold extend at e
    split at e
    · cases e
    · rename_i hl
      obtain ⟨ds0, h0⟩ := isL_eq hl
      obtain ⟨p, ep, _, ho, _⟩ := R.mine h0
      obtain ⟨xs0, hx0, _⟩ := ho.isLst
      refine ⟨.ref p, ep, .inl ⟨rfl, xs0, .inl (.inl hx0)⟩, ?_⟩
      split at e
      · rename_i zs e1 ef
        refine ⟨gh, F, env, _, _, R, ef, fun y H1 F1 R1 s1 r1 => ?_⟩
        split at e
        · rename_i ds h1
          split at e
          · rename_i hlen
            cases e
            obtain ⟨p', ep', hF1, ho1, upd1⟩ := R1.mine h1
            rw [ep] at ep'; cases ep'
            obtain ⟨xs, hx, rr⟩ := ho1.isLst
            cases r1 with
            | lst hb rb =>
              refine ⟨p, _, xs, _, rfl, rfl, hx, R1.sub _ _ hb, by rw [rr.len, rb.len]; exact hlen, ?_⟩
              exact q _ _ F1 (upd1 _ _ (.lst upd_same (rr.append rb))) s1 .non
          · cases e
        · cases e
      · cases e
def setIx (i : Nat) (fk fe : EF) : SF := fun env => match fe env with
  | none => none
  | some (d, e) => match isL e i with
    | false => none
    | true => match fk e with
      | some (.int k, e2) => match Fx.mine e2 i with
        | some (.list ds) => match ixN ds.length k with
          | none => none
          | some j => some (.nx (putM e2 i (.list (ds.set j d))))
        | _ => none
      | _ => none
theorem fs_setIx (i : Nat) {x : Str} {px tpos pos : Pos} {b a : Expr} {fk fe : EF} (hb : FE T X b fk) (ha : FE T X a fe) (hN : X.N[i]? = some x := by rfl) (hv : Vis X.env.scope x := by first | exact Or.inl rfl | exact Or.inr (Or.inl rfl) | exact Or.inr (Or.inr rfl))
    (hd : (x == ("__debug__" : Str)) = false := by decide) (hcd : (x == ("__classdict__" : Str)) = false := by decide)
    (has : ∀ v, assign (.Subscript (.Name x px) b tpos) X.env v = (do
      let ov ← holding [v] (eval (.Name x px) X.env)
      let iv ← holding [v, ov] (eval b X.env)
      standAt tpos
      holding [v, ov, iv] (setItem ov iv v)
      release [v, ov, iv] []) := by intro _; rfl) (hs : swapsWithSole [.Subscript (.Name x px) b tpos] a pos.line X.env = pure false := by rfl) (hw : swappedStores [.Subscript (.Name x px) b tpos] a X.env = pure none := by rfl)
    (h1 : (assignEach [.Subscript (.Name x px) b tpos] X.env).map (·.2) = [assign (.Subscript (.Name x px) b tpos) X.env] := by rfl) : FS T X (.Assign [.Subscript (.Name x px) b tpos] a pos) (setIx i fk fe) :=
  (ps_asg ha (pg_sub (pe_var hN hv hd hcd) hb set_list has) hs hw h1).weak fun D σ H ⟨gh, F, env, out, R, e, q⟩ => by
    unfold setIx at e
    split at e
    · cases e
    · rename_i d e1 ef
      refine ⟨gh, F, env, _, _, R, ef, fun v H1 F1 R1 s1 r1 => ?_⟩
      split at e
      · cases e
      · rename_i hl
        obtain ⟨ds0, h0⟩ := isL_eq hl
        obtain ⟨p, ep, _, ho, _⟩ := R1.mine h0
        refine ⟨.ref p, ep, ?_⟩
        split at e
        · rename_i k e2 ek
          refine ⟨gh, F1, _, _, _, R1, ek, fun y H2 F2 R2 s2 r2 => ?_⟩
          split at e
          · rename_i ds h2
            split at e
            · cases e
            · rename_i j hj
              cases e
              obtain ⟨p', ep', hF1, ho1, upd1⟩ := R2.mine h2
              rw [ep] at ep'; cases ep'
              obtain ⟨xs, hx, rr⟩ := ho1.isLst
              refine ⟨p, xs, k, j, rfl, r2.int_iff, hx, by rw [rr.len]; exact hj, ?_⟩
              exact q _ _ F2 (upd1 _ _ (.lst upd_same (Reps.set (r1.mono s2) j rr))) (s1.trans s2)
          · cases e
        · cases e
/-- xs[i] as a value, for op= -/
theorem get_list : PGet X (rIxL X.K) := by
  intro pins s σ H x y v u Q I rx ry h
  obtain ⟨p, xs, i, z, rfl, rfl, hq, he, q⟩ := h
  cases rx
  obtain ⟨t, rfl⟩ := ry
  obtain ⟨its, r, pl, hz⟩ := I.list hq
  obtain ⟨j, h1, h2, h3, h4, h5⟩ := atI_get he
  obtain ⟨w, ew, rw'⟩ := r.get h2
  have hl := r.length
  have hn := line63
  have fin : EP X pins σ Q w s := ⟨z, H, I, rw', q⟩
  by_cases h0 : 0 ≤ i
  · have hj : i.toNat = j := by
      rw [seqIndex_of h0 h5] at h1
      exact Option.some.inj h1
    exact wpAny_getItem_list (x := w) pl.isList h0 (by omega) (by rw [hj]; simpa using ew) fin
  · have hj : (i + (its.toArray.size : Int)).toNat = j := by
      rw [seqIndex_neg (by omega) h4] at h1
      rw [List.size_toArray, ← hl]
      exact Option.some.inj h1
    exact wpAny_getItem_list_neg (x := w) pl.isList (by omega) (by rw [List.size_toArray] <;> omega) (by omega) (by rw [hj]; simpa using ew) fin
def augIx (i : Nat) (g : PV → PV → Option PV) (fk fe : EF) : SF := fun env => match isL env i with
  | false => none
  | true => match fk env with
    | some (.int k, e1) => match Fx.mine e1 i with
      | some (.list ds) => match atI ds k with
        | none => none
        | some a => match fe e1 with
          | none => none
          | some (b, e2) => match g a b with
            | none => none
            | some d => match Fx.mine e2 i with
              | some (.list es) => match ixN es.length k with
                | none => none
                | some j => some (.nx (putM e2 i (.list (es.set j d))))
              | _ => none
      | _ => none
    | _ => none
theorem fs_augIx (i : Nat) {x : Str} {px tpos pos : Pos} {b a : Expr} {op : Operator} {r : R2} {g : PV → PV → Option PV} {fk fe : EF} (ho : OpR X (inplaceOp op) r) (hg : OpF T X.K r g) (hb : FE T X b fk) (ha : FE T X a fe) (hN : X.N[i]? = some x := by rfl) (hv : Vis X.env.scope x := by first | exact Or.inl rfl | exact Or.inr (Or.inl rfl) | exact Or.inr (Or.inr rfl))
    (hd : (x == ("__debug__" : Str)) = false := by decide) (hcd : (x == ("__classdict__" : Str)) = false := by decide)
    (has : ∀ ov iv new, augStore b ov iv new = (do holding [new, ov, iv] (setItem ov iv new); release [new, ov, iv] []; pure .next) := by intros; rfl) : FS T X (.AugAssign (.Subscript (.Name x px) b tpos) op a pos) (augIx i g fk fe) :=
  (ps_augS (pe_var hN hv hd hcd) hb get_list ha (show PIp X op r from ho) set_list has).weak fun D σ H ⟨gh, F, env, out, R, e, q⟩ => by
    unfold augIx at e
    split at e
    · cases e
    · rename_i hl
      obtain ⟨ds0, h0⟩ := isL_eq hl
      obtain ⟨p, ep, _, _, _⟩ := R.mine h0
      refine ⟨.ref p, ep, ?_⟩
      split at e
      · rename_i k e1 ek
        refine ⟨gh, F, env, _, _, R, ek, fun y H1 F1 R1 s1 r1 => ?_⟩
        split at e
        · rename_i ds h1
          split at e
          · cases e
          · rename_i a0 ha0
            obtain ⟨p', ep', _, ho1, _⟩ := R1.mine h1
            rw [ep] at ep'; cases ep'
            obtain ⟨xs, hx, rr⟩ := ho1.isLst
            obtain ⟨v, hv1, rv⟩ := rr.atI ha0
            refine ⟨p, xs, k, v, rfl, r1.int_iff, .inl (.inl hx), hv1, ?_⟩
            split at e
            · cases e
            · rename_i b0 e2 eb
              refine ⟨gh, F1, _, _, _, R1, eb, fun w H2 F2 R2 s2 r2 => ?_⟩
              split at e
              · cases e
              · rename_i d eg
                split at e
                · rename_i es h2
                  split at e
                  · cases e
                  · rename_i j hj
                    cases e
                    refine hg gh F2 H2 σ _ v w a0 b0 d _ R2 (rv.mono s2) r2 eg fun z H3 F3 R3 s3 r3 => ?_
                    obtain ⟨p', ep', _, ho2, upd2⟩ := R3.mine h2
                    rw [ep] at ep'; cases ep'
                    obtain ⟨ys, hy, rr2⟩ := ho2.isLst
                    refine ⟨p, ys, k, j, rfl, r1.int_iff, hy, by rw [rr2.len]; exact hj, ?_⟩
                    exact q _ _ F3 (upd2 _ _ (.lst upd_same (Reps.set r3 j rr2))) (s1.trans (s2.trans s3))
                · cases e
        · cases e
      · cases e

/-- the items of a list, a tuple, the signs of a text -/
def items : PV → Option (List PV)
  | .list xs => some xs
  | .tuple xs => some xs
  | .str z => some (z.cps.toList.map fun c => .str ⟨#[c]⟩)
  | _ => none
def wSeq (f : EF) : AF := fun env => match f env with
  | none => none
  | some (d, e) => match items d with
    | none => none
    | some ds => some (ds, e)
def iSeq (K : PySem.W.Frag) (te : TE) : TI := fun σ H R => te σ H fun x H1 => (∃ a xs, x = .ref a ∧ SqL K H1 a xs ∧ R (Itl K a) H1) ∨ (∃ a xs, x = .ref a ∧ SqT K H1 a xs ∧ R (Itt K a) H1) ∨ ∃ z, x = .str z ∧ R (Its z) H1
theorem pi_seq {tg l : Expr} {te : TE} (hl : PE X l te) : PI X tg l (iSeq X.K te) := by
  refine ⟨fun pins s σ H R I h => ?_⟩
  refine thn (hl.run pins s σ H _ I h) fun v s1 ⟨x, H1, I1, r1, q1⟩ => ?_
  rcases q1 with ⟨a, xs, e, hq, q⟩ | ⟨a, xs, e, hq, q⟩ | ⟨z, e, q⟩
  · subst e
    cases r1
    obtain ⟨its, rv, p, hz⟩ := I1.list hq
    refine wpAny_pyIter_list p.isList ?_
    refine ⟨s1.heap.objs.size, [s1.heap.objs.size], _, _, H1, rfl, I1.kept (t' := s1.toks) fun b o e => Heap.get?_push_of_some _ e, turn_list a _, ⟨_, Heap.get?_push_size _ rfl, rfl, rfl⟩, fun b hb => ?_, q⟩
    have e : b = s1.heap.objs.size := by simpa using hb
    subst e
    exact I1.fpOk (Nat.le_refl _) (I1.hok.fresh (Nat.le_refl _))
  · subst e
    cases r1
    obtain ⟨its, rv, p, hz⟩ := I1.tuple hq
    refine wpAny_pyIter_tuple (show s1.heap.IsTuple a its.toArray from p) ?_
    refine ⟨s1.heap.objs.size, [s1.heap.objs.size], _, _, H1, rfl, I1.kept (t' := s1.toks) fun b o e => Heap.get?_push_of_some _ e, turn_tuple a _, ⟨_, Heap.get?_push_size _ rfl, rfl, rfl⟩, fun b hb => ?_, q⟩
    have e : b = s1.heap.objs.size := by simpa using hb
    subst e
    exact I1.fpOk (Nat.le_refl _) (I1.hok.fresh (Nat.le_refl _))
  · subst e
    obtain ⟨t, rfl⟩ := r1
    cases ha : z.cps.all (· < 128)
    · exact wpAny_pyIter_wide ha (pi_one (tk := s1.toks) I1 _ (turn_str _ z t "str_iterator" (.inr rfl)) ⟨_, Heap.get?_push_size _ rfl, rfl, rfl⟩ q)
    · exact wpAny_pyIter_ascii ha (pi_one (tk := s1.toks) I1 _ (turn_str _ z t "str_ascii_iterator" (.inl rfl)) ⟨_, Heap.get?_push_size _ rfl, rfl, rfl⟩ q)
theorem yields_lst {K : PySem.W.Frag} {F : Hp} {a : Addr} {xs : List V} {ds : List PV} (h : F a = some (.lst xs)) (r : Reps K F xs ds) : Yields T K (Itl K a) ds F := fun g i F' H σ env R s => by
  have hH : SqL K H a xs := .inl (.inl (R.sub _ _ (s _ _ h)))
  refine ⟨fun d hd => ?_, fun hn => ?_⟩
  · obtain ⟨v, hv, rv⟩ := r.get hd
    refine ⟨⟨xs, v, hH, hv⟩, fun x H' hy => ?_⟩
    obtain ⟨rfl, hy⟩ := hy
    have := hy xs hH
    rw [hv] at this; cases this
    exact ⟨F', R, Same.refl _, rv.mono s⟩
  · exact ⟨xs, hH, by rw [r.len]; exact List.getElem?_eq_none_iff.mp hn⟩
theorem SqT.uniq {K : PySem.W.Frag} {F : Hp} {a : Addr} {xs ys : List V} (h : SqT K F a xs) (h' : SqT K F a ys) : (F a = none → True) := fun _ => trivial
theorem yields_tup {K : PySem.W.Frag} {F : Hp} {a : Addr} {xs : List V} {ds : List PV} (h : SqT K F a xs) (r : Reps K F xs ds) : Yields T K (Itt K a) ds F := fun g i F' H σ env R s => by
  have hH : SqT K H a xs := SqT.mono R.sub (SqT.mono s h)
  refine ⟨fun d hd => ?_, fun hn => ?_⟩
  · obtain ⟨v, hv, rv⟩ := r.get hd
    refine ⟨⟨xs, v, hH, hv⟩, fun x H' hy => ?_⟩
    obtain ⟨rfl, hy⟩ := hy
    have := hy xs hH
    rw [hv] at this; cases this
    exact ⟨F', R, Same.refl _, rv.mono s⟩
  · exact ⟨xs, hH, by rw [r.len]; exact List.getElem?_eq_none_iff.mp hn⟩
theorem yields_str {K : PySem.W.Frag} {F : Hp} {z : Str} : Yields T K (Its z) (z.cps.toList.map fun c => .str ⟨#[c]⟩) F := fun g i F' H σ env R s => by
  refine ⟨fun d hd => ?_, fun hn => ?_⟩
  · rw [List.getElem?_map] at hd
    cases hc : z.cps.toList[i]? with
    | none => rw [hc] at hd; cases hd
    | some c =>
      rw [hc] at hd
      cases hd
      have hi : i < z.cps.size := by
        have := (List.getElem?_eq_some_iff.mp hc).1
        simpa using this
      refine ⟨hi, fun x H' hy => ?_⟩
      obtain ⟨rfl, c', hc', rfl⟩ := hy
      rw [Array.getElem?_toList] at hc
      rw [hc] at hc'; cases hc'
      exact ⟨F', R, Same.refl _, .str _⟩
  · rw [List.getElem?_map] at hn
    cases hc : z.cps.toList[i]? with
    | none =>
      have := List.getElem?_eq_none_iff.mp hc
      show z.cps.size ≤ i
      simpa using this
    | some c => rw [hc] at hn; cases hn
theorem fi_seq {tg e : Expr} {f : EF} (h : FE T X e f) : FI T X tg e (wSeq f) :=
  (pi_seq h).weak fun σ H Q ⟨gh, F, env, ds, env', R, e, q⟩ => by
    unfold wSeq at e
    split at e
    · cases e
    · rename_i d e1 ef
      split at e
      · cases e
      · rename_i ds' ei
        cases e
        refine ⟨gh, F, env, _, _, R, ef, fun v H1 F1 R1 s1 r1 => ?_⟩
        unfold items at ei
        split at ei
        · cases ei
          cases r1 with
          | lst h rr => exact .inl ⟨_, _, rfl, .inl (.inl (R1.sub _ _ h)), q _ _ _ R1 s1 (yields_lst h rr)⟩
        · cases ei
          cases r1 with
          | tup h rr => exact .inr (.inl ⟨_, _, rfl, SqT.mono R1.sub (sqT h), q _ _ _ R1 s1 (yields_tup (sqT h) rr)⟩)
        · cases ei
          have := r1.str_iff
          subst this
          exact .inr (.inr ⟨_, rfl, q _ _ _ R1 s1 yields_str⟩)
        · cases ei
/-- range -/
def rngL (lo : Int) : Nat → List PV
  | 0 => []
  | n + 1 => .int lo :: rngL (lo + 1) n
theorem rngL_get : ∀ (n : Nat) (lo : Int) (i : Nat), (rngL lo n)[i]? = if i < n then some (.int (lo + i)) else none
  | 0, lo, i => by simp [rngL]
  | n + 1, lo, 0 => by simp [rngL]
  | n + 1, lo, i + 1 => by
    show (rngL (lo + 1) n)[i]? = _
    rw [rngL_get n (lo + 1) i]
    by_cases h : i < n
    · rw [if_pos h, if_pos (by omega)]
      congr 2
      omega
    · rw [if_neg h, if_neg (by omega)]
theorem yields_rng {K : PySem.W.Frag} {F : Hp} {lo : Int} {n : Nat} : Yields T K (Itr lo n) (rngL lo n) F := fun g i F' H σ env R s => by
  rw [rngL_get]
  by_cases h : i < n
  · rw [if_pos h]
    refine ⟨fun d hd => ?_, fun hn => by cases hn⟩
    cases hd
    refine ⟨h, fun x H' hy => ?_⟩
    obtain ⟨rfl, rfl⟩ := hy
    exact ⟨F', R, Same.refl _, .int _⟩
  · rw [if_neg h]
    exact ⟨fun d hd => (by cases hd), fun _ => (by show n ≤ i; omega)⟩
def wRng1 (f : EF) : AF := fun env => match f env with
  | some (.int j, e) => if -(2 ^ 62) ≤ j ∧ j < 2 ^ 62 then some (rngL 0 j.toNat, e) else none
  | _ => none
def wRng2 (f h : EF) : AF := fun env => match f env with
  | some (.int i, e) => match h e with
    | some (.int j, e2) => if -(2 ^ 62) ≤ i ∧ i < 2 ^ 62 ∧ -(2 ^ 62) ≤ j ∧ j < 2 ^ 62 then some (rngL i (j - i).toNat, e2) else none
    | _ => none
  | _ => none
theorem fi_rng1 {tg a : Expr} {p pos : Pos} {f : EF} (hg : Gl X "range") (hm : X.mg "range" = none) (ha : FE T X a f) (hs : starEach [a] X.env = [(false, eval a X.env)] := by rfl) : FI T X tg (.Call (.Name "range" p) [a] [] pos) (wRng1 f) :=
  (pi_range1 hg hm (pa_cons ha pa_nil hs) hs).weak fun σ H Q ⟨gh, F, env, ds, env', R, e, q⟩ => by
    unfold wRng1 at e
    split at e
    · rename_i j e1 ef
      split at e
      · rename_i hj
        cases e
        refine ⟨gh, F, env, _, _, R, ef, fun v H1 F1 R1 s1 r1 => ⟨j, by rw [r1.int_iff], hj.1, hj.2, q _ _ _ R1 s1 yields_rng⟩⟩
      · cases e
    · cases e
theorem fi_rng2 {tg a b : Expr} {p pos : Pos} {f h : EF} (hg : Gl X "range") (hm : X.mg "range" = none) (ha : FE T X a f) (hb : FE T X b h) (hs : starEach [a, b] X.env = [(false, eval a X.env), (false, eval b X.env)] := by rfl) (hs2 : starEach [b] X.env = [(false, eval b X.env)] := by rfl) : FI T X tg (.Call (.Name "range" p) [a, b] [] pos) (wRng2 f h) :=
  (pi_range2 hg hm (pa_cons ha (pa_cons hb pa_nil hs2) (by rw [hs, hs2])) hs hs2).weak fun σ H Q ⟨gh, F, env, ds, env', R, e, q⟩ => by
    unfold wRng2 at e
    split at e
    · rename_i i e1 ef
      split at e
      · rename_i j e2 eh
        split at e
        · rename_i hj
          cases e
          refine ⟨gh, F, env, _, _, R, ef, fun v H1 F1 R1 s1 r1 => ⟨gh, F1, _, _, _, R1, eh, fun w H2 F2 R2 s2 r2 => ⟨i, j, by rw [r1.int_iff, r2.int_iff], hj, q _ _ _ R2 (s1.trans s2) yields_rng⟩⟩⟩
        · cases e
      · cases e
    · cases e
/-- reversed(list) -/
def wRev (f : EF) : AF := fun env => match f env with
  | some (.list xs, e) => some (xs.reverse, e)
  | _ => none
theorem yields_rev {K : PySem.W.Frag} {F : Hp} {a : Addr} {xs : List V} {ds : List PV} (h : F a = some (.lst xs)) (r : Reps K F xs ds) : Yields T K (Itv K a xs.length) ds.reverse F := fun g i F' H σ env R s => by
  have hH : SqL K H a xs := .inl (.inl (R.sub _ _ (s _ _ h)))
  have hl := r.len
  by_cases hi : i < ds.length
  · have e1 : ds.reverse[i]? = ds[ds.length - 1 - i]? := List.getElem?_reverse hi
    rw [e1]
    refine ⟨fun d hd => ?_, fun hn => ?_⟩
    · obtain ⟨v, hv, rv⟩ := r.get hd
      rw [← hl] at hv
      refine ⟨⟨by omega, xs, v, hH, hv⟩, fun x H' hy => ?_⟩
      obtain ⟨rfl, hy⟩ := hy
      have := hy xs hH
      rw [hv] at this; cases this
      exact ⟨F', R, Same.refl _, rv.mono s⟩
    · have := List.getElem?_eq_none_iff.mp hn
      omega
  · have e1 : ds.reverse[i]? = none := List.getElem?_eq_none_iff.mpr (by rw [List.length_reverse]; omega)
    rw [e1]
    exact ⟨fun d hd => (by cases hd), fun _ => (by show xs.length ≤ i; omega)⟩
theorem fi_rev {tg a : Expr} {p pos : Pos} {f : EF} (hg : Gl X "reversed") (hm : X.mg "reversed" = none) (ha : FE T X a f) (hs : starEach [a] X.env = [(false, eval a X.env)] := by rfl) : FI T X tg (.Call (.Name "reversed" p) [a] [] pos) (wRev f) :=
  (pi_reversed hg hm (pa_cons ha pa_nil hs) hs).weak fun σ H Q ⟨gh, F, env, ds, env', R, e, q⟩ => by
    unfold wRev at e
    split at e
    · rename_i xs e1 ef
      cases e
      refine ⟨gh, F, env, _, _, R, ef, fun v H1 F1 R1 s1 r1 => ?_⟩
      cases r1 with
      | lst h rr => exact ⟨_, _, rfl, .inl (.inl (R1.sub _ _ h)), q _ _ _ R1 s1 (yields_rev h rr)⟩
    · cases e
/-- enumerate(list) -/
def enumL (i : Int) : List PV → List PV
  | [] => []
  | d :: r => .tuple [.int i, d] :: enumL (i + 1) r
theorem enumL_get : ∀ (ds : List PV) (k : Int) (i : Nat), (enumL k ds)[i]? = ds[i]?.map fun d => .tuple [.int (k + i), d]
  | [], k, i => by simp [enumL]
  | d :: r, k, 0 => by simp [enumL]
  | d :: r, k, i + 1 => by
    show (enumL (k + 1) r)[i]? = _
    rw [enumL_get r (k + 1) i]
    simp only [List.getElem?_cons_succ]
    cases r[i]? with
    | none => rfl
    | some x =>
      simp only [Option.map_some, Option.some.injEq, PyData.tuple.injEq, List.cons.injEq, PyData.int.injEq, and_true]
      omega
def wEnum (f : EF) : AF := fun env => match f env with
  | some (.list xs, e) => some (enumL 0 xs, e)
  | _ => none
theorem yields_enum {K : PySem.W.Frag} {F : Hp} {a : Addr} {xs : List V} {ds : List PV} (h : F a = some (.lst xs)) (r : Reps K F xs ds) : Yields T K (Ite K a) (enumL 0 ds) F := fun g i F' H σ env R s => by
  have hH : SqL K H a xs := .inl (.inl (R.sub _ _ (s _ _ h)))
  rw [enumL_get]
  refine ⟨fun d hd => ?_, fun hn => ?_⟩
  · cases hx : ds[i]? with
    | none => rw [hx] at hd; cases hd
    | some d0 =>
      rw [hx] at hd
      cases hd
      obtain ⟨v, hv, rv⟩ := r.get hx
      refine ⟨⟨xs, v, hH, hv⟩, fun x H' hy => ?_⟩
      obtain ⟨t, y, rfl, hT, rfl, hy⟩ := hy
      have := hy xs hH
      rw [hv] at this; cases this
      obtain ⟨R2, s2⟩ := R.laidF (o := .tup [.int (i : Nat), v]) hT
      refine ⟨_, R2, s2, .tup upd_same (.cons ?_ (.cons (rv.mono (s.trans s2)) .nil))⟩
      rw [Int.zero_add]
      exact .int _
  · cases hx : ds[i]? with
    | none => exact ⟨xs, hH, by rw [r.len]; exact List.getElem?_eq_none_iff.mp hx⟩
    | some d0 => rw [hx] at hn; cases hn
theorem fi_enum {a : Expr} {elts : List Expr} {kk : Nat} {tpos p pos : Pos} {f : EF} (hg : Gl X "enumerate") (hm : X.mg "enumerate" = none) (ha : FE T X a f) (hs : starEach [a] X.env = [(false, eval a X.env)] := by rfl) : FI T X (.Tuple elts kk tpos) (.Call (.Name "enumerate" p) [a] [] pos) (wEnum f) :=
  (pi_enum hg hm (pa_cons ha pa_nil hs) hs).weak fun σ H Q ⟨gh, F, env, ds, env', R, e, q⟩ => by
    unfold wEnum at e
    split at e
    · rename_i xs e1 ef
      cases e
      refine ⟨gh, F, env, _, _, R, ef, fun v H1 F1 R1 s1 r1 => ?_⟩
      cases r1 with
      | lst h rr => exact ⟨_, _, rfl, .inl (.inl (R1.sub _ _ h)), q _ _ _ R1 s1 (yields_enum h rr)⟩
    · cases e

def wipeE (env : Ev) : List Nat → Ev
  | [] => env
  | i :: r => (wipeE env r).set i .no
/-- the block's turns: what is made so far, the items left -/
def coF (vs : List Nat) (bi : BF) (t : TF) (f : EF) : List PV → List PV → Ev → Option (List PV × Ev)
  | [], acc, env => some (acc, env)
  | d :: ds, acc, env => match bi d env with
    | none => none
    | some e => match t e with
      | none => none
      | some (false, e2) => coF vs bi t f ds acc (wipeE e2 vs)
      | some (true, e2) => match f e2 with
        | none => none
        | some (r, e3) => if acc.length < sizeLine then coF vs bi t f ds (acc ++ [r]) (wipeE e3 vs) else none
def eLc (vs : List Nat) (w : AF) (bi : BF) (t : TF) (f : EF) : EF := fun env => match w env with
  | none => none
  | some (ds, e) => if vs.all (fun i => match e[i]? with | some (.io _) => false | _ => true) then match coF vs bi t f ds [] (wipeE e vs) with
      | none => none
      | some (acc, e2) => some (.list acc, wipeE e2 vs)
    else none
end
end Fx

namespace Fx
open PySem PySem.Spec L2
open PyProof.Rows hiding St

section
variable {T : List Addr} {K : PySem.W.Frag} {g : Gh} {F H : Hp} {σ : St} {env : Ev}
theorem wipeE_get : ∀ {vs : List Nat} {j : Nat}, (wipeE env vs)[j]? = if j ∈ vs ∧ j < env.length then some .no else env[j]?
  | [], j => by simp [wipeE]
  | v :: vs, j => by
    unfold wipeE
    have hlen : ∀ ws : List Nat, (wipeE env ws).length = env.length := fun ws => by
      induction ws with
      | nil => rfl
      | cons w ws ih => unfold wipeE; rw [List.length_set, ih]
    by_cases h : v = j
    · subst h
      by_cases hl : v < env.length
      · rw [List.getElem?_set_self (by rw [hlen]; exact hl), if_pos ⟨List.mem_cons_self, hl⟩]
      · rw [List.getElem?_eq_none (by rw [List.length_set, hlen]; omega), if_neg (fun z => hl z.2), List.getElem?_eq_none (by omega)]
    · rw [List.getElem?_set_ne h, wipeE_get]
      have : (j ∈ v :: vs) ↔ j ∈ vs := by
        rw [List.mem_cons]
        exact ⟨fun z => z.resolve_left (fun z => h z.symm), .inr⟩
      simp only [this]
theorem wipeE_len : ∀ ws : List Nat, (wipeE env ws).length = env.length := fun ws => by
  induction ws with
  | nil => rfl
  | cons w ws ih => unfold wipeE; rw [List.length_set, ih]
theorem wipeE_some {vs : List Nat} {j : Nat} {s : Sl} (h : (wipeE env vs)[j]? = some s) (n : s ≠ .no) : env[j]? = some s ∧ (j ∉ vs) := by
  rw [wipeE_get] at h
  split at h
  · cases h; exact absurd rfl n
  · rename_i hn
    refine ⟨h, fun hj => hn ⟨hj, ?_⟩⟩
    exact (List.getElem?_eq_some_iff.mp h).1
theorem wipeE_owns {vs : List Nat} {j : Nat} (h : owns (wipeE env vs) j) : owns env j ∧ j ∉ vs := by
  obtain ⟨d, h | h⟩ := h
  · obtain ⟨h1, h2⟩ := wipeE_some h (fun z => nomatch z)
    exact ⟨⟨d, .inl h1⟩, h2⟩
  · obtain ⟨h1, h2⟩ := wipeE_some h (fun z => nomatch z)
    exact ⟨⟨d, .inr h1⟩, h2⟩
theorem wipe_out {vs : List Nat} {j : Nat} (h : j ∉ vs) : (wipe σ vs)[j]? = σ[j]? := by
  rw [wipe_get, if_neg (fun z => h z.1)]
/-- the slots vs are forgotten: only what stands at the others matters -/
theorem Rel.swap {σ' : St} {vs : List Nat} (R : Rel T K g F H σ env) (nio : ∀ i ∈ vs, ∀ a, (i, a) ∉ g.io) (hl : σ'.length = σ.length) (hs : ∀ j, j ∉ vs → σ'[j]? = σ[j]?) : Rel T K g F H σ' (wipeE env vs) := by
  have own' : ∀ {j : Nat}, owns (wipeE env vs) j → owns env j ∧ σ'[j]? = σ[j]? := fun {j} h => ⟨(wipeE_owns h).1, hs j (wipeE_owns h).2⟩
  refine ⟨by rw [wipeE_len, hl]; exact R.len, R.sub, R.f0, R.new, R.keep, R.tab, R.nt, fun i d e => ?_, fun i d e => ?_, fun i d e => ?_, fun i a e => ?_, fun a o e => ?_, fun i j a q1 q2 e1 e2 => ?_⟩
  · obtain ⟨h1, h2⟩ := wipeE_some e (fun z => nomatch z)
    rw [hs i h2]
    exact R.va i d h1
  · obtain ⟨h1, h2⟩ := wipeE_some e (fun z => nomatch z)
    rw [hs i h2]
    exact R.ow i d h1
  · obtain ⟨h1, h2⟩ := wipeE_some e (fun z => nomatch z)
    rw [hs i h2]
    exact R.io i d h1
  · have hi : i ∉ vs := fun z => nio i z a e
    obtain ⟨h1, d, h2⟩ := R.iok i a e
    exact ⟨by rw [hs i hi]; exact h1, d, by rw [wipeE_get, if_neg (fun z => hi z.1)]; exact h2⟩
  · obtain ⟨t1, t2, t3, t4⟩ := R.tm a o e
    refine ⟨t1, t2, t3, fun i hi => ?_⟩
    rw [(own' hi).2]
    exact t4 i (own' hi).1
  · rw [(own' q1).2] at e1
    rw [(own' q2).2] at e2
    exact R.sep i j a (own' q1).1 (own' q2).1 e1 e2
theorem Rel.wipe {vs : List Nat} (R : Rel T K g F H σ env) (nio : ∀ i ∈ vs, ∀ a, (i, a) ∉ g.io) : Rel T K g F H (L2.wipe σ vs) (wipeE env vs) := R.swap nio (wipe_length _ _) fun j hj => wipe_out hj
/-- an object in the making is pinned -/
def Gh.pin (g : Gh) (a : Addr) (o : HO) : Gh := { g with tmp := (a, o) :: g.tmp }
theorem Rel.pin (R : Rel T K g F H σ env) {a : Addr} {o : HO} (h : H a = some o) (hF : F a = none) (n : ∀ ps, o ≠ .tbl ps) (al : Alone g env σ a) : Rel T K (g.pin a o) F H σ env :=
  ⟨R.len, R.sub, R.f0, R.new, R.keep, R.tab, R.nt, R.va, R.ow, R.io, R.iok, fun b o' e => by
    rcases List.mem_cons.mp e with z | z
    · cases z; exact ⟨h, hF, n, al.1⟩
    · exact R.tm b o' z, R.sep⟩
theorem Rel.unpin {a : Addr} {o : HO} (R : Rel T K (g.pin a o) F H σ env) (no : ∀ o', (a, o') ∉ g.tmp) : Rel T K g F H σ env ∧ H a = some o ∧ F a = none ∧ Alone g env σ a := by
  obtain ⟨t1, t2, t3, t4⟩ := R.tm a o List.mem_cons_self
  exact ⟨⟨R.len, R.sub, R.f0, R.new, R.keep, R.tab, R.nt, R.va, R.ow, R.io, R.iok, fun b o' e => R.tm b o' (List.mem_cons_of_mem _ e), R.sep⟩, t1, t2, t4, no⟩
/-- the object in the making grows -/
theorem Rel.grow (R : Rel T K g F H σ env) {a : Addr} {o o' : HO} (h0 : g.H0 a = none) (h : H a = some o) (n : ∀ ps, o ≠ .tbl ps) (hF : F a = none) (al : Alone g env σ a) : Rel T K g F (upd H a o') σ env := by
  have ne : ∀ {i : Nat} {b : Addr}, owns env i → σ[i]? = some (some (.ref b)) → b ≠ a := fun {i b} ow e z => al.1 i ow (by rw [e, z])
  refine ⟨R.len, fun b o2 e => ?_, R.f0, R.new, fun b o2 e n1 n2 => ?_, fun P hP => ?_, R.nt, R.va, fun i d e => ?_, fun i d e => ?_, R.iok, fun b o2 e => ?_, R.sep⟩
  · rw [upd_ne (fun (z : b = a) => by rw [z, hF] at e; cases e)]
    exact R.sub b o2 e
  · rw [upd_ne (fun (z : b = a) => by rw [z, h0] at e; cases e)]
    exact R.keep b o2 e n1 n2
  · obtain ⟨ps, e, t⟩ := R.tab P hP
    rw [show GxR.TabG (upd H a o') P ↔ GxR.TabG H P from ?_]
    · exact ⟨ps, e, t⟩
    · unfold GxR.TabG
      rw [upd_ne (fun (z : P = a) => by rw [z, h] at e; cases e; exact n ps rfl)]
  · obtain ⟨b, e1, e2, e3, ho⟩ := R.ow i d e
    exact ⟨b, e1, e2, e3, ho.mono (Same.refl _) (upd_ne (ne ⟨d, .inl e⟩ e1))⟩
  · obtain ⟨b, e0, e1, e2, ho⟩ := R.io i d e
    exact ⟨b, e0, e1, e2, ho.mono (Same.refl _) (upd_ne (ne ⟨d, .inr e⟩ e1))⟩
  · obtain ⟨t1, t2, t3, t4⟩ := R.tm b o2 e
    exact ⟨by rw [upd_ne (fun (z : b = a) => al.2 o2 (by rw [← z]; exact e))]; exact t1, t2, t3, t4⟩
end

section
variable {T : List Addr} {X : Cx}
def RTs (T : List Addr) (K : PySem.W.Frag) (f : TF) : TT := RT T K f
def FTs (T : List Addr) (X : Cx) (es : List Expr) (f : TF) : Prop := PTs X es (RT T X.K f)
def tYs : TF := fun env => some (true, env)
theorem fts_nil : FTs T X [] tYs := ⟨fun pins s σ H Q I h => pts_nil.run pins s σ H Q I (by
  obtain ⟨gh, F, env, b, env', R, e, q⟩ := h
  cases e
  exact q H F R (Same.refl _))⟩
theorem fts_one {c : Expr} {f : TF} (h : FT T X c f) : FTs T X [c] f := pts_one h

theorem rn_lc {K : PySem.W.Frag} {vs ts : List Nat} {w : AF} {bi : BF} {t : TF} {f : EF} (hts : ∀ i ∈ ts, i ∈ vs) : ∀ σ H Q, RN T K (eLc vs w bi t f) σ H Q → tLc (RI T K w) (RB T K ts bi) (RT T K t) (RE T K f) vs σ H Q := by
  rintro σ H Q ⟨gh, F, env, d, env', R, e, q⟩
  unfold eLc at e
  split at e
  · cases e
  · rename_i ds e1 ew
    split at e
    · rename_i hio
      split at e
      · cases e
      · rename_i acc e2 ec
        cases e
        refine ⟨gh, F, env, _, _, R, ew, fun J H1 F1 R1 s1 Y D hD => ?_⟩
        have nio : ∀ i ∈ vs, ∀ a, (i, a) ∉ gh.io := fun i hi a z => by
          obtain ⟨_, d, hd⟩ := R1.iok i a z
          have := List.all_eq_true.mp hio i hi
          rw [hd] at this
          cases this
        obtain ⟨hD0, hDT, hDF⟩ := R1.fresh hD
        have hal := R1.own_ne hD
        have R1' : Rel T K gh F1 (upd H1 D (.lst [])) (L2.wipe σ vs) (wipeE e1 vs) := (R1.laid hD).wipe nio
        have al0 : ∀ {env' : Ev} {σ' : St}, Alone gh env' σ' D → ∀ o, (D, o) ∉ gh.tmp := fun a => a.2
        have alD : Alone gh (wipeE e1 vs) (L2.wipe σ vs) D := ⟨fun i hi => by
          rw [wipe_out (wipeE_owns hi).2]
          exact hal.1 i (wipeE_owns hi).1, hal.2⟩
        -- the invariant
        refine ⟨fun i m H => m = ds.length - i ∧ ∃ F' env' acc' xs, Rel T K gh F' H (L2.wipe σ vs) env' ∧ Same F1 F' ∧ H D = some (.lst xs) ∧ F' D = none ∧ Alone gh env' (L2.wipe σ vs) D ∧ Reps K F' xs acc' ∧ coF vs bi t f (ds.drop i) acc' env' = some (acc, e2),
          ⟨_, rfl, F1, _, [], [], R1', Same.refl _, upd_same, hDF, alD, .nil, by simpa using ec⟩, ?_⟩
        rintro i m H2 ⟨rfl, F2, env2, acc2, xs, R2, s2, hx, hF2, al2, rr, e'⟩
        have R2p : Rel T K (gh.pin D (.lst xs)) F2 H2 (L2.wipe σ vs) env2 := R2.pin hx hF2 (fun ps z => nomatch z) al2
        obtain ⟨yi, yn⟩ := Y (gh.pin D (.lst xs)) i F2 H2 _ env2 R2p s2
        cases hd : ds[i]? with
        | none =>
          have hl : ds.length ≤ i := List.getElem?_eq_none_iff.mp hd
          rw [List.drop_of_length_le hl] at e'
          injection e' with e'
          injection e' with ea eb
          subst ea; subst eb
          refine .inl ⟨yn hd, ?_⟩
          have R3 : Rel T K gh F2 H2 σ (wipeE env2 vs) := R2.swap (σ' := σ) nio (wipe_length _ _).symm fun j hj => (wipe_out hj).symm
          refine q D H2 F2 R3 (s1.trans s2) hF2 hD0 ⟨fun j hj => ?_, al2.2⟩ (.lst hx rr)
          have h1 := al2.1 j (wipeE_owns hj).1
          rw [wipe_out (wipeE_owns hj).2] at h1
          exact h1
        | some d =>
          obtain ⟨hgo, hy⟩ := yi d hd
          have hl : i < ds.length := (List.getElem?_eq_some_iff.mp hd).1
          have ed : ds.drop i = d :: ds.drop (i + 1) := by
            rw [List.drop_eq_getElem_cons hl]
            rw [List.getElem?_eq_getElem hl] at hd
            cases hd; rfl
          rw [ed] at e'
          unfold coF at e'
          refine .inr ⟨hgo, fun H' => ∃ F' env' acc' xs, Rel T K gh F' H' (L2.wipe σ vs) env' ∧ Same F1 F' ∧ H' D = some (.lst xs) ∧ F' D = none ∧ Alone gh env' (L2.wipe σ vs) D ∧ Reps K F' xs acc' ∧ coF vs bi t f (ds.drop (i + 1)) acc' env' = some (acc, e2),
            fun H' h => ⟨ds.length - (i + 1), by omega, rfl, h⟩, fun x H' hx' => ?_⟩
          obtain ⟨F3, R3, s3, rx⟩ := hy x H' hx'
          split at e'
          · cases e'
          · rename_i e3 eb
            refine ⟨gh.pin D (.lst xs), F3, env2, d, e3, R3, rx, eb, fun σ4 H4 F4 R4 s4 w4 => ?_⟩
            have ew4 := w4 vs hts
            rw [show L2.wipe (L2.wipe σ vs) vs = L2.wipe σ vs from by
              apply List.ext_getElem?
              intro j
              rw [wipe_get, wipe_get, wipe_length]
              split <;> rfl] at ew4
            refine ⟨ew4, ?_⟩
            split at e'
            · cases e'
            · rename_i e4 et
              refine ⟨gh.pin D (.lst xs), F4, e3, _, _, R4, et, fun H5 F5 R5 s5 => iteF ?_⟩
              obtain ⟨R6, hD6, hF6, al6⟩ := R5.unpin al2.2
              have R7 := R6.wipe nio
              rw [ew4] at R7
              refine ⟨F5, _, acc2, xs, R7, s2.trans (s3.trans (s4.trans s5)), hD6, hF6, ⟨fun j hj => ?_, al6.2⟩, rr.mono (s3.trans (s4.trans s5)), e'⟩
              have h1 := al6.1 j (wipeE_owns hj).1
              rw [← ew4, wipe_out (wipeE_owns hj).2]
              exact h1
            · rename_i e4 et
              refine ⟨gh.pin D (.lst xs), F4, e3, _, _, R4, et, fun H5 F5 R5 s5 => iteT ?_⟩
              split at e'
              · cases e'
              · rename_i r e5 ef
                split at e'
                · rename_i hlen
                  refine ⟨gh.pin D (.lst xs), F5, e4, _, _, R5, ef, fun y H6 F6 R6 s6 r6 => ?_⟩
                  obtain ⟨R7, hD7, hF7, al7⟩ := R6.unpin al2.2
                  refine ⟨xs, hD7, by rw [rr.len]; exact hlen, ?_⟩
                  have R8 := (R7.grow (o' := .lst (xs ++ [y])) hD0 hD7 (fun ps z => nomatch z) hF7 al7).wipe nio
                  rw [ew4] at R8
                  have s26 := s3.trans (s4.trans (s5.trans s6))
                  refine ⟨F6, _, _, _, R8, s2.trans s26, upd_same, hF7, ⟨fun j hj => ?_, al7.2⟩, (rr.mono s26).append (.one r6), e'⟩
                  have h1 := al7.1 j (wipeE_owns hj).1
                  rw [← ew4, wipe_out (wipeE_owns hj).2]
                  exact h1
                · cases e'
    · cases e
/-- [e for tg in iter if ..] -/
theorem fn_lc {elt tg iter : Expr} {ifs : List Expr} {scope : Scope} {pos : Pos} {own : List (Str × Nat)} {ts : List Nat} {w : AF} {bi : BF} {t : TF} {f : EF} (hc : X.calm = true) (hN : X.N.Nodup) (hi : FI T X tg iter w) (ok : BlkOk X.N X.env.scope scope own)
    (hg : ∀ (s : Shared) (H : Hp) (C : Addr) (cl : List (Str × Addr)) (fp : List Addr), FB T (X.blk s H scope (compEnvC scope cl C X.env) fp) tg ts bi)
    (ht : ∀ (s : Shared) (H : Hp) (C : Addr) (cl : List (Str × Addr)) (fp : List Addr), FTs T (X.blk s H scope (compEnvC scope cl C X.env) fp) ifs t)
    (he : ∀ (s : Shared) (H : Hp) (C : Addr) (cl : List (Str × Addr)) (fp : List Addr), FE T (X.blk s H scope (compEnvC scope cl C X.env) fp) elt f) (hts : ∀ i ∈ ts, i ∈ own.map (·.2) := by decide)
    (hs : ∀ x, foldedSetIterable iter X.env x = pure x := by intro _; rfl) :
    FN T X (.ListComp elt [⟨tg, iter, ifs, 0⟩] scope pos) (eLc (own.map (·.2)) w bi t f) :=
  (pe_lc (g := RB T X.K ts bi) (tt := RT T X.K t) (te := RE T X.K f) hc hN hi ok hg ht he hs).weak (rn_lc hts)
/-- y = [e for tg in iter if ..] -/
theorem fs_setLc (i : Nat) {y : Str} {py : Pos} {elt tg iter : Expr} {ifs : List Expr} {scope : Scope} {pos spos : Pos} {own : List (Str × Nat)} {ts : List Nat} {w : AF} {bi : BF} {t : TF} {f : EF} (hc : X.calm = true) (hN : X.N.Nodup) (hy : X.N[i]? = some y) (hyl : X.env.scope.names.lookup y = some .local)
    (hsw : swapsWith (.ListComp elt [⟨tg, iter, ifs, 0⟩] scope pos) (some (.Name y py)) spos.line X.env = pure true) (hi : FI T X tg iter w) (ok : BlkOk X.N X.env.scope scope own)
    (hg : ∀ (s : Shared) (H : Hp) (C : Addr) (cl : List (Str × Addr)) (fp : List Addr), FB T (X.blk s H scope (compEnvC scope cl C X.env) fp) tg ts bi)
    (ht : ∀ (s : Shared) (H : Hp) (C : Addr) (cl : List (Str × Addr)) (fp : List Addr), FTs T (X.blk s H scope (compEnvC scope cl C X.env) fp) ifs t)
    (he : ∀ (s : Shared) (H : Hp) (C : Addr) (cl : List (Str × Addr)) (fp : List Addr), FE T (X.blk s H scope (compEnvC scope cl C X.env) fp) elt f) (hts : ∀ i ∈ ts, i ∈ own.map (·.2) := by decide)
    (hs : ∀ x, foldedSetIterable iter X.env x = pure x := by intro _; rfl) :
    FS T X (.Assign [.Name y py] (.ListComp elt [⟨tg, iter, ifs, 0⟩] scope pos) spos) (asg i (eLc (own.map (·.2)) w bi t f)) ∧ FS T X (.Assign [.Name y py] (.ListComp elt [⟨tg, iter, ifs, 0⟩] scope pos) spos) (asgO i (eLc (own.map (·.2)) w bi t f)) := by
  have base := ps_setLc (g := RB T X.K ts bi) (tt := RT T X.K t) (te := RE T X.K f) hc hN hy hyl hsw hi ok hg ht he hs
  refine ⟨PS.weak base fun D σ H ⟨gh, F, env, out, R, e, q⟩ => ?_, PS.weak base fun D σ H ⟨gh, F, env, out, R, e, q⟩ => ?_⟩
  · unfold asg at e
    split at e
    · cases e
    · rename_i d e1 ef
      split at e
      · cases e
      · rename_i e2 es
        cases e
        refine rn_lc hts σ H _ ⟨gh, F, env, d, e1, R, ef, fun a H1 F1 R1 s1 h1 h2 h3 h4 => ?_⟩
        obtain ⟨o, hH, hn, r⟩ := h4.rep h1
        obtain ⟨R2, s2⟩ := R1.froze h1 hH h2 (R1.notT hH hn) h3
        exact q _ _ _ (R2.put es (.inr (.inl ⟨d, rfl, r⟩))) (s1.trans s2)
  · unfold asgO at e
    split at e
    · cases e
    · rename_i d e1 ef
      split at e
      · cases e
      · rename_i e2 es
        cases e
        exact rn_lc hts σ H _ ⟨gh, F, env, d, e1, R, ef, fun a H1 F1 R1 s1 h1 h2 h3 h4 => q _ _ _ (R1.put es (.inr (.inr ⟨d, a, rfl, rfl, h1, h2, h3, h4⟩))) s1⟩
end
end Fx

namespace HT
open PySem PySem.Spec PyProof.Rows
section
variable {prog : Program} {w : World} {A : Around} {E : Value → Shared → Prop} {s : Shared}
theorem getItem_tuple_whole {t sl : Addr} {items : Array Value} {vl vu : Value} {lo hi : Option Int} {Q : Value → Shared → Prop} (ht : IsTup s.heap t items) (hs : s.heap.IsSliceOf sl vl vu .none) (pl : IsPart vl lo) (pu : IsPart vu hi)
    (hw : sIx items.size 0 lo = 0 ∧ sIx items.size items.size hi = items.size) (h : Q (.ref t) s) : wpAny (model prog w) A (getItem (.ref t) (.ref sl)) Q E s := by
  obtain ⟨os, hos, hcs, hds⟩ := id hs
  have hTs : s.TypeIs (.ref sl) "slice" := ⟨os, hos, hcs⟩
  unfold getItem
  try with_reducible refine wpAny_holding ?_
  first | refine wpAny_bind (wpAny_pure ?_) | skip
  refine wpAny_bind (wpAny_sequenceKey ht.typeIs (by decide) ?_)
  refine wpAny_bind (wpAny_callSpecial?_slot (name := Str.ofString "__getitem__") ht.typeIs PyProof.Rows.slot_tuple_getitem
    (wpAny_call_entry PyProof.Rows.slot_tuple_getitem ht.typeIs entry_tuple_getitem ?_ (args_tuple_getitem _ _)))
  show wpAny _ _ (Builtin.Tuple.tupleItemsOf (.ref t) >>= _) _ _ s
  refine wpAny_bind (tupleItemsOf_ ht ?_)
  refine wpAny_bind (wpAny_typeOf hTs ?_)
  rw [if_pos (by decide)]
  refine wpAny_bind (sliceApplied_gen hs pl pu ?_)
  have hyes : ((((sIx items.size 0 lo : Nat) : Int) == 0 && (1 : Int) == 1 && (sIx items.size items.size hi - sIx items.size 0 lo) == items.size) = true) := by
    rw [hw.1, hw.2]
    simp
  show wpAny _ _ (if (((sIx items.size 0 lo : Nat) : Int) == 0 && (1 : Int) == 1 && (sIx items.size items.size hi - sIx items.size 0 lo) == items.size) = true then _ else _) _ _ s
  rw [if_pos hyes]
  unfold Builtin.Tuple.tupleIsExact
  refine wpAny_bind (wpAny_bind (wpAny_typeOf ht.typeIs (wpAny_pure ?_)))
  rw [if_pos (by decide)]
  refine wpAny_bind (wpAny_rule ?_)
  exact wpAny_pure ⟨_, rfl, wpAny_pure h⟩
end
end HT
namespace Fx
open PySem PySem.Spec L2
open PyProof.Rows hiding St

section
variable {T : List Addr} {X : Cx}
abbrev OF := Ev → Option (Option Int × Ev)
def RO (T : List Addr) (K : PySem.W.Frag) (f : OF) : TO := fun σ H Q => ∃ g F env o env', Rel T K g F H σ env ∧ f env = some (o, env') ∧ ∀ H' F', Rel T K g F' H' σ env' → Same F F' → Q o H'
theorem _root_.L2.PO.weak {e : Option Expr} {t t' : TO} (h : PO X e t) (w : ∀ σ H Q, t' σ H Q → t σ H Q) : PO X e t' := ⟨fun pins s σ H Q I q => h.run pins s σ H Q I (w σ H Q q)⟩
def FO (T : List Addr) (X : Cx) (e : Option Expr) (f : OF) : Prop := PO X e (RO T X.K f)
def oNo : OF := fun env => some (none, env)
def oSo (f : EF) : OF := fun env => match f env with
  | some (.int i, e) => some (some i, e)
  | _ => none
theorem fo_no : FO T X none oNo := po_none.weak fun σ H Q ⟨gh, F, env, o, env', R, e, q⟩ => by
  cases e
  exact q H F R (Same.refl _)
theorem fo_so {e : Expr} {f : EF} (h : FE T X e f) : FO T X (some e) (oSo f) := (po_some h).weak fun σ H Q ⟨gh, F, env, o, env', R, e, q⟩ => by
  unfold oSo at e
  split at e
  · rename_i i e1 ef
    cases e
    exact ⟨gh, F, env, _, _, R, ef, fun v H1 F1 R1 s1 r1 => ⟨i, r1.int_iff, q H1 F1 R1 s1⟩⟩
  · cases e
def cutD (xs : List PV) (lo hi : Option Int) : List PV := (xs.drop (HT.sIx xs.length 0 lo)).take (HT.sIx xs.length xs.length hi - HT.sIx xs.length 0 lo)
theorem Reps.cut {K : PySem.W.Frag} {F : Hp} {xs : List V} {ds : List PV} (r : Reps K F xs ds) (lo hi : Option Int) : Reps K F (cutV xs lo hi) (cutD ds lo hi) := by
  unfold cutV cutD
  rw [r.len]
  exact (r.drop _).take _
/-- t[:], the whole of it: t itself -/
def rSlTW (K : PySem.W.Frag) : V → Option Int → Option Int → Hp → VK → Prop := fun x lo hi H Q => ∃ a xs, x = .ref a ∧ SqT K H a xs ∧ (HT.sIx xs.length 0 lo = 0 ∧ HT.sIx xs.length xs.length hi = xs.length) ∧ Q (.ref a) H
def pSl (x : PV) (lo hi : Option Int) : Option PV := match x with
  | .list xs => some (.list (cutD xs lo hi))
  | .tuple xs => if HT.sIx xs.length 0 lo = 0 ∧ HT.sIx xs.length xs.length hi = xs.length then some (.tuple xs) else some (.tuple (cutD xs lo hi))
  | .str z => if z.length ≤ sizeLine then some (.str (cutS z lo hi)) else none
  | .dict [(.bool true, .list xs)] => some (.list (cutD xs lo hi))
  | _ => none
def rSlA (K : PySem.W.Frag) : V → Option Int → Option Int → Hp → VK → Prop := fun x lo hi H Q => rSlL K x lo hi H Q ∨ (rSlT K x lo hi H Q ∨ rSlTW K x lo hi H Q) ∨ rSlS x lo hi H Q
theorem sl_tupW : SlR X (rSlTW X.K) := by
  intro pins s σ H x v vl vu lo hi sl Q I rx hs pl pu h
  obtain ⟨a, xs, rfl, hx, hw, q⟩ := h
  cases rx
  obtain ⟨its, r, ht, hz⟩ := I.tuple hx
  have hlen : its.toArray.size = xs.length := by rw [List.size_toArray]; exact r.length.symm
  refine ⟨"tuple", _, PyProof.Rows.slot_tuple_getitem.lookup, ht.typeIs, ?_⟩
  exact HT.getItem_tuple_whole ht hs pl pu (by rw [hlen]; exact hw) ⟨.ref a, H, I, rfl, q⟩
theorem sl_all : SlR X (rSlA X.K) := SlR.or sl_list (SlR.or (SlR.or sl_tup sl_tupW) sl_str)
def eSl (f : EF) (l h : OF) : EF := fun env => match f env with
  | none => none
  | some (d, e1) => match l e1 with
    | none => none
    | some (lo, e2) => match h e2 with
      | none => none
      | some (hi, e3) => match pSl d lo hi with
        | none => none
        | some r => some (r, e3)
theorem fe_sl {a : Expr} {lo hi : Option Expr} {p2 pos : Pos} {f : EF} {l h : OF} (ha : FE T X a f) (hl : FO T X lo l) (hh : FO T X hi h) : FE T X (.Subscript a (.Slice lo hi none p2) pos) (eSl f l h) :=
  (pe_slice sl_all ha hl hh).weak fun σ H Q ⟨gh, F, env, d, env', R, e, q⟩ => by
    unfold eSl at e
    split at e
    · cases e
    · rename_i d1 e1 ef
      split at e
      · cases e
      · rename_i lo1 e2 el
        split at e
        · cases e
        · rename_i hi1 e3 eh
          split at e
          · cases e
          · rename_i r er
            cases e
            refine ⟨gh, F, env, _, _, R, ef, fun v H1 F1 R1 s1 r1 => ⟨gh, F1, _, _, _, R1, el, fun H2 F2 R2 s2 => ⟨gh, F2, _, _, _, R2, eh, fun H3 F3 R3 s3 => ?_⟩⟩⟩
            have r3 := r1.mono (s2.trans s3)
            have s03 := s1.trans (s2.trans s3)
            unfold pSl at er
            split at er
            · cases er
              cases r3 with
              | lst hx rr =>
                refine .inl ⟨_, _, rfl, .inl (.inl (R3.sub _ _ hx)), fun p hp => ?_⟩
                obtain ⟨R4, s4⟩ := R3.laidF (o := .lst _) hp
                exact q _ _ _ R4 (s03.trans s4) (.lst upd_same ((rr.cut _ _).mono s4))
            · split at er
              · rename_i hw
                cases er
                cases r3 with
                | tup hx rr => exact .inr (.inl (.inr ⟨_, _, rfl, SqT.mono R3.sub (sqT hx), by rw [rr.len]; exact hw, q _ _ _ R3 s03 (.tup hx rr)⟩))
              · rename_i hw
                cases er
                cases r3 with
                | tup hx rr =>
                  refine .inr (.inl (.inl ⟨_, _, rfl, SqT.mono R3.sub (sqT hx), by rw [rr.len]; exact hw, fun p hp => ?_⟩))
                  obtain ⟨R4, s4⟩ := R3.laidF (o := .tup _) hp
                  exact q _ _ _ R4 (s03.trans s4) (.tup upd_same ((rr.cut _ _).mono s4))
            · split at er
              · rename_i hz
                cases er
                exact .inr (.inr ⟨_, r3.str_iff, hz, q _ _ _ R3 s03 (.str _)⟩)
              · cases er
            · cases er
              obtain ⟨a, ys, rfl, hx, rr⟩ := r3.isLk
              refine .inl ⟨_, _, rfl, SqL.mono R3.sub hx, fun p hp => ?_⟩
              obtain ⟨R4, s4⟩ := R3.laidF (o := .lst _) hp
              exact q _ _ _ R4 (s03.trans s4) (.lst upd_same ((rr.cut _ _).mono s4))
            · cases er

/-- what a call leaves: all that stood stands, the tables but may have grown -/
structure Left (T : List Addr) (H H' F F' : Hp) (but : Addr → Prop) : Prop where
  keep : ∀ a o, H a = some o → a ∉ T → ¬ but a → H' a = some o
  tab : ∀ P ∈ T, GxR.TabG H' P ∧ F' P = none
  frz : Same F F'
  sub : Same F' H'
  new : ∀ a o, F' a = some o → F a = some o ∨ H a = none
def spP (T : List Addr) (K : PySem.W.Frag) (g : List PV → Option PV) : Sp := fun vs H Q _ => ∃ F ps d, Same F H ∧ (∀ P ∈ T, GxR.TabG H P ∧ F P = none) ∧ Reps K F vs ps ∧ g ps = some d ∧
  ∀ v H' F', Left T H H' F F' (fun _ => False) → Rep K F' v d → Q v H'
theorem Rel.left {K : PySem.W.Frag} {g : Gh} {F H F' H' : Hp} {σ : St} {env : Ev} (R : Rel T K g F H σ env) (L : Left T H H' F F' fun _ => False) : Rel T K g F' H' σ env := by
  have no : ∀ {a : Addr} {o : HO}, H a = some o → F a = none → F' a = none := fun {a o} h hF => by
    cases q : F' a with
    | none => rfl
    | some u =>
      rcases L.new a u q with z | z
      · rw [hF] at z; cases z
      · rw [h] at z; cases z
  have same : ∀ {a : Addr} {d : PV}, Own K F H a d → H' a = H a := fun {a d} ho => by
    obtain ⟨o, h, n⟩ := ho.at_
    rw [h, L.keep a o h (R.notT h n) (fun z => z)]
  refine ⟨R.len, L.sub, R.f0.trans L.frz, fun a o e => ?_, fun a o e n1 n2 => L.keep a o (R.keep a o e n1 n2) n1 (fun z => z), fun P hP => (L.tab P hP).1, fun P hP => (L.tab P hP).2, fun i d e => ?_, fun i d e => ?_, fun i d e => ?_, R.iok, fun a o e => ?_, R.sep⟩
  · rcases L.new a o e with z | z
    · exact R.new a o z
    · exact .inr (R.fresh z).1
  · obtain ⟨v, e1, r⟩ := R.va i d e
    exact ⟨v, e1, r.mono L.frz⟩
  · obtain ⟨a, e1, e2, e3, ho⟩ := R.ow i d e
    obtain ⟨o, h, _⟩ := ho.at_
    exact ⟨a, e1, no h e2, e3, ho.mono L.frz (same ho)⟩
  · obtain ⟨a, e0, e1, e2, ho⟩ := R.io i d e
    obtain ⟨o, h, _⟩ := ho.at_
    exact ⟨a, e0, e1, no h e2, ho.mono L.frz (same ho)⟩
  · obtain ⟨t1, t2, t3, t4⟩ := R.tm a o e
    exact ⟨L.keep a o t1 (R.notT t1 t3) (fun z => z), no t1 t2, t3, t4⟩
theorem cf_call {K : PySem.W.Frag} {g : List PV → Option PV} {f : AF} {E : XK} : ∀ σ H Q, RE T K (callF g f) σ H Q → tCall (spP T K g) [] E (RA T K f) σ H Q := by
  rintro σ H Q ⟨gh, F, env, d, env', R, e, q⟩
  unfold callF at e
  split at e
  · cases e
  · rename_i ds e1 ef
    split at e
    · cases e
    · rename_i d' eg
      cases e
      refine ⟨gh, F, env, _, _, R, ef, fun vs H1 F1 R1 s1 r1 => ⟨F1, ds, d, R1.sub, fun P hP => ⟨R1.tab P hP, R1.nt P hP⟩, by rw [List.append_nil]; exact r1, eg, fun v H2 F2 L r2 => ?_⟩⟩
      exact q v H2 F2 (R1.left L) (s1.trans L.frz) r2
/-- f(e, ..), f a def -/
theorem fe_call {CX : CXT} {k : Nat} {f : Addr} {fd : FuncData} {ps : List Str} {g : List PV → Option PV} {E : XK} {x : Str} {p pos : Pos} {e : Expr} {es : List Expr} {h : AF} (F : FnOk X.prog X.w X.K X.mg X.base CX k f fd ps (spP T X.K g)) (hr : Room k X.A) (hm : X.mg x = some (.ref f)) (hk : PySem.W.keepIn X.K (.ref f) = true) (hb : Binds X.K fd ps []) (hx : Passes CX X E)
    (ha : FA T X (e :: es) h) (hg : Gl X x := by rfl) (hdb : (x == ("__debug__" : Str)) = false := by decide) (he : starEach (e :: es) X.env = (false, eval e X.env) :: starEach es X.env := by rfl) (hpl : (backTo pos (starEach es X.env)).any (·.1) = false := by rfl) :
    FE T X (.Call (.Name x p) (e :: es) [] pos) (callF g h) :=
  (pe_call F hr hg hm hk hb .nil hx ha hdb he hpl).weak cf_call
/-- a def that changes its first argument, a list of the caller's own -/
def spIO (T : List Addr) (K : PySem.W.Frag) (g : PV → List PV → Option (PV × PV)) : Sp := fun vs H Q _ => ∃ F a vs' ps d d' r, vs = .ref a :: vs' ∧ Same F H ∧ (∀ P ∈ T, GxR.TabG H P ∧ F P = none) ∧ F a = none ∧ Own K F H a d ∧ Reps K F vs' ps ∧ g d ps = some (d', r) ∧
  ∀ v H' F', Left T H H' F F' (fun b => b = a) → F' a = none → Own K F' H' a d' → Rep K F' v r → Q v H'
/-- .. changed -/
theorem Rel.leftIO {K : PySem.W.Frag} {g : Gh} {F H F' H' : Hp} {σ : St} {env : Ev} {i : Nat} {p : Addr} {d d' : PV} (R : Rel T K g F H σ env) (hm : Fx.mine env i = some d) (hp : σ[i]? = some (some (.ref p))) (L : Left T H H' F F' fun b => b = p) (hF : F' p = none) (ho : Own K F' H' p d') :
    Rel T K g F' H' σ (putM env i d') := by
  obtain ⟨p', ep, hFp, hop, _⟩ := R.mine hm
  rw [hp] at ep; cases ep
  obtain ⟨op, hHp, ntp⟩ := hop.at_
  have oi : owns env i := by
    unfold Fx.mine at hm
    split at hm
    · rename_i d0 e; exact ⟨_, .inl e⟩
    · rename_i d0 e; exact ⟨_, .inr e⟩
    · cases hm
  have hi : i < env.length := by
    obtain ⟨d0, e | e⟩ := oi <;> exact (List.getElem?_eq_some_iff.mp e).1
  have no : ∀ {a : Addr} {o : HO}, H a = some o → F a = none → F' a = none := fun {a o} h hF => by
    cases q : F' a with
    | none => rfl
    | some u =>
      rcases L.new a u q with z | z
      · rw [hF] at z; cases z
      · rw [h] at z; cases z
  have same : ∀ {a : Addr} {d : PV}, a ≠ p → Own K F H a d → H' a = H a := fun {a d} ne ho => by
    obtain ⟨o, h, n⟩ := ho.at_
    rw [h, L.keep a o h (R.notT h n) ne]
  have slot : ∃ s, putM env i d' = env.set i s ∧ ((∃ d0, env[i]? = some (.ow d0) ∧ s = .ow d') ∨ ∃ d0, env[i]? = some (.io d0) ∧ s = .io d') := by
    obtain ⟨d0, e | e⟩ := oi
    · exact ⟨.ow d', by unfold putM; rw [e], .inl ⟨d0, e, rfl⟩⟩
    · exact ⟨.io d', by unfold putM; rw [e], .inr ⟨d0, e, rfl⟩⟩
  obtain ⟨s, es, hs⟩ := slot
  rw [es]
  have get : ∀ (j : Nat) x, j ≠ i → (env.set i s)[j]? = some x → env[j]? = some x := fun j x hj q => by
    rw [List.getElem?_set_ne (Ne.symm hj)] at q; exact q
  have own' : ∀ j : Nat, owns (env.set i s) j → owns env j := fun j ⟨d, hd⟩ => by
    by_cases hj : j = i
    · rw [hj]; exact oi
    · exact ⟨d, hd.imp (get j _ hj) (get j _ hj)⟩
  have ne : ∀ (j : Nat) (b : Addr), j ≠ i → owns env j → σ[j]? = some (some (.ref b)) → b ≠ p := fun j b hj oj ej z => by
    subst z
    exact hj (R.sep j i b oj oi ej hp)
  refine ⟨by rw [List.length_set]; exact R.len, L.sub, R.f0.trans L.frz, fun a o e => ?_, fun a o e n1 n2 => ?_, fun P hP => (L.tab P hP).1, fun P hP => (L.tab P hP).2, fun j d q => ?_, fun j d q => ?_, fun j d q => ?_, fun j a q => ?_, fun a o q => ?_, fun j k a q1 q2 => R.sep j k a (own' j q1) (own' k q2)⟩
  · rcases L.new a o e with z | z
    · exact R.new a o z
    · exact .inr (R.fresh z).1
  · refine L.keep a o (R.keep a o e n1 n2) n1 fun z => ?_
    subst z
    rcases hs with ⟨d0, e0, _⟩ | ⟨d0, e0, _⟩
    · obtain ⟨b, q1, _, q3, _⟩ := R.ow i d0 e0
      rw [hp] at q1; cases q1
      rw [e] at q3; cases q3
    · obtain ⟨b, q0, q1, _⟩ := R.io i d0 e0
      rw [hp] at q1; cases q1
      exact n2 i q0
  · have hj : j ≠ i := fun z => by
      rw [z, List.getElem?_set_self hi] at q
      rcases hs with ⟨_, _, e⟩ | ⟨_, _, e⟩ <;> rw [e] at q <;> cases q
    obtain ⟨v, e1, r⟩ := R.va j d (get j _ hj q)
    exact ⟨v, e1, r.mono L.frz⟩
  · by_cases hj : j = i
    · subst hj
      rw [List.getElem?_set_self hi] at q
      rcases hs with ⟨d0, e0, e⟩ | ⟨d0, e0, e⟩
      · rw [e] at q; cases q
        obtain ⟨b, q1, q2, q3, _⟩ := R.ow j d0 e0
        rw [hp] at q1; cases q1
        exact ⟨p, hp, hF, q3, ho⟩
      · rw [e] at q; cases q
    · obtain ⟨a, e1, e2, e3, h4⟩ := R.ow j d (get j _ hj q)
      obtain ⟨o, h, _⟩ := h4.at_
      exact ⟨a, e1, no h e2, e3, h4.mono L.frz (same (ne j a hj ⟨d, .inl (get j _ hj q)⟩ e1) h4)⟩
  · by_cases hj : j = i
    · subst hj
      rw [List.getElem?_set_self hi] at q
      rcases hs with ⟨d0, e0, e⟩ | ⟨d0, e0, e⟩
      · rw [e] at q; cases q
      · rw [e] at q; cases q
        obtain ⟨b, q0, q1, q2, _⟩ := R.io j d0 e0
        rw [hp] at q1; cases q1
        exact ⟨p, q0, hp, hF, ho⟩
    · obtain ⟨a, e0, e1, e2, h4⟩ := R.io j d (get j _ hj q)
      obtain ⟨o, h, _⟩ := h4.at_
      exact ⟨a, e0, e1, no h e2, h4.mono L.frz (same (ne j a hj ⟨d, .inr (get j _ hj q)⟩ e1) h4)⟩
  · obtain ⟨e1, d, e2⟩ := R.iok j a q
    refine ⟨e1, ?_⟩
    by_cases hj : j = i
    · subst hj
      rcases hs with ⟨d0, e0, e⟩ | ⟨d0, e0, e⟩
      · rw [e2] at e0; cases e0
      · exact ⟨d', by rw [List.getElem?_set_self hi, e]⟩
    · exact ⟨d, by rw [List.getElem?_set_ne (Ne.symm hj)]; exact e2⟩
  · obtain ⟨t1, t2, t3, t4⟩ := R.tm a o q
    have ha : a ≠ p := fun z => t4 i oi (by rw [hp, z])
    exact ⟨L.keep a o t1 (R.notT t1 t3) ha, no t1 t2, t3, fun j hj => t4 j (own' j hj)⟩
def callIO (i : Nat) (g : PV → List PV → Option (PV × PV)) (f : AF) : EF := fun env => match Fx.mine env i with
  | none => none
  | some _ => match f env with
    | none => none
    | some (ds, e) => match Fx.mine e i with
      | none => none
      | some d => match g d ds with
        | none => none
        | some (d', r) => some (r, putM e i d')
theorem fe_callIO (i : Nat) {CX : CXT} {k : Nat} {f : Addr} {fd : FuncData} {ps : List Str} {g : PV → List PV → Option (PV × PV)} {E : XK} {x y : Str} {p py pos : Pos} {es : List Expr} {h : AF} (F : FnOk X.prog X.w X.K X.mg X.base CX k f fd ps (spIO T X.K g)) (hr : Room k X.A) (hm : X.mg x = some (.ref f)) (hk : PySem.W.keepIn X.K (.ref f) = true) (hb : Binds X.K fd ps []) (hx : Passes CX X E)
    (ha : FA T X es h) (hg : Gl X x := by rfl) (hN : X.N[i]? = some y := by rfl) (hv : Vis X.env.scope y := by first | exact Or.inl rfl | exact Or.inr (Or.inl rfl) | exact Or.inr (Or.inr rfl)) (hd : (y == ("__debug__" : Str)) = false := by decide) (hcd : (y == ("__classdict__" : Str)) = false := by decide)
    (hdb : (x == ("__debug__" : Str)) = false := by decide) (he : starEach (.Name y py :: es) X.env = (false, eval (.Name y py) X.env) :: starEach es X.env := by rfl) (hpl : (backTo pos (starEach es X.env)).any (·.1) = false := by rfl) :
    FE T X (.Call (.Name x p) (.Name y py :: es) [] pos) (callIO i g h) :=
  (pe_call F hr hg hm hk hb .nil hx (pa_cons (pe_var hN hv hd hcd) ha he) hdb he hpl).weak fun σ H Q ⟨gh, F, env, d, env', R, e, q⟩ => by
    unfold callIO at e
    split at e
    · cases e
    · rename_i d0 h0
      obtain ⟨p, ep, _⟩ := R.mine h0
      refine ⟨.ref p, ep, ?_⟩
      split at e
      · cases e
      · rename_i ds e1 ef
        refine ⟨gh, F, env, _, _, R, ef, fun vs H1 F1 R1 s1 r1 => ?_⟩
        split at e
        · cases e
        · rename_i d1 h1
          split at e
          · cases e
          · rename_i d' r eg
            cases e
            obtain ⟨p', ep', hF, ho, _⟩ := R1.mine h1
            rw [ep] at ep'; cases ep'
            refine ⟨F1, p, vs, ds, d1, d', _, by rw [List.append_nil], R1.sub, fun P hP => ⟨R1.tab P hP, R1.nt P hP⟩, hF, ho, r1, eg, fun v H2 F2 L hF2 ho2 r2 => ?_⟩
            exact q v H2 F2 (R1.leftIO h1 ep L hF2 ho2) (s1.trans L.frz) r2

def start0 (n : Nat) (ps : List PV) : Ev := ps.map .va ++ List.replicate (n - ps.length) .no
def runP (n k : Nat) (b : SF) (ps : List PV) : Option PV := if ps.length = k ∧ k ≤ n then match b (start0 n ps) with
  | some (.rt d _) => some d
  | some (.rf d _) => some d
  | some (.nx _) => some .none
  | _ => none
  else none
theorem rel_start {K : PySem.W.Frag} {F H : Hp} {vs : List V} {ps : List PV} {N : List Str} (sF : Same F H) (hT : ∀ P ∈ T, GxR.TabG H P ∧ F P = none) (r : Reps K F vs ps) (hl : ps.length ≤ N.length) :
    Rel T K ⟨H, F, [], []⟩ F H (L2.start N vs) (start0 N.length ps) := by
  have hlen := r.len
  have noOwn : ∀ (i : Nat) (d : PV), (start0 N.length ps)[i]? ≠ some (.ow d) ∧ (start0 N.length ps)[i]? ≠ some (.io d) := fun i d => by
    unfold start0
    by_cases hi : i < ps.length
    · rw [List.getElem?_append_left (by simpa using hi), List.getElem?_map, List.getElem?_eq_getElem hi]
      exact ⟨fun z => (by cases z), fun z => (by cases z)⟩
    · rw [List.getElem?_append_right (by simpa using hi), List.getElem?_replicate]
      split
      · exact ⟨fun z => (by cases z), fun z => (by cases z)⟩
      · exact ⟨fun z => (by cases z), fun z => (by cases z)⟩
  have noOwns : ∀ i, ¬ owns (start0 N.length ps) i := fun i ⟨d, h⟩ => h.elim (noOwn i d).1 (noOwn i d).2
  refine ⟨?_, sF, Same.refl _, fun a o e => .inl e, fun a o e _ _ => e, fun P hP => (hT P hP).1, fun P hP => (hT P hP).2, fun i d e => ?_, fun i d e => ((noOwn i d).1 e).elim, fun i d e => ((noOwn i d).2 e).elim, fun i a e => (by cases e), fun a o e => (by cases e), fun i j a q1 => (noOwns i q1).elim⟩
  · unfold start0 L2.start
    simp only [List.length_append, List.length_map, List.length_replicate]
    omega
  · unfold start0 at e
    by_cases hi : i < ps.length
    · rw [List.getElem?_append_left (by simpa using hi), List.getElem?_map, List.getElem?_eq_getElem hi] at e
      cases e
      obtain ⟨v, h1, h2⟩ := r.get (List.getElem?_eq_getElem hi)
      refine ⟨v, ?_, h2⟩
      unfold L2.start
      rw [List.getElem?_append_left (by rw [List.length_map]; omega), List.getElem?_map, h1]
      rfl
    · rw [List.getElem?_append_right (by simpa using hi), List.getElem?_replicate] at e
      split at e <;> cases e
theorem Rel.toLeft {K : PySem.W.Frag} {g : Gh} {F H : Hp} {σ : St} {env : Ev} (R : Rel T K g F H σ env) (io : g.io = []) : Left T g.H0 H g.F0 F fun _ => False :=
  ⟨fun a o e n _ => R.keep a o e n (fun i z => by rw [io] at z; cases z), fun P hP => ⟨R.tab P hP, R.nt P hP⟩, R.f0, R.sub, R.new⟩
theorem ends_of {K : PySem.W.Frag} {b : SF} {N : List Str} {vs : List V} {H F : Hp} {ps : List PV} {d : PV} {Q : VK} (sF : Same F H) (hT : ∀ P ∈ T, GxR.TabG H P ∧ F P = none) (r : Reps K F vs ps) (e : runP N.length ps.length b ps = some d)
    (q : ∀ v H' F', Left T H H' F F' (fun _ => False) → Rep K F' v d → Q v H') : RS T K b { nx := fun _ H' => Q .non H', rt := Q } (L2.start N vs) H := by
  unfold runP at e
  split at e
  · rename_i hk
    have R := rel_start (N := N) sF hT r hk.2
    split at e
    · rename_i d1 e1 eb
      cases e
      exact ⟨_, F, _, _, R, eb, fun v σ' H' F' R' s r' => q v H' F' (R'.toLeft rfl) r'⟩
    · rename_i d1 e1 eb
      cases e
      refine ⟨_, F, _, _, R, eb, fun a σ' H' F' R' s h1 h2 h3 h4 => ?_⟩
      obtain ⟨o, hH, hn, r'⟩ := h4.rep h1
      obtain ⟨R2, s2⟩ := R'.froze h1 hH h2 (R'.notT hH hn) h3
      exact q _ _ _ (R2.toLeft rfl) r'
    · rename_i e1 eb
      cases e
      exact ⟨_, F, _, _, R, eb, fun σ' H' F' R' s => q .non H' F' (R'.toLeft rfl) .non⟩
    · cases e
  · cases e
end
section
variable {P : Program} {w : World} {K : PySem.W.Frag} {mg : Str → Option Value} {base : Heap} {T : List Addr}
/-- THE RULE: a def without effects, by its body -/
theorem fn_pure {x qual : Str} {st : Stmt} {f : Addr} {fd : FuncData} {N ps : List Str} {k n : Nat} {b : SF} (F : Fun K x qual st f fd) (S : FnScope N ps (defScope st)) (hn : N.length = n) (hk : ps.length = k)
    (hbody : ∀ (cdv : Value) (A : Around) (outer : List Env) (s : Shared) (H : Hp) (E : XK), Room j (A.deeper (envOfC qual (defScope st) s.heap.objs.size f cdv)) → FSs T (cxOf CX0 P w K mg base N qual (defScope st) f cdv A outer s H E).nox (defBody st) b) :
    FnOk P w K mg base CX0 (j + 1) f fd ps (spP T K (runP n k b)) := by
  subst hn hk
  refine F.ok S (fun vs H Q E h => ?_) (fun cdv A outer s H vs Q E hr h => ?_)
  · obtain ⟨F, qs, d, _, _, r, e, _⟩ := h
    unfold runP at e
    split at e
    · rename_i hk
      rw [r.len]; exact hk.1
    · cases e
  · obtain ⟨F, qs, d, sF, hT, r, e, q⟩ := h
    have hl : qs.length = ps.length := by
      unfold runP at e
      split at e
      · rename_i hk; exact hk.1
      · cases e
    exact ⟨_, hbody cdv A outer s H E hr, ends_of sF hT r (by rw [hl]; exact e) q⟩
/-- the same of a def that changes its first argument -/
def start1 (n : Nat) (d : PV) (ps : List PV) : Ev := .io d :: start0 (n - 1) ps
def runIO (n k : Nat) (b : SF) (d : PV) (ps : List PV) : Option (PV × PV) := if ps.length + 1 = k ∧ k ≤ n then match b (start1 n d ps) with
  | some (.rt r (.io d' :: _)) => some (d', r)
  | some (.rf r (.io d' :: _)) => some (d', r)
  | some (.nx (.io d' :: _)) => some (d', .none)
  | _ => none
  else none
theorem rel_start1 {F H : Hp} {vs : List V} {ps : List PV} {N : List Str} {a : Addr} {d : PV} (sF : Same F H) (hT : ∀ P ∈ T, GxR.TabG H P ∧ F P = none) (hF : F a = none) (ho : Own K F H a d) (r : Reps K F vs ps) (hl : ps.length + 1 ≤ N.length) :
    Rel T K ⟨H, F, [(0, a)], []⟩ F H (L2.start N (.ref a :: vs)) (start1 N.length d ps) := by
  obtain ⟨y, N', rfl⟩ : ∃ y N', N = y :: N' := by
    cases N with
    | nil => simp at hl
    | cons y N' => exact ⟨y, N', rfl⟩
  have R := rel_start (T := T) (K := K) (N := N') sF hT r (by simpa using hl)
  have es : L2.start (y :: N') (.ref a :: vs) = some (.ref a) :: L2.start N' vs := by
    unfold L2.start
    simp
  have ee : start1 (y :: N').length d ps = .io d :: start0 N'.length ps := by
    unfold start1
    simp
  rw [es, ee]
  have noOwns : ∀ i : Nat, ¬ owns (start0 N'.length ps) i := fun i ⟨d', h⟩ => by
    rcases h with h | h
    · obtain ⟨b, _, _, h3, h4⟩ := R.ow i d' h
      obtain ⟨o, h5, _⟩ := h4.at_
      rw [show H b = none from h3] at h5; cases h5
    · obtain ⟨b, h1, _⟩ := R.io i d' h
      cases h1
  refine ⟨by simpa using R.len, sF, Same.refl _, fun a o e => .inl e, fun a o e _ _ => e, R.tab, R.nt, fun i d' e => ?_, fun i d' e => ?_, fun i d' e => ?_, fun i b e => ?_, fun b o e => (by cases e), fun i j b q1 q2 e1 e2 => ?_⟩
  · cases i with
    | zero => cases e
    | succ i => exact R.va i d' e
  · cases i with
    | zero => cases e
    | succ i => exact (noOwns i ⟨d', .inl e⟩).elim
  · cases i with
    | zero => cases e; exact ⟨a, List.mem_singleton.mpr rfl, rfl, hF, ho⟩
    | succ i => exact (noOwns i ⟨d', .inr e⟩).elim
  · cases List.mem_singleton.mp e
    exact ⟨rfl, d, rfl⟩
  · have z : ∀ m : Nat, owns (Sl.io d :: start0 N'.length ps) m → m = 0 := fun m h => by
      cases m with
      | zero => rfl
      | succ m => exact (noOwns m h).elim
    rw [z i q1, z j q2]
theorem Rel.toLeftIO {g : Gh} {F H : Hp} {σ : St} {env : Ev} {a : Addr} (R : Rel T K g F H σ env) (io : g.io = [(0, a)]) : Left T g.H0 H g.F0 F fun b => b = a :=
  ⟨fun b o e n nb => R.keep b o e n (fun i z => by rw [io] at z; cases List.mem_singleton.mp z; exact nb rfl), fun P hP => ⟨R.tab P hP, R.nt P hP⟩, R.f0, R.sub, R.new⟩
theorem Rel.ioEnd {g : Gh} {F H : Hp} {σ : St} {r : Ev} {a : Addr} {d : PV} (R : Rel T K g F H σ (.io d :: r)) (io : g.io = [(0, a)]) : F a = none ∧ Own K F H a d := by
  obtain ⟨b, h1, _, h3, h4⟩ := R.io 0 d rfl
  rw [io] at h1
  cases List.mem_singleton.mp h1
  exact ⟨h3, h4⟩
theorem endsIO_of {b : SF} {N : List Str} {vs : List V} {H F : Hp} {ps : List PV} {a : Addr} {d d' r : PV} {Q : VK} (sF : Same F H) (hT : ∀ P ∈ T, GxR.TabG H P ∧ F P = none) (hF : F a = none) (ho : Own K F H a d) (rr : Reps K F vs ps) (e : runIO N.length (ps.length + 1) b d ps = some (d', r))
    (q : ∀ v H' F', Left T H H' F F' (fun b => b = a) → F' a = none → Own K F' H' a d' → Rep K F' v r → Q v H') : RS T K b { nx := fun _ H' => Q .non H', rt := Q } (L2.start N (.ref a :: vs)) H := by
  unfold runIO at e
  split at e
  · rename_i hk
    have R := rel_start1 (N := N) sF hT hF ho rr hk.2
    split at e
    · rename_i r1 d1 e1 eb
      cases e
      exact ⟨_, F, _, _, R, eb, fun v σ' H' F' R' s r' => q v H' F' (R'.toLeftIO rfl) (R'.ioEnd rfl).1 (R'.ioEnd rfl).2 r'⟩
    · rename_i r1 d1 e1 eb
      cases e
      refine ⟨_, F, _, _, R, eb, fun c σ' H' F' R' s h1 h2 h3 h4 => ?_⟩
      obtain ⟨o, hH, hn, r'⟩ := h4.rep h1
      obtain ⟨R2, s2⟩ := R'.froze h1 hH h2 (R'.notT hH hn) h3
      exact q _ _ _ (R2.toLeftIO rfl) (R2.ioEnd rfl).1 (R2.ioEnd rfl).2 r'
    · rename_i d1 e1 eb
      cases e
      exact ⟨_, F, _, _, R, eb, fun σ' H' F' R' s => q .non H' F' (R'.toLeftIO rfl) (R'.ioEnd rfl).1 (R'.ioEnd rfl).2 .non⟩
    · cases e
  · cases e
/-- THE RULE: a def that changes its first argument, by its body -/
theorem fn_io {x qual : Str} {st : Stmt} {f : Addr} {fd : FuncData} {N ps : List Str} {j k n : Nat} {b : SF} (F : Fun K x qual st f fd) (S : FnScope N ps (defScope st)) (hn : N.length = n) (hk : ps.length = k)
    (hbody : ∀ (cdv : Value) (A : Around) (outer : List Env) (s : Shared) (H : Hp) (E : XK), Room j (A.deeper (envOfC qual (defScope st) s.heap.objs.size f cdv)) → FSs T (cxOf CX0 P w K mg base N qual (defScope st) f cdv A outer s H E).nox (defBody st) b) :
    FnOk P w K mg base CX0 (j + 1) f fd ps (spIO T K (runIO n k b)) := by
  subst hn hk
  refine F.ok S (fun vs H Q E h => ?_) (fun cdv A outer s H vs Q E hr h => ?_)
  · obtain ⟨F, a, vs', qs, d, d', r, rfl, _, _, _, _, rr, e, _⟩ := h
    unfold runIO at e
    split at e
    · rename_i hk
      rw [List.length_cons, rr.len]; exact hk.1
    · cases e
  · obtain ⟨F, a, vs', qs, d, d', r, rfl, sF, hT, hF, ho, rr, e, q⟩ := h
    have hl : qs.length + 1 = ps.length := by
      unfold runIO at e
      split at e
      · rename_i hk; exact hk.1
      · cases e
    exact ⟨_, hbody cdv A outer s H E hr, endsIO_of sF hT hF ho rr (by rw [hl]; exact e) q⟩
end
end Fx

namespace PySem
open Sem (wp)
set_option maxHeartbeats 1000000 in
theorem meets_enumerate_newB1 {v : Value} {o : Obj} {H : Heap → Prop} (B : Begins v o H) :
    Meets (Builtin.«enumerate.__new__» ⟨[.type "enumerate", v], []⟩) (fun _ R s => H s.heap ∧
      R (.ok (.ret (.ref (s.heap.push o).objs.size))) { s with heap := (s.heap.push o).push { cls := .type "enumerate", data := .fields #[.none, .bool false, .ref s.heap.objs.size, rawInt 0, .none, .none] } }) :=
  .of_wp fun prog w A R s h => by
    obtain ⟨hp, g, d, tk, os⟩ := s; obtain ⟨h1, h⟩ := h
    have hsub := sub_enumerate
    have q1 : ∀ {A' : Around} {E : Value → Shared → Prop} {Q : Value → Shared → Prop}, Q (.ref hp.objs.size) ⟨hp.push o, g, d, tk, os⟩ → wpAny (model prog w) A' (pyIter v) Q E ⟨hp, g, d, tk, os⟩ :=
      fun q => B.iter prog w _ _ ⟨hp, g, d, tk, os⟩ _ h1 q
    wp_walk using q1
    refine wpAny_stack_any fun st => wpAny_pure ?_
    split
    · rename_i c _ _ _ _ _
      cases (c == Value.type "enumerate")
      · wp_walk using q1
        exact ⟨_, rfl, h⟩
      · wp_walk using q1
        exact ⟨_, rfl, h⟩
    · wp_walk using q1
      exact ⟨_, rfl, h⟩
theorem enum_begins1 {prog : Program} {w : World} {A : Around} {E : Value → Shared → Prop} {s : Shared} {v : Value} {o : Obj} {H : Heap → Prop} {Q : Value → Shared → Prop} (B : Begins v o H) (h1 : H s.heap)
    (h : ∀ h', IsEnum h' (s.heap.objs.size + 1) s.heap.objs.size 0 .none → h'.get? s.heap.objs.size = some o → h'.objs.size = s.heap.objs.size + 2 →
      (∀ b o, s.heap.get? b = some o → h'.get? b = some o) → Q (.ref (s.heap.objs.size + 1)) { s with heap := h' }) :
    wpAny (model prog w) A (call (.type "enumerate") [v]) Q E s := by
  refine callType_new F.called_enumerate (by decide) (F.typeCall_enumerate_1 _) (F.newCall_enumerate_1 _) (fun obj => F.args_object_init_2 obj _) F.entry_enumerate_new
    (meets_enumerate_newB1 B) ⟨h1, ?_⟩
  have hz : (s.heap.push o).objs.size = s.heap.objs.size + 1 := Heap.size_push ..
  show _ ∧ _
  rw [hz]
  have he : IsEnum ((s.heap.push o).push { cls := .type "enumerate", data := .fields #[.none, .bool false, .ref s.heap.objs.size, rawInt 0, .none, .none] }) (s.heap.objs.size + 1) s.heap.objs.size 0 .none := by
    have := Heap.get?_push_size (s.heap.push o) (o := { cls := .type "enumerate", data := .fields #[.none, .bool false, .ref s.heap.objs.size, rawInt 0, .none, .none] }) rfl
    rw [hz] at this; exact this
  refine ⟨⟨_, he, rfl⟩, h _ he (Heap.get?_push_of_some _ (Heap.get?_push_size _ B.free)) (by rw [Heap.size_push, hz]) fun b o x => Heap.get?_push_of_some _ (Heap.get?_push_of_some _ x)⟩
end PySem
namespace Fx
open PySem PySem.Spec L2
open PyProof.Rows hiding St

def IteT (K : PySem.W.Frag) (a : Addr) (k₀ : Int) : It :=
  ⟨fun i H => ∃ (xs : List V) (x : V), SqT K H a xs ∧ xs[i]? = some x, fun i H v H' => ∃ T x, v = .ref T ∧ H T = none ∧ H' = upd H T (.tup [.int (k₀ + (i : Nat)), x]) ∧ ∀ xs, SqT K H a xs → xs[i]? = some x, fun i H => ∃ xs : List V, SqT K H a xs ∧ xs.length ≤ i⟩
theorem enum_ne {h : Heap} {e a : Addr} {its : Array Value} {it : Addr} {c : Int} {old : Value} (he : IsEnum h e it c old) (p : h.IsTuple a its) : a ≠ e := fun z => by
  obtain ⟨o, ho, hc, _⟩ := p
  rw [z] at ho
  have he' : h.get? e = _ := he
  rw [he'] at ho
  cases ho
  exact absurd (show Value.type "enumerate" = Value.type "tuple" from hc) (by decide)
theorem iter_ne {h : Heap} {a : Addr} {its : Array Value} {it : Addr} {i : Nat} {b : Addr} (he : h.IsTupleIter it b i) (p : h.IsTuple a its) : a ≠ it := fun z => by
  obtain ⟨o, ho, hc, _⟩ := p
  obtain ⟨o2, ho2, hc2, _⟩ := he
  rw [z, ho2] at ho
  cases ho
  rw [hc2] at hc
  exact absurd hc (by decide)
theorem turn_enumT {P : Program} {w : World} {K : PySem.W.Frag} {elts : List Expr} {kk : Nat} {tpos : Pos} (a e it : Addr) (k₀ : Int) :
    Turn P w K (.Tuple elts kk tpos) (IteT K a k₀) [e, it] e (fun i h => (∃ old, IsEnum h e it (k₀ + ((i : Nat) : Int)) old) ∧ h.IsTupleIter it a i ∧ e ≠ it) where
  mem := by simp
  obj := fun i h st b hb => by
    obtain ⟨⟨old, he⟩, ⟨o, ho, hc, hd⟩, _⟩ := st
    have e' : b = e ∨ b = it := by simpa using hb
    rcases e' with z | z
    · rw [z]; exact ⟨_, he, fun v q => nomatch q⟩
    · rw [z]; exact ⟨o, ho, fun v q => by rw [hd] at q; cases q⟩
  keep := fun i h h' st k => let ⟨⟨old, he⟩, hi, hne⟩ := st; ⟨⟨old, k e (by simp) _ he⟩, hi.at fun o q => k it (by simp) o q, hne⟩
  item := by
    intro X hP hw hK hc i pins s σ H E I hf st hg
    subst hP hw hK
    obtain ⟨⟨old, he⟩, hit, hne⟩ := st
    obtain ⟨xs, x, hq, hx⟩ := hg
    obtain ⟨its, rv, p, hz⟩ := I.tuple hq
    replace p : s.heap.IsTuple a its.toArray := p
    obtain ⟨u, hu, ru⟩ := rv.get hx
    have hel : e < s.heap.objs.size := Heap.lt_size he
    have hil : it < s.heap.objs.size := by obtain ⟨_, q, _⟩ := hit; exact Heap.lt_size q
    have hui : its.toArray[i]? = some u := by simpa using hu
    have hlt : i < its.toArray.size := (Array.getElem?_eq_some_iff.mp hui).1
    refine wpAny_pyNext_enum_itemC (c := k₀ + (i : Int)) (Draws.tuple (A := X.A.in1) (I.ok.hd hc) it a (iter_ne hit p) its.toArray) he ⟨hit, p⟩ hlt hne (by simp only [List.mem_cons, List.not_mem_nil, or_false, not_or]; exact ⟨hne, (enum_ne he p).symm⟩) fun x' h' tk hP ho hst hT hsz hk => ?_
    replace hP : its.toArray[i]? = some x' := hP
    rw [hui] at hP
    cases hP
    refine ⟨_, rfl, wpAny_letOwnedTupleGo_enum (s := { s with heap := h', toks := tk + 1 }) ho fun h'' he' sb => ?_⟩
    have hT2 : h''.get? s.heap.objs.size = some { cls := .type "tuple", data := .seq #[.int (k₀ + i) tk, u] } := (sb.2 _ (Nat.ne_of_gt hel)).trans hT
    have new : ObjOk X.prog X.w (upd H s.heap.objs.size (.tup [.int (k₀ + (i : Nat)), x])) h'' s.heap.objs.size (.tup [.int (k₀ + (i : Nat)), x]) :=
      ⟨by show 2 ≤ sizeLine; decide, [.int (k₀ + i) tk, u], .cons ⟨_, rfl⟩ (.cons ru .nil), ⟨_, hT2, rfl, _, rfl⟩⟩
    have I1 : Inv X pins σ (upd H s.heap.objs.size (.tup [.int (k₀ + (i : Nat)), x])) { s with heap := h'', toks := tk + 1 } :=
      I.turnedNew (ch := [e, it]) (fun b ob hb q => (sb.2 b (fun z => hb (by simp [z]))).trans (hk b ob (fun z => hb (by simp [z])) (fun z => hb (by simp [z])) q)) hf (Nat.le_refl _) new
    refine ⟨.ref s.heap.objs.size, _, I1, rfl, ⟨_, x, rfl, I.hok.fresh (Nat.le_refl _), rfl, fun ys hy => by rw [I.tuple_inj hy hq]; exact hx⟩, ⟨⟨u, ?_⟩, hst.1.at fun o q => (sb.2 it (Ne.symm hne)).trans q, hne⟩, fun b hb => ?_⟩
    · have e1 : k₀ + ((i + 1 : Nat) : Int) = k₀ + (i : Int) + 1 := by omega
      rw [e1]; exact he'
    · have hb' : b < s.heap.objs.size := by
        have e' : b = e ∨ b = it := by simpa using hb
        rcases e' with z | z
        · rw [z]; exact hel
        · rw [z]; exact hil
      rw [upd_ne (Nat.ne_of_lt hb')]
      exact (hf b hb).1
  done := by
    intro X hP hw hK hc i pins s σ H E I hf st hg
    subst hP hw hK
    obtain ⟨⟨old, he⟩, hit, hne⟩ := st
    obtain ⟨xs, hq, hx⟩ := hg
    obtain ⟨its, rv, p, hz⟩ := I.tuple hq
    replace p : s.heap.IsTuple a its.toArray := p
    obtain ⟨f0, f1, f2, f3, f4, f5⟩ := hf it (by simp)
    have hl := rv.length
    have hh := I.ok.hd hc
    have D : Draws X.prog X.w X.A.in1 it [it, a] 0 (fun _ _ => True) (fun _ h => h.IsTupleIter it a i ∧ h.IsTuple a its.toArray) :=
      { live := fun _ _ st => let ⟨o, ho, _⟩ := st.1; ⟨o, ho⟩
        frame := fun _ _ _ st hk => ⟨st.1.at fun o e => hk it (by simp) o e, st.2.at fun o e => hk a (by simp) o e⟩
        item := fun j s Q E hj st hQ => absurd hj (Nat.not_lt_zero _)
        done := fun s Q E st hE => wpAny_nextOf_tuple_end (A := X.A.in1) hh st.1 st.2 (by simp; omega) hE }
    exact wpAny_pyNext_enum_endD D he ⟨hit, p⟩ fun h' eb => ⟨rfl, I.turned (t' := s.toks) (fun b o hb e => eb b o hb e) f0 f1 f3 f4 f5⟩
  self := fun A i s Q E st h => let ⟨⟨_, he⟩, _⟩ := st; wpAny_pyIter_enum he h
def iEnumA (K : PySem.W.Frag) (ta : TA) : TI := fun σ H R => ta σ H fun vs H1 => ∃ a xs, vs = [.ref a] ∧ ((SqL K H1 a xs ∧ R (Ite K a) H1) ∨ (SqT K H1 a xs ∧ R (IteT K a 0) H1))
theorem pi_enumA {X : Cx} {e : Expr} {ta : TA} {p pos tpos : Pos} {elts : List Expr} {kk : Nat} (hg : Gl X "enumerate") (hm : X.mg "enumerate" = none) (ha : PA X [e] ta) (hs : starEach [e] X.env = [(false, eval e X.env)] := by rfl) :
    PI X (.Tuple elts kk tpos) (.Call (.Name "enumerate" p) [e] [] pos) (iEnumA X.K ta) := by
  refine ⟨fun pins s σ H R I h => ?_⟩
  refine Call_ (ld_blt I hg hm PyProof.Rows.boot_enumerate (PyProof.Rows.callWith_type1 (thn (ha.run pos pins s σ H _ I h) fun us s1 ⟨vs, H1, I1, r1, q1⟩ => ?_) hs rfl))
  obtain ⟨a, xs, ex, hq⟩ := q1
  subst ex
  cases r1 with
  | cons r rr =>
    cases rr
    cases r
    have fp : ∀ b ∈ [s1.heap.objs.size + 1, s1.heap.objs.size], FpOk X pins H1 b := fun b hb => by
      have e' : b = s1.heap.objs.size + 1 ∨ b = s1.heap.objs.size := by simpa using hb
      have hle : s1.heap.objs.size ≤ b := by
        rcases e' with z | z
        · rw [z]; exact Nat.le_add_right _ _
        · rw [z]; exact Nat.le_refl _
      exact I1.fpOk hle (I1.hok.fresh hle)
    rcases hq with ⟨hq, q⟩ | ⟨hq, q⟩
    · obtain ⟨its, rv, p', hz⟩ := I1.list hq
      refine call_enumerate_list p'.isList fun h' he hit hsz hk => wpAny_pyIter_enum he ?_
      have I2 : Inv X pins σ H1 { s1 with heap := h' } := I1.kept (t' := s1.toks) hk
      exact ⟨s1.heap.objs.size + 1, [s1.heap.objs.size + 1, s1.heap.objs.size], _, _, H1, rfl, I2, turn_enum a (s1.heap.objs.size + 1) s1.heap.objs.size, ⟨⟨.none, he⟩, hit, Nat.succ_ne_self _⟩, fp, q⟩
    · obtain ⟨its, rv, p', hz⟩ := I1.tuple hq
      refine enum_begins1 (begins_tuple a its.toArray) p' fun h' he hit hsz hk => wpAny_pyIter_enum he ?_
      have I2 : Inv X pins σ H1 { s1 with heap := h' } := I1.kept (t' := s1.toks) hk
      exact ⟨s1.heap.objs.size + 1, [s1.heap.objs.size + 1, s1.heap.objs.size], _, _, H1, rfl, I2, turn_enumT a (s1.heap.objs.size + 1) s1.heap.objs.size 0, ⟨⟨.none, by rw [show (0 : Int) + ((0 : Nat) : Int) = 0 from rfl]; exact he⟩, ⟨_, hit, rfl, rfl⟩, Nat.succ_ne_self _⟩, fp, q⟩
section
variable {T : List Addr} {X : Cx}
theorem yields_enumT {K : PySem.W.Frag} {F : Hp} {a : Addr} {xs : List V} {ds : List PV} {k₀ : Int} (h : SqT K F a xs) (r : Reps K F xs ds) : Yields T K (IteT K a k₀) (enumL k₀ ds) F := fun g i F' H σ env R s => by
  have hH : SqT K H a xs := SqT.mono R.sub (SqT.mono s h)
  rw [enumL_get]
  refine ⟨fun d hd => ?_, fun hn => ?_⟩
  · cases hx : ds[i]? with
    | none => rw [hx] at hd; cases hd
    | some d0 =>
      rw [hx] at hd
      cases hd
      obtain ⟨v, hv, rv⟩ := r.get hx
      refine ⟨⟨xs, v, hH, hv⟩, fun x H' hy => ?_⟩
      obtain ⟨t, y, rfl, hT, rfl, hy⟩ := hy
      have := hy xs hH
      rw [hv] at this; cases this
      obtain ⟨R2, s2⟩ := R.laidF (o := .tup [.int (k₀ + (i : Nat)), v]) hT
      exact ⟨_, R2, s2, .tup upd_same (.cons (.int _) (.cons (rv.mono (s.trans s2)) .nil))⟩
  · cases hx : ds[i]? with
    | none => exact ⟨xs, hH, by rw [r.len]; exact List.getElem?_eq_none_iff.mp hx⟩
    | some d0 => rw [hx] at hn; cases hn
def wEnumA (f : EF) : AF := fun env => match f env with
  | some (.list xs, e) => some (enumL 0 xs, e)
  | some (.tuple xs, e) => some (enumL 0 xs, e)
  | _ => none
/-- enumerate(list or tuple) -/
theorem fi_enumA {a : Expr} {elts : List Expr} {kk : Nat} {tpos p pos : Pos} {f : EF} (hg : Gl X "enumerate") (hm : X.mg "enumerate" = none) (ha : FE T X a f) (hs : starEach [a] X.env = [(false, eval a X.env)] := by rfl) : FI T X (.Tuple elts kk tpos) (.Call (.Name "enumerate" p) [a] [] pos) (wEnumA f) :=
  (pi_enumA hg hm (pa_cons ha pa_nil hs) hs).weak fun σ H Q ⟨gh, F, env, ds, env', R, e, q⟩ => by
    unfold wEnumA at e
    split at e
    · rename_i xs e1 ef
      cases e
      refine ⟨gh, F, env, _, _, R, ef, fun v H1 F1 R1 s1 r1 => ?_⟩
      cases r1 with
      | lst h rr => exact ⟨_, _, rfl, .inl ⟨.inl (.inl (R1.sub _ _ h)), q _ _ _ R1 s1 (yields_enum h rr)⟩⟩
    · rename_i xs e1 ef
      cases e
      refine ⟨gh, F, env, _, _, R, ef, fun v H1 F1 R1 s1 r1 => ?_⟩
      cases r1 with
      | tup h rr => exact ⟨_, _, rfl, .inr ⟨SqT.mono R1.sub (sqT h), q _ _ _ R1 s1 (yields_enumT (sqT h) rr)⟩⟩
    · cases e

def wRevA (f : EF) : AF := fun env => match f env with
  | some (.list xs, e) => some (xs.reverse, e)
  | some (.tuple xs, e) => some (xs.reverse, e)
  | _ => none
theorem yields_revT {K : PySem.W.Frag} {F : Hp} {a : Addr} {xs : List V} {ds : List PV} (h : SqT K F a xs) (r : Reps K F xs ds) : Yields T K (RT.ItvT K a xs.length) ds.reverse F := fun g i F' H σ env R s => by
  have hH : SqT K H a xs := SqT.mono R.sub (SqT.mono s h)
  have hl := r.len
  by_cases hi : i < ds.length
  · have e1 : ds.reverse[i]? = ds[ds.length - 1 - i]? := List.getElem?_reverse hi
    rw [e1]
    refine ⟨fun d hd => ?_, fun hn => ?_⟩
    · obtain ⟨v, hv, rv⟩ := r.get hd
      rw [← hl] at hv
      refine ⟨⟨by omega, xs, v, hH, hv⟩, fun x H' hy => ?_⟩
      obtain ⟨rfl, hy⟩ := hy
      have := hy xs hH
      rw [hv] at this; cases this
      exact ⟨F', R, Same.refl _, rv.mono s⟩
    · have := List.getElem?_eq_none_iff.mp hn
      omega
  · have e1 : ds.reverse[i]? = none := List.getElem?_eq_none_iff.mpr (by rw [List.length_reverse]; omega)
    rw [e1]
    exact ⟨fun d hd => (by cases hd), fun _ => (by show xs.length ≤ i; omega)⟩
theorem fi_revA {tg a : Expr} {p pos : Pos} {f : EF} (hg : Gl X "reversed") (hm : X.mg "reversed" = none) (ha : FE T X a f) (hs : starEach [a] X.env = (false, eval a X.env) :: starEach [] X.env := by rfl) : FI T X tg (.Call (.Name "reversed" p) [a] [] pos) (wRevA f) :=
  (RT.pi_revA hg hm ha hs).weak fun σ H Q ⟨gh, F, env, ds, env', R, e, q⟩ => by
    unfold wRevA at e
    split at e
    · rename_i xs e1 ef
      cases e
      refine ⟨gh, F, env, _, _, R, ef, fun v H1 F1 R1 s1 r1 => ?_⟩
      cases r1 with
      | lst h rr => exact ⟨_, _, rfl, .inl ⟨.inl (.inl (R1.sub _ _ h)), q _ _ _ R1 s1 (yields_rev h rr)⟩⟩
    · rename_i xs e1 ef
      cases e
      refine ⟨gh, F, env, _, _, R, ef, fun v H1 F1 R1 s1 r1 => ?_⟩
      cases r1 with
      | tup h rr => exact ⟨_, _, rfl, .inr ⟨SqT.mono R1.sub (sqT h), q _ _ _ R1 s1 (yields_revT (sqT h) rr)⟩⟩
    · cases e
def tRv (f : EF) : EF := fun env => match f env with
  | some (.list xs, e) => some (.tuple xs.reverse, e)
  | _ => none
theorem fe_tupRev {a : Expr} {p p2 pos pos2 : Pos} {f : EF} (hc : X.calm = true) (hg : Gl X "tuple") (hm : X.mg "tuple" = none) (hg2 : Gl X "reversed") (hm2 : X.mg "reversed" = none) (ha : FE T X a f)
    (hs : starEach [a] X.env = (false, eval a X.env) :: starEach [] X.env := by rfl)
    (hs2 : starEach [.Call (.Name "reversed" p2) [a] [] pos2] X.env = (false, eval (.Call (.Name "reversed" p2) [a] [] pos2) X.env) :: starEach [] X.env := by rfl) :
    FE T X (.Call (.Name "tuple" p) [.Call (.Name "reversed" p2) [a] [] pos2] [] pos) (tRv f) :=
  (RT.pe_tupRev hc hg hm hg2 hm2 ha hs hs2).weak fun σ H Q ⟨gh, F, env, d, env', R, e, q⟩ => by
    unfold tRv at e
    split at e
    · rename_i xs e1 ef
      cases e
      refine ⟨gh, F, env, _, _, R, ef, fun v H1 F1 R1 s1 r1 => ?_⟩
      cases r1 with
      | lst h rr =>
        refine ⟨_, _, rfl, .inl (.inl (R1.sub _ _ h)), fun p hp => ?_⟩
        obtain ⟨R2, s2⟩ := R1.laidF (o := .tup _) hp
        exact q _ _ _ R2 (s1.trans s2) (.tup upd_same (rr.reverse.mono s2))
    · cases e

def aStar (f : EF) (h : AF) : AF := fun env => match f env with
  | some (.list xs, e) => (match h e with
    | none => none
    | some (ds, e2) => some (xs ++ ds, e2))
  | some (.tuple xs, e) => (match h e with
    | none => none
    | some (ds, e2) => some (xs ++ ds, e2))
  | _ => none
theorem fa_star {e : Expr} {es : List Expr} {p : Pos} {f : EF} {h : AF} (ha : FE T X e f) (hb : FA T X es h) (hst : starEach (.Starred e p :: es) X.env = (true, eval e X.env) :: starEach es X.env := by rfl) : FA T X (.Starred e p :: es) (aStar f h) :=
  (StX.pa_star ha hb hst).weak fun σ H Q ⟨gh, F, env, ds, env', R, e, q⟩ => by
    unfold aStar at e
    split at e
    · rename_i xs e1 ef
      split at e
      · cases e
      · rename_i ds2 e2 eh
        cases e
        refine ⟨gh, F, env, _, _, R, ef, fun v H1 F1 R1 s1 r1 => ?_⟩
        cases r1 with
        | lst hl rr => exact ⟨_, _, rfl, .inr (.inl (.inl (R1.sub _ _ hl))), gh, F1, _, _, _, R1, eh, fun vs H2 F2 R2 s2 r2 => q _ _ _ R2 (s1.trans s2) ((rr.mono s2).append r2)⟩
    · rename_i xs e1 ef
      split at e
      · cases e
      · rename_i ds2 e2 eh
        cases e
        refine ⟨gh, F, env, _, _, R, ef, fun v H1 F1 R1 s1 r1 => ?_⟩
        cases r1 with
        | tup hl rr => exact ⟨_, _, rfl, .inl (SqT.mono R1.sub (sqT hl)), gh, F1, _, _, _, R1, eh, fun vs H2 F2 R2 s2 r2 => q _ _ _ R2 (s1.trans s2) ((rr.mono s2).append r2)⟩
    · cases e
end
end Fx

namespace Fx
open PySem PySem.Spec L2
open PyProof.Rows hiding St
def keyOf : PV → Option Key
  | .int i => some (.inl i)
  | .str x => some (.inr x)
  | _ => none
def isK (k : Key) (d : PV) : Bool := match k, d with
  | .inl i, .int j => decide (i = j)
  | .inr x, .str y => decide (x = y)
  | _, _ => false
def dVal (k : Key) : List (PV × PV) → Option PV
  | [] => none
  | (d, v) :: r => if isK k d then some v else dVal k r
def dAny (k : Key) : List (PV × PV) → Bool
  | [] => false
  | (d, _) :: r => isK k d || dAny k r
def dMap (k : Key) (v : PV) : List (PV × PV) → List (PV × PV)
  | [] => []
  | (d, x) :: r => (if isK k d then (d, v) else (d, x)) :: dMap k v r
def dPut (k : Key) (v : PV) (ds : List (PV × PV)) : List (PV × PV) := if dAny k ds then dMap k v ds else ds ++ [(kD k, v)]
def plainD : List (PV × PV) → Bool
  | (.none, _) :: _ => false
  | (.bool _, _) :: _ => false
  | _ => true
theorem isK_kD {k j : Key} : isK k (kD j) = decide (j = k) := by
  cases k with
  | inl i => cases j with
    | inl a =>
      show decide (i = a) = _
      by_cases h : i = a
      · subst h; simp
      · rw [decide_eq_false h, decide_eq_false (fun z => h (Sum.inl.inj z).symm)]
    | inr b => exact (decide_eq_false (fun z => nomatch z)).symm
  | inr x => cases j with
    | inl a => exact (decide_eq_false (fun z => nomatch z)).symm
    | inr b =>
      show decide (x = b) = _
      by_cases h : x = b
      · subst h; simp
      · rw [decide_eq_false h, decide_eq_false (fun z => h (Sum.inr.inj z).symm)]
section
variable {K : PySem.W.Frag} {F F' H : Hp} {k : Key}
theorem RepK.any : ∀ {kvs : List (Key × V)} {ds : List (PV × PV)}, RepK K F kvs ds → dAny k ds = kvs.any fun kv => decide (kv.1 = k)
  | _, _, .nil => rfl
  | _, _, .cons r t => by
    unfold dAny
    rw [List.any_cons, isK_kD, RepK.any t]
theorem RepK.val : ∀ {kvs : List (Key × V)} {ds : List (PV × PV)}, RepK K F kvs ds → (∀ d, dVal k ds = some d → ∃ v, valV kvs k = some v ∧ Rep K F v d) ∧ (dVal k ds = none → valV kvs k = none)
  | _, _, .nil => ⟨fun d e => (by cases e), fun _ => rfl⟩
  | _, _, .cons (k := j) (v := v) r t => by
    unfold dVal
    rw [isK_kD]
    by_cases h : j = k
    · rw [if_pos (decide_eq_true h), valV_pos (p := (j, v)) h]
      exact ⟨fun d e => (by cases e; exact ⟨_, rfl, r⟩), fun e => (by cases e)⟩
    · rw [if_neg (by simpa using h), valV_neg (p := (j, v)) h]
      exact RepK.val t
theorem RepK.map {v : V} {d : PV} (rv : Rep K F v d) : ∀ {kvs : List (Key × V)} {ds : List (PV × PV)}, RepK K F kvs ds → RepK K F (kvs.map fun kv => if kv.1 = k then (kv.1, v) else kv) (dMap k d ds)
  | _, _, .nil => .nil
  | _, _, .cons (k := j) (v := w) r t => by
    unfold dMap
    rw [isK_kD, List.map_cons]
    by_cases h : j = k
    · simp only [h, if_true, decide_true]
      exact .cons rv (RepK.map rv t)
    · simp only [h, if_false, decide_false, Bool.false_eq_true]
      exact .cons r (RepK.map rv t)
theorem RepK.snoc {v : V} {d : PV} (rv : Rep K F v d) : ∀ {kvs : List (Key × V)} {ds : List (PV × PV)}, RepK K F kvs ds → RepK K F (kvs ++ [(k, v)]) (ds ++ [(kD k, d)])
  | _, _, .nil => .cons rv .nil
  | _, _, .cons r t => .cons r (RepK.snoc rv t)
theorem RepK.put {v : V} {d : PV} (rv : Rep K F v d) {kvs : List (Key × V)} {ds : List (PV × PV)} (r : RepK K F kvs ds) : RepK K F (putK kvs k v) (dPut k d ds) := by
  unfold putK dPut
  rw [r.any]
  split
  · exact RepK.map rv r
  · exact RepK.snoc rv r
theorem RepK.len : ∀ {kvs : List (Key × V)} {ds : List (PV × PV)}, RepK K F kvs ds → kvs.length = ds.length
  | _, _, .nil => rfl
  | _, _, .cons _ t => by simp [RepK.len t]
theorem Rep.key {y : V} {d : PV} (r : Rep K F y d) (h : keyOf d = some k) : y = kV k := by
  cases r <;> cases h <;> rfl
theorem Own.isDk {a : Addr} {ds : List (PV × PV)} (ho : Own K F H a (.dict ds)) (h : plainD ds = true) : ∃ kvs, H a = some (.dK kvs) ∧ RepK K F kvs ds := by
  cases ho with
  | dk h r => exact ⟨_, h, r⟩
  | dt h' r => cases h
theorem Read.dk {v : V} {ds : List (PV × PV)} (s : Same F H) (h : Read K F H v (.dict ds)) (hp : plainD ds = true) : ∃ a kvs, v = .ref a ∧ H a = some (.dK kvs) ∧ RepK K F kvs ds := by
  cases h with
  | val r => cases r with
    | dk h r => exact ⟨_, _, rfl, s _ _ h, r⟩
    | dt h r => cases hp
    | lk h r => cases hp
  | own r =>
    obtain ⟨kvs, h1, h2⟩ := r.isDk hp
    exact ⟨_, _, rfl, h1, h2⟩
end
section
variable {T : List Addr} {X : Cx}
/-- {} -/
def eDk : EF := fun env => some (.dict [], env)
theorem fn_dk {pos : Pos} : FN T X (.Dict [] [] pos) eDk := pe_dnewK.weak fun σ H Q ⟨gh, F, env, d, env', R, e, q⟩ => by
  cases e
  intro p hp
  obtain ⟨h0, nT, hF⟩ := R.fresh hp
  exact q p _ F (R.laid hp) (Same.refl _) hF h0 (R.own_ne hp) (.dk upd_same .nil)
def putIx (i : Nat) (fk fe : EF) : SF := fun env => match fe env with
  | none => none
  | some (d, e) => match Fx.mine e i with
    | none => none
    | some _ => match fk e with
      | none => none
      | some (y, e2) => match keyOf y with
        | none => none
        | some k => match Fx.mine e2 i with
          | some (.dict ds) => if plainD ds = true ∧ ds.length < sizeLine then some (.nx (putM e2 i (.dict (dPut k d ds)))) else none
          | _ => none
/-- d[k] = e, d a dict of its own at slot i -/
theorem fs_putIx (i : Nat) {x : Str} {px tpos pos : Pos} {b a : Expr} {fk fe : EF} (hu : X.A.units + 1 < cLine) (hb : FE T X b fk) (ha : FE T X a fe) (hN : X.N[i]? = some x := by rfl) (hv : Vis X.env.scope x := by first | exact Or.inl rfl | exact Or.inr (Or.inl rfl) | exact Or.inr (Or.inr rfl))
    (hd : (x == ("__debug__" : Str)) = false := by decide) (hcd : (x == ("__classdict__" : Str)) = false := by decide) (hs : swapsWith a (some (.Subscript (.Name x px) b tpos)) pos.line X.env = pure false := by rfl) :
    FS T X (.Assign [.Subscript (.Name x px) b tpos] a pos) (putIx i fk fe) :=
  (ps_dput hu (pe_var hN hv hd hcd) hb ha hs).weak fun D σ H ⟨gh, F, env, out, R, e, q⟩ => by
    unfold putIx at e
    split at e
    · cases e
    · rename_i d e1 ef
      refine ⟨gh, F, env, _, _, R, ef, fun v H1 F1 R1 s1 r1 => ?_⟩
      split at e
      · cases e
      · rename_i d0 h0
        obtain ⟨p, ep, _, ho, _⟩ := R1.mine h0
        refine ⟨.ref p, ep, ?_⟩
        split at e
        · cases e
        · rename_i y e2 ek
          refine ⟨gh, F1, _, _, _, R1, ek, fun y' H2 F2 R2 s2 r2 => ?_⟩
          split at e
          · cases e
          · rename_i k hk
            split at e
            · rename_i ds h2
              split at e
              · rename_i hpl
                cases e
                obtain ⟨p', ep', hF1, ho1, upd1⟩ := R2.mine h2
                rw [ep] at ep'; cases ep'
                obtain ⟨kvs, hx, rr⟩ := ho1.isDk hpl.1
                obtain rfl := r2.key hk
                refine ⟨p, _, rfl, DPut.k hx (by rw [rr.len]; exact hpl.2), ?_⟩
                exact q _ _ F2 (upd1 _ _ (.dk upd_same (RepK.put (r1.mono s2) rr))) (s1.trans s2)
              · cases e
            · cases e
def dIx (i : Nat) (fb : EF) : EF := fun env => match Fx.cont env i with
  | none => none
  | some _ => match fb env with
    | none => none
    | some (y, e) => match keyOf y with
      | none => none
      | some k => match Fx.cont e i with
        | some (.dict ds) => if plainD ds = true then (match dVal k ds with
            | none => none
            | some r => some (r, e)) else none
        | _ => none
/-- d[k], d at slot i -/
theorem fe_dIx (i : Nat) {x : Str} {px pos : Pos} {b : Expr} {fb : EF} (hu : X.A.units + 1 < cLine) (hb : FE T X b fb) (hN : X.N[i]? = some x := by rfl) (hv : Vis X.env.scope x := by first | exact Or.inl rfl | exact Or.inr (Or.inl rfl) | exact Or.inr (Or.inr rfl)) (hs : NoSl b := by exact fun _ _ => rfl)
    (hd : (x == ("__debug__" : Str)) = false := by decide) (hcd : (x == ("__classdict__" : Str)) = false := by decide) : FE T X (.Subscript (.Name x px) b pos) (dIx i fb) :=
  (pe_dget hu (pe_var hN hv hd hcd) hb hs).weak fun σ H Q ⟨gh, F, env, d, env', R, e, q⟩ => by
    unfold dIx at e
    split at e
    · cases e
    · rename_i d0 h0
      obtain ⟨v, ev, _⟩ := R.cont h0
      refine ⟨v, ev, ?_⟩
      split at e
      · cases e
      · rename_i y e1 eb
        refine ⟨gh, F, env, _, _, R, eb, fun y' H1 F1 R1 s1 rb => ?_⟩
        split at e
        · cases e
        · rename_i k hk
          split at e
          · rename_i ds h1
            split at e
            · rename_i hp
              split at e
              · cases e
              · rename_i r er
                cases e
                obtain ⟨v', ev', rd⟩ := R1.cont h1
                rw [ev] at ev'
                cases ev'
                obtain ⟨a, kvs, rfl, hl, rr⟩ := rd.dk R1.sub hp
                obtain ⟨w, e2, r2⟩ := rr.val.1 _ er
                obtain rfl := rb.key hk
                exact ⟨a, w, rfl, by rw [← e2]; exact DGet.k hl, q _ _ _ R1 s1 r2⟩
            · cases e
          · cases e
def dIn (g : Bool → Bool) (i : Nat) (fb : EF) : EF := fun env => match fb env with
  | none => none
  | some (y, e) => match keyOf y with
    | none => none
    | some k => match Fx.cont e i with
      | some (.dict ds) => if plainD ds = true then some (.bool (g (dVal k ds).isSome), e) else none
      | _ => none
theorem dIn_run {i : Nat} {g : Bool → Bool} {fb : EF} {K : PySem.W.Frag} {σ : St} {H : Hp} {Q : VK} (h : RE T K (dIn g i fb) σ H Q) : RE T K fb σ H fun y H1 => tVar i σ H1 fun x H2 => ∃ a o, x = .ref a ∧ DGet H2 a y o ∧ Q (.bl (g o.isSome)) H2 := by
  obtain ⟨gh, F, env, d, env', R, e, q⟩ := h
  unfold dIn at e
  split at e
  · cases e
  · rename_i y e1 eb
    refine ⟨gh, F, env, _, _, R, eb, fun y' H1 F1 R1 s1 rb => ?_⟩
    split at e
    · cases e
    · rename_i k hk
      split at e
      · rename_i ds h1
        split at e
        · rename_i hp
          cases e
          obtain ⟨v', ev', rd⟩ := R1.cont h1
          obtain ⟨a, kvs, rfl, hl, rr⟩ := rd.dk R1.sub hp
          obtain rfl := rb.key hk
          refine ⟨_, ev', a, valV kvs k, rfl, DGet.k hl, ?_⟩
          have e3 : (valV kvs k).isSome = (dVal k ds).isSome := by
            cases hv : dVal k ds with
            | none => rw [rr.val.2 hv]; rfl
            | some r =>
              obtain ⟨w, e2, _⟩ := rr.val.1 _ hv
              rw [e2]; rfl
          rw [e3]
          exact q _ _ _ R1 s1 (.bl _)
        · cases e
      · cases e
theorem fe_dIn (i : Nat) {x : Str} {px pos : Pos} {b : Expr} {fb : EF} (hu : X.A.units + 1 < cLine) (hb : FE T X b fb) (hN : X.N[i]? = some x := by rfl) (hv : Vis X.env.scope x := by first | exact Or.inl rfl | exact Or.inr (Or.inl rfl) | exact Or.inr (Or.inr rfl))
    (hd : (x == ("__debug__" : Str)) = false := by decide) (hcd : (x == ("__classdict__" : Str)) = false := by decide) (h1 : behindInMarks .In (.Name x px) = false := by rfl) : FE T X (.Compare b [.In] [.Name x px] pos) (dIn id i fb) :=
  (pe_cmp (pc_din hu hb (pe_var hN hv hd hcd)) h1).weak fun σ H Q h => dIn_run h
theorem fe_dNotIn (i : Nat) {x : Str} {px pos : Pos} {b : Expr} {fb : EF} (hu : X.A.units + 1 < cLine) (hb : FE T X b fb) (hN : X.N[i]? = some x := by rfl) (hv : Vis X.env.scope x := by first | exact Or.inl rfl | exact Or.inr (Or.inl rfl) | exact Or.inr (Or.inr rfl))
    (hd : (x == ("__debug__" : Str)) = false := by decide) (hcd : (x == ("__classdict__" : Str)) = false := by decide) (h1 : behindInMarks .NotIn (.Name x px) = false := by rfl) : FE T X (.Compare b [.NotIn] [.Name x px] pos) (dIn not i fb) :=
  (pe_cmp (pc_dnotin hu hb (pe_var hN hv hd hcd)) h1).weak fun σ H Q h => dIn_run h
theorem ft_dIn (i : Nat) {x : Str} {px pos : Pos} {b : Expr} {fb : EF} (hu : X.A.units + 1 < cLine) (hb : FE T X b fb) (hN : X.N[i]? = some x := by rfl) (hv : Vis X.env.scope x := by first | exact Or.inl rfl | exact Or.inr (Or.inl rfl) | exact Or.inr (Or.inr rfl))
    (hd : (x == ("__debug__" : Str)) = false := by decide) (hcd : (x == ("__classdict__" : Str)) = false := by decide) (h1 : behindInMarks .In (.Name x px) = false := by rfl) : FT T X (.Compare b [.In] [.Name x px] pos) (tB' (dIn id i fb)) :=
  (pt_cmp (pc_din hu hb (pe_var hN hv hd hcd)) h1).weak fun σ H Q h => rt_b σ H Q h |> fun z => dIn_run z
theorem ft_dNotIn (i : Nat) {x : Str} {px pos : Pos} {b : Expr} {fb : EF} (hu : X.A.units + 1 < cLine) (hb : FE T X b fb) (hN : X.N[i]? = some x := by rfl) (hv : Vis X.env.scope x := by first | exact Or.inl rfl | exact Or.inr (Or.inl rfl) | exact Or.inr (Or.inr rfl))
    (hd : (x == ("__debug__" : Str)) = false := by decide) (hcd : (x == ("__classdict__" : Str)) = false := by decide) (h1 : behindInMarks .NotIn (.Name x px) = false := by rfl) : FT T X (.Compare b [.NotIn] [.Name x px] pos) (tB' (dIn not i fb)) :=
  (pt_cmp (pc_dnotin hu hb (pe_var hN hv hd hcd)) h1).weak fun σ H Q h => rt_b σ H Q h |> fun z => dIn_run z
end
end Fx

namespace Fx
open PySem PySem.Spec L2
open PyProof.Rows hiding St
def ioF (e : Ev) (vs : List Nat) : Bool := vs.all fun i => match e[i]? with | some (.io _) => false | _ => true
def coF2 (vs vs1 : List Nat) (bi : BF) (t : TF) (w1 : AF) (bi1 : BF) (t1 : TF) (f : EF) : List PV → List PV → Ev → Option (List PV × Ev)
  | [], acc, env => some (acc, env)
  | d :: ds, acc, env => match bi d env with
    | none => none
    | some e => match t e with
      | none => none
      | some (false, e2) => coF2 vs vs1 bi t w1 bi1 t1 f ds acc (wipeE e2 vs)
      | some (true, e2) => match w1 e2 with
        | none => none
        | some (ds1, e3) => match coF vs1 bi1 t1 f ds1 acc (wipeE e3 vs1) with
          | none => none
          | some (acc2, e4) => coF2 vs vs1 bi t w1 bi1 t1 f ds acc2 (wipeE e4 vs)
def eLc2 (vs vs1 : List Nat) (w : AF) (bi : BF) (t : TF) (w1 : AF) (bi1 : BF) (t1 : TF) (f : EF) : EF := fun env => match w env with
  | none => none
  | some (ds, e) => if ioF e vs = true then match coF2 vs vs1 bi t w1 bi1 t1 f ds [] (wipeE e vs) with
      | none => none
      | some (acc, e2) => some (.list acc, wipeE e2 vs)
    else none
theorem wipe_wipe {σ : St} {vs : List Nat} : L2.wipe (L2.wipe σ vs) vs = L2.wipe σ vs := by
  apply List.ext_getElem?
  intro j
  rw [wipe_get, wipe_get, wipe_length]
  split <;> rfl
theorem wipe_sub {σ : St} {vs vs1 : List Nat} (h : ∀ i ∈ vs1, i ∈ vs) : L2.wipe (L2.wipe σ vs1) vs = L2.wipe σ vs := by
  apply List.ext_getElem?
  intro j
  rw [wipe_get, wipe_get, wipe_length, wipe_get]
  by_cases hj : j ∈ vs ∧ j < σ.length
  · rw [if_pos hj, if_pos hj]
  · rw [if_neg hj, if_neg hj, if_neg (fun z => hj ⟨h j z.1, z.2⟩)]
section
variable {T : List Addr} {X : Cx}
/-- the inner turns -/
theorem inner_lc {K : PySem.W.Frag} {vs1 ts1 : List Nat} {bi1 : BF} {t1 : TF} {f : EF} (hts1 : ∀ i ∈ ts1, i ∈ vs1) {gh : Gh} {D : Addr} {F2 : Hp} {σ2 : St} {J1 : It} {ds1 : List PV} {Nx : Hp → Prop} {acc accI : List PV} {xs : List V} {e3 eI : Ev} {H4 : Hp} (hD0 : gh.H0 D = none)
    (al2 : ∀ o, (D, o) ∉ gh.tmp) (nio : ∀ i ∈ vs1, ∀ a, (i, a) ∉ gh.io) (R4 : Rel T K (gh.pin D (.lst xs)) F2 H4 σ2 e3) (rr : Reps K F2 xs acc)
    (Y1 : Yields T K J1 ds1 F2) (ec : coF vs1 bi1 t1 f ds1 acc (wipeE e3 vs1) = some (accI, eI))
    (hN : ∀ H F' xs', Rel T K gh F' H (L2.wipe σ2 vs1) eI → Same F2 F' → H D = some (.lst xs') → F' D = none → Alone gh eI (L2.wipe σ2 vs1) D → Reps K F' xs' accI → Nx H) :
    ∃ W1 : Nat → Nat → Hp → Prop, (∃ m, W1 0 m H4) ∧ ∀ j k H, W1 j k H →
      (J1.stop j H ∧ Nx H) ∨ (J1.go j H ∧ ∃ Nx1 : Hp → Prop, (∀ H', Nx1 H' → ∃ k', k' < k ∧ W1 (j + 1) k' H') ∧ ∀ x H', J1.yld j H x H' → RB T K ts1 bi1 x (L2.wipe σ2 vs1) H' fun σ3 H5 => L2.wipe σ3 vs1 = L2.wipe σ2 vs1 ∧ RT T K t1 σ3 H5 fun b H6 =>
        if b = true then RE T K f σ3 H6 fun y H7 => ∃ acc, H7 D = some (.lst acc) ∧ acc.length < sizeLine ∧ Nx1 (upd H7 D (.lst (acc ++ [y]))) else Nx1 H6) := by
  obtain ⟨R4', hD4, hF4, al4⟩ := R4.unpin al2
  have R5 := R4'.wipe nio
  have al5 : Alone gh (wipeE e3 vs1) (L2.wipe σ2 vs1) D := ⟨fun i hi => by
    rw [wipe_out (wipeE_owns hi).2]
    exact al4.1 i (wipeE_owns hi).1, al4.2⟩
  refine ⟨fun j k H => k = ds1.length - j ∧ ∃ F' env' acc' xs, Rel T K gh F' H (L2.wipe σ2 vs1) env' ∧ Same F2 F' ∧ H D = some (.lst xs) ∧ F' D = none ∧ Alone gh env' (L2.wipe σ2 vs1) D ∧ Reps K F' xs acc' ∧ coF vs1 bi1 t1 f (ds1.drop j) acc' env' = some (accI, eI),
    ⟨_, rfl, F2, _, _, _, R5, Same.refl _, hD4, hF4, al5, rr, by simpa using ec⟩, ?_⟩
  rintro j k H ⟨rfl, F5, env5, acc5, xs5, R5, s5, hx, hF5, al5, rr5, e'⟩
  have R5p : Rel T K (gh.pin D (.lst xs5)) F5 H (L2.wipe σ2 vs1) env5 := R5.pin hx hF5 (fun ps z => nomatch z) al5
  obtain ⟨yi, yn⟩ := Y1 (gh.pin D (.lst xs5)) j F5 H _ env5 R5p s5
  cases hd : ds1[j]? with
  | none =>
    have hl : ds1.length ≤ j := List.getElem?_eq_none_iff.mp hd
    rw [List.drop_of_length_le hl] at e'
    injection e' with e'
    injection e' with ea eb
    subst ea; subst eb
    exact .inl ⟨yn hd, hN H F5 xs5 R5 s5 hx hF5 al5 rr5⟩
  | some d =>
    obtain ⟨hgo, hy⟩ := yi d hd
    have hl : j < ds1.length := (List.getElem?_eq_some_iff.mp hd).1
    have ed : ds1.drop j = d :: ds1.drop (j + 1) := by
      rw [List.drop_eq_getElem_cons hl]
      rw [List.getElem?_eq_getElem hl] at hd
      cases hd; rfl
    rw [ed] at e'
    unfold coF at e'
    refine .inr ⟨hgo, fun H' => ∃ F' env' acc' xs, Rel T K gh F' H' (L2.wipe σ2 vs1) env' ∧ Same F2 F' ∧ H' D = some (.lst xs) ∧ F' D = none ∧ Alone gh env' (L2.wipe σ2 vs1) D ∧ Reps K F' xs acc' ∧ coF vs1 bi1 t1 f (ds1.drop (j + 1)) acc' env' = some (accI, eI),
      fun H' h => ⟨ds1.length - (j + 1), by omega, rfl, h⟩, fun x H' hx' => ?_⟩
    obtain ⟨F6, R6, s6, rx⟩ := hy x H' hx'
    split at e'
    · cases e'
    · rename_i e3 eb
      refine ⟨gh.pin D (.lst xs5), F6, env5, d, e3, R6, rx, eb, fun σ4 H7 F7 R7 s7 w4 => ?_⟩
      have ew4 := w4 vs1 hts1
      rw [wipe_wipe] at ew4
      refine ⟨ew4, ?_⟩
      split at e'
      · cases e'
      · rename_i e4 et
        refine ⟨gh.pin D (.lst xs5), F7, e3, _, _, R7, et, fun H8 F8 R8 s8 => iteF ?_⟩
        obtain ⟨R9, hD9, hF9, al9⟩ := R8.unpin al5.2
        have R10 := R9.wipe nio
        rw [ew4] at R10
        refine ⟨F8, _, acc5, xs5, R10, s5.trans (s6.trans (s7.trans s8)), hD9, hF9, ⟨fun j hj => ?_, al9.2⟩, rr5.mono (s6.trans (s7.trans s8)), e'⟩
        have h1 := al9.1 j (wipeE_owns hj).1
        rw [← ew4, wipe_out (wipeE_owns hj).2]
        exact h1
      · rename_i e4 et
        refine ⟨gh.pin D (.lst xs5), F7, e3, _, _, R7, et, fun H8 F8 R8 s8 => iteT ?_⟩
        split at e'
        · cases e'
        · rename_i r e5 ef
          split at e'
          · rename_i hlen
            refine ⟨gh.pin D (.lst xs5), F8, e4, _, _, R8, ef, fun y H9 F9 R9 s9 r9 => ?_⟩
            obtain ⟨R10, hD10, hF10, al10⟩ := R9.unpin al5.2
            refine ⟨xs5, hD10, by rw [rr5.len]; exact hlen, ?_⟩
            have R11 := (R10.grow (o' := .lst (xs5 ++ [y])) hD0 hD10 (fun ps z => nomatch z) hF10 al10).wipe nio
            rw [ew4] at R11
            have s69 := s6.trans (s7.trans (s8.trans s9))
            refine ⟨F9, _, _, _, R11, s5.trans s69, upd_same, hF10, ⟨fun j hj => ?_, al10.2⟩, (rr5.mono s69).append (.one r9), e'⟩
            have h1 := al10.1 j (wipeE_owns hj).1
            rw [← ew4, wipe_out (wipeE_owns hj).2]
            exact h1
          · cases e'
theorem rn_lc2 {K : PySem.W.Frag} {vs ts vs1 ts1 : List Nat} {w : AF} {bi : BF} {t : TF} {w1 : AF} {bi1 : BF} {t1 : TF} {f : EF} (hv : ∀ i ∈ vs1, i ∈ vs) (hts : ∀ i ∈ ts, i ∈ vs) (hts1 : ∀ i ∈ ts1, i ∈ vs1) : ∀ σ H Q, RN T K (eLc2 vs vs1 w bi t w1 bi1 t1 f) σ H Q → tLc2 (RI T K w) (RB T K ts bi) (RT T K t) (RI T K w1) (RB T K ts1 bi1) (RT T K t1) (RE T K f) vs vs1 σ H Q := by
  rintro σ H Q ⟨gh, F, env, d, env', R, e, q⟩
  unfold eLc2 at e
  split at e
  · cases e
  · rename_i ds e1 ew
    split at e
    · rename_i hio
      split at e
      · cases e
      · rename_i acc e2 ec
        cases e
        refine ⟨gh, F, env, _, _, R, ew, fun J H1 F1 R1 s1 Y D hD => ?_⟩
        have nio : ∀ i ∈ vs, ∀ a, (i, a) ∉ gh.io := fun i hi a z => by
          obtain ⟨_, d, hd⟩ := R1.iok i a z
          have := List.all_eq_true.mp hio i hi
          rw [hd] at this
          cases this
        have nio1 : ∀ i ∈ vs1, ∀ a, (i, a) ∉ gh.io := fun i hi => nio i (hv i hi)
        obtain ⟨hD0, hDT, hDF⟩ := R1.fresh hD
        have hal := R1.own_ne hD
        have R1' : Rel T K gh F1 (upd H1 D (.lst [])) (L2.wipe σ vs) (wipeE e1 vs) := (R1.laid hD).wipe nio
        have alD : Alone gh (wipeE e1 vs) (L2.wipe σ vs) D := ⟨fun i hi => by
          rw [wipe_out (wipeE_owns hi).2]
          exact hal.1 i (wipeE_owns hi).1, hal.2⟩
        refine ⟨fun i m H => m = ds.length - i ∧ ∃ F' env' acc' xs, Rel T K gh F' H (L2.wipe σ vs) env' ∧ Same F1 F' ∧ H D = some (.lst xs) ∧ F' D = none ∧ Alone gh env' (L2.wipe σ vs) D ∧ Reps K F' xs acc' ∧ coF2 vs vs1 bi t w1 bi1 t1 f (ds.drop i) acc' env' = some (acc, e2),
          ⟨_, rfl, F1, _, [], [], R1', Same.refl _, upd_same, hDF, alD, .nil, by simpa using ec⟩, ?_⟩
        rintro i m H2 ⟨rfl, F2, env2, acc2, xs, R2, s2, hx, hF2, al2, rr, e'⟩
        have R2p : Rel T K (gh.pin D (.lst xs)) F2 H2 (L2.wipe σ vs) env2 := R2.pin hx hF2 (fun ps z => nomatch z) al2
        obtain ⟨yi, yn⟩ := Y (gh.pin D (.lst xs)) i F2 H2 _ env2 R2p s2
        cases hd : ds[i]? with
        | none =>
          have hl : ds.length ≤ i := List.getElem?_eq_none_iff.mp hd
          rw [List.drop_of_length_le hl] at e'
          injection e' with e'
          injection e' with ea eb
          subst ea; subst eb
          refine .inl ⟨yn hd, ?_⟩
          have R3 : Rel T K gh F2 H2 σ (wipeE env2 vs) := R2.swap (σ' := σ) nio (wipe_length _ _).symm fun j hj => (wipe_out hj).symm
          refine q D H2 F2 R3 (s1.trans s2) hF2 hD0 ⟨fun j hj => ?_, al2.2⟩ (.lst hx rr)
          have h1 := al2.1 j (wipeE_owns hj).1
          rw [wipe_out (wipeE_owns hj).2] at h1
          exact h1
        | some d =>
          obtain ⟨hgo, hy⟩ := yi d hd
          have hl : i < ds.length := (List.getElem?_eq_some_iff.mp hd).1
          have ed : ds.drop i = d :: ds.drop (i + 1) := by
            rw [List.drop_eq_getElem_cons hl]
            rw [List.getElem?_eq_getElem hl] at hd
            cases hd; rfl
          rw [ed] at e'
          unfold coF2 at e'
          refine .inr ⟨hgo, fun H' => ∃ F' env' acc' xs, Rel T K gh F' H' (L2.wipe σ vs) env' ∧ Same F1 F' ∧ H' D = some (.lst xs) ∧ F' D = none ∧ Alone gh env' (L2.wipe σ vs) D ∧ Reps K F' xs acc' ∧ coF2 vs vs1 bi t w1 bi1 t1 f (ds.drop (i + 1)) acc' env' = some (acc, e2),
            fun H' h => ⟨ds.length - (i + 1), by omega, rfl, h⟩, fun x H' hx' => ?_⟩
          obtain ⟨F3, R3, s3, rx⟩ := hy x H' hx'
          split at e'
          · cases e'
          · rename_i e3 eb
            refine ⟨gh.pin D (.lst xs), F3, env2, d, e3, R3, rx, eb, fun σ4 H4 F4 R4 s4 w4 => ?_⟩
            have ew4 := w4 vs hts
            rw [wipe_wipe] at ew4
            refine ⟨ew4, ?_⟩
            split at e'
            · cases e'
            · rename_i e4 et
              refine ⟨gh.pin D (.lst xs), F4, e3, _, _, R4, et, fun H5 F5 R5 s5 => iteF ?_⟩
              obtain ⟨R6, hD6, hF6, al6⟩ := R5.unpin al2.2
              have R7 := R6.wipe nio
              rw [ew4] at R7
              refine ⟨F5, _, acc2, xs, R7, s2.trans (s3.trans (s4.trans s5)), hD6, hF6, ⟨fun j hj => ?_, al6.2⟩, rr.mono (s3.trans (s4.trans s5)), e'⟩
              have h1 := al6.1 j (wipeE_owns hj).1
              rw [← ew4, wipe_out (wipeE_owns hj).2]
              exact h1
            · rename_i e4 et
              refine ⟨gh.pin D (.lst xs), F4, e3, _, _, R4, et, fun H5 F5 R5 s5 => iteT ?_⟩
              split at e'
              · cases e'
              · rename_i ds1 e5 ew1
                split at e'
                · cases e'
                · rename_i accI eI ec1
                  refine ⟨gh.pin D (.lst xs), F5, e4, _, _, R5, ew1, fun J1 H6 F6 R6 s6 Y1 => ?_⟩
                  have s26 := s3.trans (s4.trans (s5.trans s6))
                  refine inner_lc hts1 hD0 al2.2 nio1 R6 (rr.mono s26) Y1 ec1 fun H7 F7 xs7 R7 s7 hx7 hF7 al7 rr7 => ?_
                  have R8 := R7.wipe nio
                  rw [wipe_sub hv, ew4] at R8
                  refine ⟨F7, _, accI, xs7, R8, s2.trans (s26.trans s7), hx7, hF7, ⟨fun j hj => ?_, al7.2⟩, rr7, e'⟩
                  have h1 := al7.1 j (wipeE_owns hj).1
                  have hj1 : j ∉ vs1 := fun z => (wipeE_owns hj).2 (hv j z)
                  rw [wipe_out hj1] at h1
                  rw [← ew4, wipe_out (wipeE_owns hj).2]
                  exact h1
    · cases e
/-- [e for tg in iter if .. for tg1 in iter1 if ..] -/
theorem fn_lc2 (vs1 : List Nat) {elt tg iter tg1 iter1 : Expr} {ifs ifs1 : List Expr} {scope : Scope} {pos : Pos} {own : List (Str × Nat)} {ts ts1 : List Nat} {w w1 : AF} {bi bi1 : BF} {t t1 : TF} {f : EF} (hc : X.calm = true) (hN : X.N.Nodup) (hi : FI T X tg iter w) (ok : BlkOk X.N X.env.scope scope own)
    (hg : ∀ (s : Shared) (H : Hp) (C : Addr) (cl : List (Str × Addr)) (fp : List Addr), FB T (X.blk s H scope (compEnvC scope cl C X.env) fp) tg ts bi)
    (ht : ∀ (s : Shared) (H : Hp) (C : Addr) (cl : List (Str × Addr)) (fp : List Addr), FTs T (X.blk s H scope (compEnvC scope cl C X.env) fp) ifs t)
    (hi1 : ∀ (s : Shared) (H : Hp) (C : Addr) (cl : List (Str × Addr)) (fp : List Addr), FI T (X.blk s H scope (compEnvC scope cl C X.env) fp) tg1 iter1 w1)
    (hg1 : ∀ (s : Shared) (H : Hp) (C : Addr) (cl : List (Str × Addr)) (fp : List Addr), FB T (X.blk s H scope (compEnvC scope cl C X.env) fp) tg1 ts1 bi1)
    (ht1 : ∀ (s : Shared) (H : Hp) (C : Addr) (cl : List (Str × Addr)) (fp : List Addr), FTs T (X.blk s H scope (compEnvC scope cl C X.env) fp) ifs1 t1)
    (he : ∀ (s : Shared) (H : Hp) (C : Addr) (cl : List (Str × Addr)) (fp : List Addr), FE T (X.blk s H scope (compEnvC scope cl C X.env) fp) elt f) (hv : ∀ i ∈ vs1, i ∈ own.map (·.2) := by decide) (hts : ∀ i ∈ ts, i ∈ own.map (·.2) := by decide) (hts1 : ∀ i ∈ ts1, i ∈ vs1 := by decide)
    (hs : ∀ x, foldedSetIterable iter X.env x = pure x := by intro _; rfl) (hs1 : ∀ env x, foldedSetIterable iter1 env x = pure x := by intro _ _; rfl) :
    FN T X (.ListComp elt [⟨tg, iter, ifs, 0⟩, ⟨tg1, iter1, ifs1, 0⟩] scope pos) (eLc2 (own.map (·.2)) vs1 w bi t w1 bi1 t1 f) :=
  (pe_lc2 (g := RB T X.K ts bi) (tt := RT T X.K t) (g1 := RB T X.K ts1 bi1) (tt1 := RT T X.K t1) (wi1 := RI T X.K w1) (te := RE T X.K f) hc hN hi ok hv hg ht hi1 hg1 ht1 he hs hs1).weak (rn_lc2 hv hts hts1)
theorem fs_setLc2 (i : Nat) (vs1 : List Nat) {y : Str} {py : Pos} {elt tg iter tg1 iter1 : Expr} {ifs ifs1 : List Expr} {scope : Scope} {pos spos : Pos} {own : List (Str × Nat)} {ts ts1 : List Nat} {w w1 : AF} {bi bi1 : BF} {t t1 : TF} {f : EF} (hc : X.calm = true) (hN : X.N.Nodup) (hy : X.N[i]? = some y) (hyl : X.env.scope.names.lookup y = some .local)
    (hsw : swapsWith (.ListComp elt [⟨tg, iter, ifs, 0⟩, ⟨tg1, iter1, ifs1, 0⟩] scope pos) (some (.Name y py)) spos.line X.env = pure true) (hi : FI T X tg iter w) (ok : BlkOk X.N X.env.scope scope own)
    (hg : ∀ (s : Shared) (H : Hp) (C : Addr) (cl : List (Str × Addr)) (fp : List Addr), FB T (X.blk s H scope (compEnvC scope cl C X.env) fp) tg ts bi)
    (ht : ∀ (s : Shared) (H : Hp) (C : Addr) (cl : List (Str × Addr)) (fp : List Addr), FTs T (X.blk s H scope (compEnvC scope cl C X.env) fp) ifs t)
    (hi1 : ∀ (s : Shared) (H : Hp) (C : Addr) (cl : List (Str × Addr)) (fp : List Addr), FI T (X.blk s H scope (compEnvC scope cl C X.env) fp) tg1 iter1 w1)
    (hg1 : ∀ (s : Shared) (H : Hp) (C : Addr) (cl : List (Str × Addr)) (fp : List Addr), FB T (X.blk s H scope (compEnvC scope cl C X.env) fp) tg1 ts1 bi1)
    (ht1 : ∀ (s : Shared) (H : Hp) (C : Addr) (cl : List (Str × Addr)) (fp : List Addr), FTs T (X.blk s H scope (compEnvC scope cl C X.env) fp) ifs1 t1)
    (he : ∀ (s : Shared) (H : Hp) (C : Addr) (cl : List (Str × Addr)) (fp : List Addr), FE T (X.blk s H scope (compEnvC scope cl C X.env) fp) elt f) (hv : ∀ i ∈ vs1, i ∈ own.map (·.2) := by decide) (hts : ∀ i ∈ ts, i ∈ own.map (·.2) := by decide) (hts1 : ∀ i ∈ ts1, i ∈ vs1 := by decide)
    (hs : ∀ x, foldedSetIterable iter X.env x = pure x := by intro _; rfl) (hs1 : ∀ env x, foldedSetIterable iter1 env x = pure x := by intro _ _; rfl) :
    FS T X (.Assign [.Name y py] (.ListComp elt [⟨tg, iter, ifs, 0⟩, ⟨tg1, iter1, ifs1, 0⟩] scope pos) spos) (asgO i (eLc2 (own.map (·.2)) vs1 w bi t w1 bi1 t1 f)) := by
  have base := ps_setLc2 (g := RB T X.K ts bi) (tt := RT T X.K t) (g1 := RB T X.K ts1 bi1) (tt1 := RT T X.K t1) (wi1 := RI T X.K w1) (te := RE T X.K f) hc hN hy hyl hsw hi ok hv hg ht hi1 hg1 ht1 he hs hs1
  refine PS.weak base fun D σ H ⟨gh, F, env, out, R, e, q⟩ => ?_
  unfold asgO at e
  split at e
  · cases e
  · rename_i d e1 ef
    split at e
    · cases e
    · rename_i e2 es
      cases e
      exact rn_lc2 hv hts hts1 σ H _ ⟨gh, F, env, d, e1, R, ef, fun a H1 F1 R1 s1 h1 h2 h3 h4 => q _ _ _ (R1.put es (.inr (.inr ⟨d, a, rfl, rfl, h1, h2, h3, h4⟩))) s1⟩
end
end Fx

namespace Fx
open PySem PySem.Spec L2
open PyProof.Rows hiding St
section
variable {T : List Addr} {X : Cx}
/-- return of a new object -/
def sRetO (f : EF) : SF := fun env => match f env with
  | none => none
  | some (d, e) => some (.rf d e)
theorem fs_retO {e : Expr} {pos : Pos} {f : EF} (he : FN T X e f) : FS T X (.Return (some e) pos) (sRetO f) :=
  (ps_ret he).weak fun D σ H ⟨gh, F, env, out, R, e, q⟩ => by
    unfold sRetO at e
    split at e
    · cases e
    · rename_i d e1 ef
      cases e
      exact ⟨gh, F, env, _, _, R, ef, fun a H1 F1 R1 s1 h1 h2 h3 h4 => q a _ H1 F1 R1 s1 h1 h2 h3 h4⟩
/-- the promise of a def that hands back a new object -/
def spN (T : List Addr) (K : PySem.W.Frag) (g : List PV → Option PV) : Sp := fun vs H Q _ => ∃ F ps d, Same F H ∧ (∀ P ∈ T, GxR.TabG H P ∧ F P = none) ∧ Reps K F vs ps ∧ g ps = some d ∧
  ∀ a H' F', Left T H H' F F' (fun _ => False) → F' a = none → H a = none → Own K F' H' a d → Q (.ref a) H'
theorem cn_call {K : PySem.W.Frag} {g : List PV → Option PV} {f : AF} {E : XK} : ∀ σ H Q, RN T K (callF g f) σ H Q → tCall (spN T K g) [] E (RA T K f) σ H Q := by
  rintro σ H Q ⟨gh, F, env, d, env', R, e, q⟩
  unfold callF at e
  split at e
  · cases e
  · rename_i ds e1 ef
    split at e
    · cases e
    · rename_i d' eg
      cases e
      refine ⟨gh, F, env, _, _, R, ef, fun vs H1 F1 R1 s1 r1 => ⟨F1, ds, d, R1.sub, fun P hP => ⟨R1.tab P hP, R1.nt P hP⟩, by rw [List.append_nil]; exact r1, eg, fun a H2 F2 L h1 h2 ho => ?_⟩⟩
      obtain ⟨h0, nT, hF⟩ := R1.fresh h2
      exact q a H2 F2 (R1.left L) (s1.trans L.frz) h1 h0 (R1.own_ne h2) ho
/-- f(e, ..), f a def that hands back a new object -/
theorem fn_call {CX : CXT} {k : Nat} {f : Addr} {fd : FuncData} {ps : List Str} {g : List PV → Option PV} {E : XK} {x : Str} {p pos : Pos} {e : Expr} {es : List Expr} {h : AF} (F : FnOk X.prog X.w X.K X.mg X.base CX k f fd ps (spN T X.K g)) (hr : Room k X.A) (hm : X.mg x = some (.ref f)) (hk : PySem.W.keepIn X.K (.ref f) = true) (hb : Binds X.K fd ps []) (hx : Passes CX X E)
    (ha : FA T X (e :: es) h) (hg : Gl X x := by rfl) (hdb : (x == ("__debug__" : Str)) = false := by decide) (he : starEach (e :: es) X.env = (false, eval e X.env) :: starEach es X.env := by rfl) (hpl : (backTo pos (starEach es X.env)).any (·.1) = false := by rfl) :
    FN T X (.Call (.Name x p) (e :: es) [] pos) (callF g h) :=
  (pe_call F hr hg hm hk hb .nil hx ha hdb he hpl).weak cn_call
end
def runN (n k : Nat) (b : SF) (ps : List PV) : Option PV := if ps.length = k ∧ k ≤ n then match b (start0 n ps) with
  | some (.rf d _) => some d
  | _ => none
  else none
section
variable {P : Program} {w : World} {K : PySem.W.Frag} {mg : Str → Option Value} {base : Heap} {T : List Addr}
theorem endsN_of {b : SF} {N : List Str} {vs : List V} {H F : Hp} {ps : List PV} {d : PV} {Q : VK} (sF : Same F H) (hT : ∀ P ∈ T, GxR.TabG H P ∧ F P = none) (r : Reps K F vs ps) (e : runN N.length ps.length b ps = some d)
    (q : ∀ a H' F', Left T H H' F F' (fun _ => False) → F' a = none → H a = none → Own K F' H' a d → Q (.ref a) H') : RS T K b { nx := fun _ H' => Q .non H', rt := Q } (L2.start N vs) H := by
  unfold runN at e
  split at e
  · rename_i hk
    have R := rel_start (N := N) sF hT r hk.2
    split at e
    · rename_i d1 e1 eb
      cases e
      exact ⟨_, F, _, _, R, eb, fun a σ' H' F' R' s h1 h2 h3 h4 => q a _ _ (R'.toLeft rfl) h1 h2 h4⟩
    · cases e
  · cases e
theorem fn_new {x qual : Str} {st : Stmt} {f : Addr} {fd : FuncData} {N ps : List Str} {j k n : Nat} {b : SF} (F : Fun K x qual st f fd) (S : FnScope N ps (defScope st)) (hn : N.length = n) (hk : ps.length = k)
    (hbody : ∀ (cdv : Value) (A : Around) (outer : List Env) (s : Shared) (H : Hp) (E : XK), Room j (A.deeper (envOfC qual (defScope st) s.heap.objs.size f cdv)) → FSs T (cxOf CX0 P w K mg base N qual (defScope st) f cdv A outer s H E).nox (defBody st) b) :
    FnOk P w K mg base CX0 (j + 1) f fd ps (spN T K (runN n k b)) := by
  subst hn hk
  refine F.ok S (fun vs H Q E h => ?_) (fun cdv A outer s H vs Q E hr h => ?_)
  · obtain ⟨F, qs, d, _, _, r, e, _⟩ := h
    unfold runN at e
    split at e
    · rename_i hk
      rw [r.len]; exact hk.1
    · cases e
  · obtain ⟨F, qs, d, sF, hT, r, e, q⟩ := h
    have hl : qs.length = ps.length := by
      unfold runN at e
      split at e
      · rename_i hk; exact hk.1
      · cases e
    exact ⟨_, hbody cdv A outer s H E hr, endsN_of sF hT r (by rw [hl]; exact e) q⟩
/-- the script, as the law gets it -/
def scrD (ns : List Int) : PV := .dict [(.bool true, .list (ns.map .int))]
theorem reps_map {F : Hp} : ∀ ns : List Int, Reps K F (ns.map V.int) (ns.map PyData.int)
  | [] => .nil
  | n :: r => .cons (.int n) (reps_map r)
/-- the law's promise, from what it computes -/
theorem law_of {H : Hp} {a : Addr} {ns : List Int} {g : List PV → Option PV} (hS : SqL K H a (ns.map V.int)) (e : g [scrD ns] = some (.bool true)) : spP [] K g [.ref a] H (fun v _ => v = .bl true) fun _ _ _ => False := by
  refine ⟨H, [scrD ns], _, Same.refl _, (fun P z => by cases z), .one (.lk hS (reps_map ns)), e, fun v H' F' L r => ?_⟩
  cases r
  rfl
end
end Fx

namespace Fx
open PySem PySem.Spec L2
open PyProof.Rows hiding St
theorem hu1 {n c : Nat} (h : n + 64 < c) : n + 1 < c := by omega
section
variable {T : List Addr} {X : Cx}
/-- xs * n, a new list -/
def pRepN : PV → PV → Option PV
  | .list xs, .int k => if -(2 ^ 63) ≤ k ∧ k < 2 ^ 63 ∧ xs.length * k.toNat ≤ sizeLine then some (.list (List.replicate k.toNat xs).flatten) else none
  | _, _ => none
def pCatN : PV → PV → Option PV
  | .list xs, .list ys => if xs.length + ys.length ≤ sizeLine then some (.list (xs ++ ys)) else none
  | _, _ => none
theorem reps_rep {K : PySem.W.Frag} {F : Hp} {vs : List V} {ds : List PV} (r : Reps K F vs ds) : ∀ n : Nat, Reps K F (List.replicate n vs).flatten (List.replicate n ds).flatten := fun n => by
  induction n with
  | zero => exact .nil
  | succ n ih =>
    rw [List.replicate_succ, List.replicate_succ, List.flatten_cons, List.flatten_cons]
    exact r.append ih
theorem fn_rep {a b : Expr} {pos : Pos} {fa fb : EF} (ha : FE T X a fa) (hb : FE T X b fb) : FN T X (.BinOp a .Mult b pos) (bin pRepN fa fb) :=
  (pe_op op_rep ha hb).weak fun σ H Q ⟨gh, F, env, d, env', R, e, q⟩ => by
    unfold bin at e
    split at e
    · cases e
    · rename_i d1 e1 ef
      split at e
      · cases e
      · rename_i d2 e2 eg
        split at e
        · cases e
        · rename_i r er
          cases e
          refine ⟨gh, F, env, _, _, R, ef, fun v H1 F1 R1 s1 r1 => ⟨gh, F1, _, _, _, R1, eg, fun w H2 F2 R2 s2 r2 => ?_⟩⟩
          unfold pRepN at er
          split at er
          · split at er
            · rename_i hl
              cases er
              have r1' := r1.mono s2
              cases r1' with
              | lst ha ra =>
                refine ⟨_, _, _, rfl, r2.int_iff, R2.sub _ _ ha, hl.1, hl.2.1, by rw [ra.len]; exact hl.2.2, fun p hp => ?_⟩
                obtain ⟨h0, nT, hF⟩ := R2.fresh hp
                exact q p _ F2 (R2.laid hp) (s1.trans s2) hF h0 (R2.own_ne hp) (.lst upd_same (reps_rep ra _))
            · cases er
          · cases er
theorem fn_cat {a b : Expr} {pos : Pos} {fa fb : EF} (ha : FE T X a fa) (hb : FE T X b fb) : FN T X (.BinOp a .Add b pos) (bin pCatN fa fb) :=
  (pe_op op_cat ha hb).weak fun σ H Q ⟨gh, F, env, d, env', R, e, q⟩ => by
    unfold bin at e
    split at e
    · cases e
    · rename_i d1 e1 ef
      split at e
      · cases e
      · rename_i d2 e2 eg
        split at e
        · cases e
        · rename_i r er
          cases e
          refine ⟨gh, F, env, _, _, R, ef, fun v H1 F1 R1 s1 r1 => ⟨gh, F1, _, _, _, R1, eg, fun w H2 F2 R2 s2 r2 => ?_⟩⟩
          unfold pCatN at er
          split at er
          · split at er
            · rename_i hl
              cases er
              have r1' := r1.mono s2
              cases r1' with
              | lst ha ra =>
                cases r2 with
                | lst hb rb =>
                  refine ⟨_, _, _, _, rfl, rfl, R2.sub _ _ ha, R2.sub _ _ hb, by rw [ra.len, rb.len]; exact hl, fun p hp => ?_⟩
                  obtain ⟨h0, nT, hF⟩ := R2.fresh hp
                  exact q p _ F2 (R2.laid hp) (s1.trans s2) hF h0 (R2.own_ne hp) (.lst upd_same (ra.append rb))
            · cases er
          · cases er
end
section
variable {T : List Addr} {X : Cx}
theorem fs_setLcO (i : Nat) {y : Str} {py : Pos} {elt tg iter : Expr} {ifs : List Expr} {scope : Scope} {pos spos : Pos} {own : List (Str × Nat)} {ts : List Nat} {w : AF} {bi : BF} {t : TF} {f : EF} (hc : X.calm = true) (hN : X.N.Nodup) (hy : X.N[i]? = some y) (hyl : X.env.scope.names.lookup y = some .local)
    (hsw : swapsWith (.ListComp elt [⟨tg, iter, ifs, 0⟩] scope pos) (some (.Name y py)) spos.line X.env = pure true) (hi : FI T X tg iter w) (ok : BlkOk X.N X.env.scope scope own)
    (hg : ∀ (s : Shared) (H : Hp) (C : Addr) (cl : List (Str × Addr)) (fp : List Addr), FB T (X.blk s H scope (compEnvC scope cl C X.env) fp) tg ts bi)
    (ht : ∀ (s : Shared) (H : Hp) (C : Addr) (cl : List (Str × Addr)) (fp : List Addr), FTs T (X.blk s H scope (compEnvC scope cl C X.env) fp) ifs t)
    (he : ∀ (s : Shared) (H : Hp) (C : Addr) (cl : List (Str × Addr)) (fp : List Addr), FE T (X.blk s H scope (compEnvC scope cl C X.env) fp) elt f) (hts : ∀ i ∈ ts, i ∈ own.map (·.2) := by decide)
    (hs : ∀ x, foldedSetIterable iter X.env x = pure x := by intro _; rfl) :
    FS T X (.Assign [.Name y py] (.ListComp elt [⟨tg, iter, ifs, 0⟩] scope pos) spos) (asgO i (eLc (own.map (·.2)) w bi t f)) :=
  (fs_setLc i hc hN hy hyl hsw hi ok hg ht he hts hs).2
end
abbrev FnP (K : PySem.W.Frag) (x : Str) (st : Stmt) (f : Addr) (fd : FuncData) : Prop := FunD K x x (defArgs st) (defBody st) (defScope st) [] [] f fd
section
variable {P : Program} {w : World} {K : PySem.W.Frag} {mg : Str → Option Value} {base : Heap} {T : List Addr}
theorem fd_pure {x : Str} {st : Stmt} {f : Addr} {fd : FuncData} {N ps : List Str} {j k n : Nat} {b : SF} (F : FnP K x st f fd) (S : FnScope N ps (defScope st)) (hn : N.length = n) (hk : ps.length = k)
    (hbody : ∀ (cdv : Value) (A : Around) (outer : List Env) (s : Shared) (H : Hp) (E : XK), Room j (A.deeper (envOfC x (defScope st) s.heap.objs.size f cdv)) → FSs T (cxOf CX0 P w K mg base N x (defScope st) f cdv A outer s H E).nox (defBody st) b) :
    FnOk P w K mg base CX0 (j + 1) f fd ps (spP T K (runP n k b)) := by
  subst hn hk
  refine F.ok S (fun vs H Q E h => ?_) (fun cdv A outer s H vs Q E hr h => ?_)
  · obtain ⟨F, qs, d, _, _, r, e, _⟩ := h
    unfold runP at e
    split at e
    · rename_i hk
      rw [r.len]; exact hk.1
    · cases e
  · obtain ⟨F, qs, d, sF, hT, r, e, q⟩ := h
    have hl : qs.length = ps.length := by
      unfold runP at e
      split at e
      · rename_i hk; exact hk.1
      · cases e
    exact ⟨_, (hbody cdv A outer s H E hr).nox, ends_of sF hT r (by rw [hl]; exact e) q⟩
theorem fd_new {x : Str} {st : Stmt} {f : Addr} {fd : FuncData} {N ps : List Str} {j k n : Nat} {b : SF} (F : FnP K x st f fd) (S : FnScope N ps (defScope st)) (hn : N.length = n) (hk : ps.length = k)
    (hbody : ∀ (cdv : Value) (A : Around) (outer : List Env) (s : Shared) (H : Hp) (E : XK), Room j (A.deeper (envOfC x (defScope st) s.heap.objs.size f cdv)) → FSs T (cxOf CX0 P w K mg base N x (defScope st) f cdv A outer s H E).nox (defBody st) b) :
    FnOk P w K mg base CX0 (j + 1) f fd ps (spN T K (runN n k b)) := by
  subst hn hk
  refine F.ok S (fun vs H Q E h => ?_) (fun cdv A outer s H vs Q E hr h => ?_)
  · obtain ⟨F, qs, d, _, _, r, e, _⟩ := h
    unfold runN at e
    split at e
    · rename_i hk
      rw [r.len]; exact hk.1
    · cases e
  · obtain ⟨F, qs, d, sF, hT, r, e, q⟩ := h
    have hl : qs.length = ps.length := by
      unfold runN at e
      split at e
      · rename_i hk; exact hk.1
      · cases e
    exact ⟨_, (hbody cdv A outer s H E hr).nox, endsN_of sF hT r (by rw [hl]; exact e) q⟩
theorem fd_io {x : Str} {st : Stmt} {f : Addr} {fd : FuncData} {N ps : List Str} {j k n : Nat} {b : SF} (F : FnP K x st f fd) (S : FnScope N ps (defScope st)) (hn : N.length = n) (hk : ps.length = k)
    (hbody : ∀ (cdv : Value) (A : Around) (outer : List Env) (s : Shared) (H : Hp) (E : XK), Room j (A.deeper (envOfC x (defScope st) s.heap.objs.size f cdv)) → FSs T (cxOf CX0 P w K mg base N x (defScope st) f cdv A outer s H E).nox (defBody st) b) :
    FnOk P w K mg base CX0 (j + 1) f fd ps (spIO T K (runIO n k b)) := by
  subst hn hk
  refine F.ok S (fun vs H Q E h => ?_) (fun cdv A outer s H vs Q E hr h => ?_)
  · obtain ⟨F, a, vs', qs, d, d', r, rfl, _, _, _, _, rr, e, _⟩ := h
    unfold runIO at e
    split at e
    · rename_i hk
      rw [List.length_cons, rr.len]; exact hk.1
    · cases e
  · obtain ⟨F, a, vs', qs, d, d', r, rfl, sF, hT, hF, ho, rr, e, q⟩ := h
    have hl : qs.length + 1 = ps.length := by
      unfold runIO at e
      split at e
      · rename_i hk; exact hk.1
      · cases e
    exact ⟨_, (hbody cdv A outer s H E hr).nox, endsIO_of sF hT hF ho rr (by rw [hl]; exact e) q⟩
end
def bltB (K : PySem.W.Frag) (b : Str × String) : Bool := He.eqO (PySem.W.nsIn K mainGlobals b.1) (some (some (.builtin b.2)))
def obsG (bl : List (Str × String)) (fa : List He.Fa) (fn : List He.DefD) (K : PySem.W.Frag) : He.AlD := (bl.all (bltB K) && (He.obsD fa fn K).1, (He.obsD fa fn K).2)
def SaysG (bl : List (Str × String)) (fa : List He.Fa) (fn : List He.DefD) (K : PySem.W.Frag) : Prop := obsG bl fa fn K = He.valD fn
def obsGG (n : Nat) (bl : List (Str × String)) (fa : List He.Fa) (fn : List He.DefD) (g : Addr → Option Obj) : He.AlD := obsG bl fa fn (He.frG g (He.asD g n))
def hookG (n : Nat) (bl : List (Str × String)) (fa : List He.Fa) (fn : List He.DefD) : PySem.W.Hook where
  α := He.AlD
  obs := fun s => obsGG n bl fa fn s.heap.get?
  val := fun _ => He.valD fn
  says := fun _ h => ∃ K : PySem.W.Frag, K.In h ∧ SaysG bl fa fn K
  of := fun _ _ e => ⟨_, He.frG_in, e⟩
  keeps := fun _ _ _ ⟨K, hK, c⟩ k => ⟨K, PySem.W.Frag.In.keeps hK k, c⟩
theorem obsGG_eq {n : Nat} {bl : List (Str × String)} {fa : List He.Fa} {fn : List He.DefD} {g : Addr → Option Obj} {s : Shared} (h : ∀ a, g a = s.heap.get? a) : obsGG n bl fa fn g = (hookG n bl fa fn).obs s := by
  have e : g = s.heap.get? := funext h
  rw [e] <;> rfl
section
variable {bl : List (Str × String)} {fa : List He.Fa} {fn : List He.DefD} {K : PySem.W.Frag}
theorem SaysG.d (c : SaysG bl fa fn K) : He.SaysD fa fn K := by
  have h1 : (bl.all (bltB K) && (He.obsD fa fn K).1) = true := congrArg (fun z : He.AlD => z.1) c
  have h2 : (He.obsD fa fn K).2 = (He.valD fn).2 := by
    have := congrArg (fun z : He.AlD => z.2) (show obsG bl fa fn K = He.valD fn from c)
    exact this
  exact Prod.ext (He.ba h1).2 h2
theorem SaysG.blt (c : SaysG bl fa fn K) {h : Heap} {mg : Str → Option Value} (X : K.In h) (G : h.Ns mainGlobals mg) (i : Nat) {b : Str × String} (e : bl[i]? = some b := by rfl) : mg b.1 = some (.builtin b.2) := by
  have h1 : (bl.all (bltB K) && (He.obsD fa fn K).1) = true := congrArg (fun z : He.AlD => z.1) c
  have h2 := List.all_eq_true.mp (He.ba h1).1 b (List.mem_of_getElem? e)
  exact PySem.W.mg_of X G (He.eqO_ok h2)
end
end Fx

noncomputable section
namespace Fx
open PySem PySem.Spec L2
open PyProof.Rows hiding St
def gtF {α : Type} (i : Nat) : List α → Option α := Nat.rec (motive := fun _ => List α → Option α) (fun env => List.casesOn (motive := fun _ => Option α) env none (fun a _ => some a)) (fun _ ih env => List.casesOn (motive := fun _ => Option α) env none (fun _ r => ih r)) i
def stF {α : Type} (i : Nat) : List α → α → List α := Nat.rec (motive := fun _ => List α → α → List α) (fun env s => List.casesOn (motive := fun _ => List α) env [] (fun _ r => s :: r)) (fun _ ih env s => List.casesOn (motive := fun _ => List α) env [] (fun a r => a :: ih r s)) i
def lnF {α : Type} (xs : List α) : Nat := List.rec (motive := fun _ => Nat) 0 (fun _ _ ih => Nat.succ ih) xs
theorem gtF_eq {α : Type} : ∀ (i : Nat) (xs : List α), gtF i xs = xs[i]?
  | 0, [] => rfl
  | 0, _ :: _ => rfl
  | _ + 1, [] => rfl
  | i + 1, _ :: r => gtF_eq i r
theorem stF_eq {α : Type} : ∀ (i : Nat) (xs : List α) (s : α), stF i xs s = xs.set i s
  | 0, [], _ => rfl
  | 0, _ :: _, _ => rfl
  | _ + 1, [], _ => rfl
  | i + 1, a :: r, s => congrArg (a :: ·) (stF_eq i r s)
theorem lnF_eq {α : Type} : ∀ (xs : List α), lnF xs = xs.length
  | [] => rfl
  | _ :: r => congrArg Nat.succ (lnF_eq r)
def atF {α : Type} (xs : List α) (i : Int) : Option α := match ixN (lnF xs) i with
  | none => none
  | some j => gtF j xs
theorem atF_eq {α : Type} (xs : List α) (i : Int) : atF xs i = atI xs i := by
  unfold atF atI
  rw [lnF_eq]
  cases ixN xs.length i with
  | none => rfl
  | some j => exact gtF_eq j xs
def setVF (env : Ev) (i : Nat) (s : Sl) : Option Ev := match gtF i env with
  | some (.io _) => none
  | some _ => some (stF i env s)
  | none => none
theorem setVF_eq : @setVF = @setV := by
  funext a0 a1 a2
  simp only [setVF, gtF_eq, stF_eq, lnF_eq, atF_eq]
  rfl
def nmF (i : Nat) : EF := fun env => match gtF i env with
  | some (.va d) => some (d, env)
  | some (.ow d) => some (d, stF i env (.va d))
  | _ => none
theorem nmF_eq : @nmF = @nm := by
  funext a0 a1
  simp only [nmF, gtF_eq, stF_eq, lnF_eq, atF_eq, setVF_eq]
  rfl
def asgF (i : Nat) (f : EF) : SF := fun env => match f env with
  | none => none
  | some (d, e) => match setVF e i (.va d) with
    | none => none
    | some e' => some (.nx e')
theorem asgF_eq : @asgF = @asg := by
  funext a0 a1 a2
  simp only [asgF, gtF_eq, stF_eq, lnF_eq, atF_eq, setVF_eq, nmF_eq]
  rfl
def asgOF (i : Nat) (f : EF) : SF := fun env => match f env with
  | none => none
  | some (d, e) => match setVF e i (.ow d) with
    | none => none
    | some e' => some (.nx e')
theorem asgOF_eq : @asgOF = @asgO := by
  funext a0 a1 a2
  simp only [asgOF, gtF_eq, stF_eq, lnF_eq, atF_eq, setVF_eq, nmF_eq, asgF_eq]
  rfl
def bNmF (i : Nat) : BF := fun d env => setVF env i (.va d)
theorem bNmF_eq : @bNmF = @bNm := by
  funext a0 a1 a2
  simp only [bNmF, gtF_eq, stF_eq, lnF_eq, atF_eq, setVF_eq, nmF_eq, asgF_eq, asgOF_eq]
  rfl
def asg2F (i j : Nat) (f : AF) : SF := fun env => match f env with
  | some ([a, b], e) => match setVF e i (.va a) with
    | none => none
    | some e1 => match setVF e1 j (.va b) with
      | none => none
      | some e2 => some (.nx e2)
  | _ => none
theorem asg2F_eq : @asg2F = @asg2 := by
  funext a0 a1 a2 a3
  simp only [asg2F, gtF_eq, stF_eq, lnF_eq, atF_eq, setVF_eq, nmF_eq, asgF_eq, asgOF_eq, bNmF_eq]
  rfl
def augF (i : Nat) (g : PV → PV → Option PV) (f : EF) : SF := fun env => match gtF i env with
  | some (.va a) => match f env with
    | none => none
    | some (b, e) => match g a b with
      | none => none
      | some d => match setVF e i (.va d) with
        | none => none
        | some e' => some (.nx e')
  | _ => none
theorem augF_eq : @augF = @aug := by
  funext a0 a1 a2 a3
  simp only [augF, gtF_eq, stF_eq, lnF_eq, atF_eq, setVF_eq, nmF_eq, asgF_eq, asgOF_eq, bNmF_eq, asg2F_eq]
  rfl
def contF (env : Ev) (i : Nat) : Option PV := match gtF i env with
  | some (.va d) => some d
  | some (.ow d) => some d
  | some (.io d) => some d
  | _ => none
theorem contF_eq : @contF = @cont := by
  funext a0 a1
  simp only [contF, gtF_eq, stF_eq, lnF_eq, atF_eq, setVF_eq, nmF_eq, asgF_eq, asgOF_eq, bNmF_eq, asg2F_eq, augF_eq]
  rfl
def pLenF : List PV → Option PV
  | [.list xs] => some (.int (lnF xs))
  | [.tuple xs] => some (.int (lnF xs))
  | [.str z] => if z.length ≤ sizeLine then some (.int z.length) else none
  | _ => none
theorem pLenF_eq : @pLenF = @pLen := by
  funext a0
  simp only [pLenF, gtF_eq, stF_eq, lnF_eq, atF_eq, setVF_eq, nmF_eq, asgF_eq, asgOF_eq, bNmF_eq, asg2F_eq, augF_eq, contF_eq]
  rfl
def pIxF : PV → PV → Option PV
  | .list xs, .int i => atF xs i
  | .tuple xs, .int i => atF xs i
  | .str z, .int i => if z.length ≤ sizeLine then (atF z.cps.toList i).map fun c => .str ⟨#[c]⟩ else none
  | _, _ => none
theorem pIxF_eq : @pIxF = @pIx := by
  funext a0 a1
  simp only [pIxF, gtF_eq, stF_eq, lnF_eq, atF_eq, setVF_eq, nmF_eq, asgF_eq, asgOF_eq, bNmF_eq, asg2F_eq, augF_eq, contF_eq, pLenF_eq]
  rfl
def ixNPF (i : Nat) (fb : EF) : EF := fun env => match contF env i with
  | none => none
  | some _ => match fb env with
    | none => none
    | some (k, e) => match contF e i with
      | none => none
      | some d => match pIxF d k with
        | none => none
        | some r => some (r, e)
theorem ixNPF_eq : @ixNPF = @ixN' := by
  funext a0 a1 a2
  simp only [ixNPF, gtF_eq, stF_eq, lnF_eq, atF_eq, setVF_eq, nmF_eq, asgF_eq, asgOF_eq, bNmF_eq, asg2F_eq, augF_eq, contF_eq, pLenF_eq, pIxF_eq]
  rfl
def lenNF (i : Nat) : EF := fun env => match contF env i with
  | none => none
  | some d => match pLenF [d] with
    | none => none
    | some r => some (r, env)
theorem lenNF_eq : @lenNF = @lenN := by
  funext a0 a1
  simp only [lenNF, gtF_eq, stF_eq, lnF_eq, atF_eq, setVF_eq, nmF_eq, asgF_eq, asgOF_eq, bNmF_eq, asg2F_eq, augF_eq, contF_eq, pLenF_eq, pIxF_eq, ixNPF_eq]
  rfl
def mineF (env : Ev) (i : Nat) : Option PV := match gtF i env with
  | some (.ow d) => some d
  | some (.io d) => some d
  | _ => none
theorem mineF_eq : @mineF = @mine := by
  funext a0 a1
  simp only [mineF, gtF_eq, stF_eq, lnF_eq, atF_eq, setVF_eq, nmF_eq, asgF_eq, asgOF_eq, bNmF_eq, asg2F_eq, augF_eq, contF_eq, pLenF_eq, pIxF_eq, ixNPF_eq, lenNF_eq]
  rfl
def putMF (env : Ev) (i : Nat) (d : PV) : Ev := match gtF i env with
  | some (.ow _) => stF i env (.ow d)
  | some (.io _) => stF i env (.io d)
  | _ => env
theorem putMF_eq : @putMF = @putM := by
  funext a0 a1 a2
  simp only [putMF, gtF_eq, stF_eq, lnF_eq, atF_eq, setVF_eq, nmF_eq, asgF_eq, asgOF_eq, bNmF_eq, asg2F_eq, augF_eq, contF_eq, pLenF_eq, pIxF_eq, ixNPF_eq, lenNF_eq, mineF_eq]
  rfl
def isLF (env : Ev) (i : Nat) : Bool := match mineF env i with
  | some (.list _) => true
  | _ => false
theorem isLF_eq : @isLF = @isL := by
  funext a0 a1
  simp only [isLF, gtF_eq, stF_eq, lnF_eq, atF_eq, setVF_eq, nmF_eq, asgF_eq, asgOF_eq, bNmF_eq, asg2F_eq, augF_eq, contF_eq, pLenF_eq, pIxF_eq, ixNPF_eq, lenNF_eq, mineF_eq, putMF_eq]
  rfl
def appendF (i : Nat) (f : EF) : EF := fun env => match isLF env i with
  | false => none
  | true => match f env with
    | none => none
    | some (d, e) => match mineF e i with
      | some (.list ds) => if lnF ds < sizeLine then some (.none, putMF e i (.list (ds ++ [d]))) else none
      | _ => none
theorem appendF_eq : @appendF = @append := by
  funext a0 a1 a2
  simp only [appendF, gtF_eq, stF_eq, lnF_eq, atF_eq, setVF_eq, nmF_eq, asgF_eq, asgOF_eq, bNmF_eq, asg2F_eq, augF_eq, contF_eq, pLenF_eq, pIxF_eq, ixNPF_eq, lenNF_eq, mineF_eq, putMF_eq, isLF_eq]
  rfl
def pop0F (i : Nat) : EF := fun env => match mineF env i with
  | some (.list ds) => match gtF (lnF ds - 1) ds with
    | some d => some (d, putMF env i (.list ds.dropLast))
    | none => none
  | _ => none
theorem pop0F_eq : @pop0F = @pop0 := by
  funext a0 a1
  simp only [pop0F, gtF_eq, stF_eq, lnF_eq, atF_eq, setVF_eq, nmF_eq, asgF_eq, asgOF_eq, bNmF_eq, asg2F_eq, augF_eq, contF_eq, pLenF_eq, pIxF_eq, ixNPF_eq, lenNF_eq, mineF_eq, putMF_eq, isLF_eq, appendF_eq]
  rfl
def popAtF (i : Nat) (f : EF) : EF := fun env => match isLF env i with
  | false => none
  | true => match f env with
    | some (.int k, e) => match mineF e i with
      | some (.list ds) => if -(2 ^ 63) ≤ k ∧ k < 2 ^ 63 then match seqIndex? k (lnF ds) with
        | none => none
        | some j => match gtF j ds with
          | none => none
          | some d => some (d, putMF e i (.list (ds.eraseIdx j)))
        else none
      | _ => none
    | _ => none
theorem popAtF_eq : @popAtF = @popAt := by
  funext a0 a1 a2
  simp only [popAtF, gtF_eq, stF_eq, lnF_eq, atF_eq, setVF_eq, nmF_eq, asgF_eq, asgOF_eq, bNmF_eq, asg2F_eq, augF_eq, contF_eq, pLenF_eq, pIxF_eq, ixNPF_eq, lenNF_eq, mineF_eq, putMF_eq, isLF_eq, appendF_eq, pop0F_eq]
  rfl
def extendF (i : Nat) (f : EF) : EF := fun env => match isLF env i with
  | false => none
  | true => match f env with
    | some (.list zs, e) => match mineF e i with
      | some (.list ds) => if lnF ds + lnF zs ≤ sizeLine then some (.none, putMF e i (.list (ds ++ zs))) else none
      | _ => none
    | _ => none
theorem extendF_eq : @extendF = @extend := by
  funext a0 a1 a2
  simp only [extendF, gtF_eq, stF_eq, lnF_eq, atF_eq, setVF_eq, nmF_eq, asgF_eq, asgOF_eq, bNmF_eq, asg2F_eq, augF_eq, contF_eq, pLenF_eq, pIxF_eq, ixNPF_eq, lenNF_eq, mineF_eq, putMF_eq, isLF_eq, appendF_eq, pop0F_eq, popAtF_eq]
  rfl
def setIxF (i : Nat) (fk fe : EF) : SF := fun env => match fe env with
  | none => none
  | some (d, e) => match isLF e i with
    | false => none
    | true => match fk e with
      | some (.int k, e2) => match mineF e2 i with
        | some (.list ds) => match ixN (lnF ds) k with
          | none => none
          | some j => some (.nx (putMF e2 i (.list (stF j ds d))))
        | _ => none
      | _ => none
theorem setIxF_eq : @setIxF = @setIx := by
  funext a0 a1 a2 a3
  simp only [setIxF, gtF_eq, stF_eq, lnF_eq, atF_eq, setVF_eq, nmF_eq, asgF_eq, asgOF_eq, bNmF_eq, asg2F_eq, augF_eq, contF_eq, pLenF_eq, pIxF_eq, ixNPF_eq, lenNF_eq, mineF_eq, putMF_eq, isLF_eq, appendF_eq, pop0F_eq, popAtF_eq, extendF_eq]
  rfl
def augIxF (i : Nat) (g : PV → PV → Option PV) (fk fe : EF) : SF := fun env => match isLF env i with
  | false => none
  | true => match fk env with
    | some (.int k, e1) => match mineF e1 i with
      | some (.list ds) => match atF ds k with
        | none => none
        | some a => match fe e1 with
          | none => none
          | some (b, e2) => match g a b with
            | none => none
            | some d => match mineF e2 i with
              | some (.list es) => match ixN (lnF es) k with
                | none => none
                | some j => some (.nx (putMF e2 i (.list (stF j es d))))
              | _ => none
      | _ => none
    | _ => none
theorem augIxF_eq : @augIxF = @augIx := by
  funext a0 a1 a2 a3 a4
  simp only [augIxF, gtF_eq, stF_eq, lnF_eq, atF_eq, setVF_eq, nmF_eq, asgF_eq, asgOF_eq, bNmF_eq, asg2F_eq, augF_eq, contF_eq, pLenF_eq, pIxF_eq, ixNPF_eq, lenNF_eq, mineF_eq, putMF_eq, isLF_eq, appendF_eq, pop0F_eq, popAtF_eq, extendF_eq, setIxF_eq]
  rfl
def callIOF (i : Nat) (g : PV → List PV → Option (PV × PV)) (f : AF) : EF := fun env => match mineF env i with
  | none => none
  | some _ => match f env with
    | none => none
    | some (ds, e) => match mineF e i with
      | none => none
      | some d => match g d ds with
        | none => none
        | some (d', r) => some (r, putMF e i d')
theorem callIOF_eq : @callIOF = @callIO := by
  funext a0 a1 a2 a3
  simp only [callIOF, gtF_eq, stF_eq, lnF_eq, atF_eq, setVF_eq, nmF_eq, asgF_eq, asgOF_eq, bNmF_eq, asg2F_eq, augF_eq, contF_eq, pLenF_eq, pIxF_eq, ixNPF_eq, lenNF_eq, mineF_eq, putMF_eq, isLF_eq, appendF_eq, pop0F_eq, popAtF_eq, extendF_eq, setIxF_eq, augIxF_eq]
  rfl
def wipeEF (env : Ev) : List Nat → Ev
  | [] => env
  | i :: r => stF i (wipeEF env r) .no
theorem wipeEF_eq : @wipeEF = @wipeE := by
  funext env vs
  induction vs with
  | nil => rfl
  | cons i r ih => simp only [wipeEF, wipeE, ih, stF_eq]
def ioFF (e : Ev) (vs : List Nat) : Bool := vs.all fun i => match gtF i e with | some (.io _) => false | _ => true
theorem ioFF_eq : @ioFF = @ioF := by
  funext a0 a1
  simp only [ioFF, gtF_eq, stF_eq, lnF_eq, atF_eq, setVF_eq, nmF_eq, asgF_eq, asgOF_eq, bNmF_eq, asg2F_eq, augF_eq, contF_eq, pLenF_eq, pIxF_eq, ixNPF_eq, lenNF_eq, mineF_eq, putMF_eq, isLF_eq, appendF_eq, pop0F_eq, popAtF_eq, extendF_eq, setIxF_eq, augIxF_eq, callIOF_eq, wipeEF_eq]
  rfl
def putIxF (i : Nat) (fk fe : EF) : SF := fun env => match fe env with
  | none => none
  | some (d, e) => match mineF e i with
    | none => none
    | some _ => match fk e with
      | none => none
      | some (y, e2) => match keyOf y with
        | none => none
        | some k => match mineF e2 i with
          | some (.dict ds) => if plainD ds = true ∧ lnF ds < sizeLine then some (.nx (putMF e2 i (.dict (dPut k d ds)))) else none
          | _ => none
theorem putIxF_eq : @putIxF = @putIx := by
  funext a0 a1 a2 a3
  simp only [putIxF, gtF_eq, stF_eq, lnF_eq, atF_eq, setVF_eq, nmF_eq, asgF_eq, asgOF_eq, bNmF_eq, asg2F_eq, augF_eq, contF_eq, pLenF_eq, pIxF_eq, ixNPF_eq, lenNF_eq, mineF_eq, putMF_eq, isLF_eq, appendF_eq, pop0F_eq, popAtF_eq, extendF_eq, setIxF_eq, augIxF_eq, callIOF_eq, wipeEF_eq, ioFF_eq]
  rfl
def dIxF (i : Nat) (fb : EF) : EF := fun env => match contF env i with
  | none => none
  | some _ => match fb env with
    | none => none
    | some (y, e) => match keyOf y with
      | none => none
      | some k => match contF e i with
        | some (.dict ds) => if plainD ds = true then (match dVal k ds with
            | none => none
            | some r => some (r, e)) else none
        | _ => none
theorem dIxF_eq : @dIxF = @dIx := by
  funext a0 a1 a2
  simp only [dIxF, gtF_eq, stF_eq, lnF_eq, atF_eq, setVF_eq, nmF_eq, asgF_eq, asgOF_eq, bNmF_eq, asg2F_eq, augF_eq, contF_eq, pLenF_eq, pIxF_eq, ixNPF_eq, lenNF_eq, mineF_eq, putMF_eq, isLF_eq, appendF_eq, pop0F_eq, popAtF_eq, extendF_eq, setIxF_eq, augIxF_eq, callIOF_eq, wipeEF_eq, ioFF_eq, putIxF_eq]
  rfl
def dInF (g : Bool → Bool) (i : Nat) (fb : EF) : EF := fun env => match fb env with
  | none => none
  | some (y, e) => match keyOf y with
    | none => none
    | some k => match contF e i with
      | some (.dict ds) => if plainD ds = true then some (.bool (g (dVal k ds).isSome), e) else none
      | _ => none
theorem dInF_eq : @dInF = @dIn := by
  funext a0 a1 a2 a3
  simp only [dInF, gtF_eq, stF_eq, lnF_eq, atF_eq, setVF_eq, nmF_eq, asgF_eq, asgOF_eq, bNmF_eq, asg2F_eq, augF_eq, contF_eq, pLenF_eq, pIxF_eq, ixNPF_eq, lenNF_eq, mineF_eq, putMF_eq, isLF_eq, appendF_eq, pop0F_eq, popAtF_eq, extendF_eq, setIxF_eq, augIxF_eq, callIOF_eq, wipeEF_eq, ioFF_eq, putIxF_eq, dIxF_eq]
  rfl
def coFF (vs : List Nat) (bi : BF) (t : TF) (f : EF) : List PV → List PV → Ev → Option (List PV × Ev)
  | [], acc, env => some (acc, env)
  | d :: ds, acc, env => match bi d env with
    | none => none
    | some e => match t e with
      | none => none
      | some (false, e2) => coFF vs bi t f ds acc (wipeEF e2 vs)
      | some (true, e2) => match f e2 with
        | none => none
        | some (r, e3) => if lnF acc < sizeLine then coFF vs bi t f ds (acc ++ [r]) (wipeEF e3 vs) else none
theorem coFF_eq : @coFF = @coF := by
  funext vs bi t f ds
  induction ds with
  | nil => rfl
  | cons d ds ih => funext acc env; simp only [coFF, coF, ih, gtF_eq, lnF_eq, setVF_eq, nmF_eq, asgF_eq, asgOF_eq, bNmF_eq, asg2F_eq, augF_eq, contF_eq, pLenF_eq, pIxF_eq, ixNPF_eq, lenNF_eq, mineF_eq, putMF_eq, isLF_eq, appendF_eq, pop0F_eq, popAtF_eq, extendF_eq, setIxF_eq, augIxF_eq, callIOF_eq, wipeEF_eq, ioFF_eq, putIxF_eq, dIxF_eq, dInF_eq] <;> rfl
def coF2F (vs vs1 : List Nat) (bi : BF) (t : TF) (w1 : AF) (bi1 : BF) (t1 : TF) (f : EF) : List PV → List PV → Ev → Option (List PV × Ev)
  | [], acc, env => some (acc, env)
  | d :: ds, acc, env => match bi d env with
    | none => none
    | some e => match t e with
      | none => none
      | some (false, e2) => coF2F vs vs1 bi t w1 bi1 t1 f ds acc (wipeEF e2 vs)
      | some (true, e2) => match w1 e2 with
        | none => none
        | some (ds1, e3) => match coFF vs1 bi1 t1 f ds1 acc (wipeEF e3 vs1) with
          | none => none
          | some (acc2, e4) => coF2F vs vs1 bi t w1 bi1 t1 f ds acc2 (wipeEF e4 vs)
theorem coF2F_eq : @coF2F = @coF2 := by
  funext vs vs1 bi t w1 bi1 t1 f ds
  induction ds with
  | nil => rfl
  | cons d ds ih => funext acc env; simp only [coF2F, coF2, ih, gtF_eq, lnF_eq, coFF_eq, setVF_eq, nmF_eq, asgF_eq, asgOF_eq, bNmF_eq, asg2F_eq, augF_eq, contF_eq, pLenF_eq, pIxF_eq, ixNPF_eq, lenNF_eq, mineF_eq, putMF_eq, isLF_eq, appendF_eq, pop0F_eq, popAtF_eq, extendF_eq, setIxF_eq, augIxF_eq, callIOF_eq, wipeEF_eq, ioFF_eq, putIxF_eq, dIxF_eq, dInF_eq] <;> rfl
def eLcF (vs : List Nat) (w : AF) (bi : BF) (t : TF) (f : EF) : EF := fun env => match w env with
  | none => none
  | some (ds, e) => if vs.all (fun i => match gtF i e with | some (.io _) => false | _ => true) then match coFF vs bi t f ds [] (wipeEF e vs) with
      | none => none
      | some (acc, e2) => some (.list acc, wipeEF e2 vs)
    else none
theorem eLcF_eq : @eLcF = @eLc := by
  funext a0 a1 a2 a3 a4 a5
  simp only [eLcF, gtF_eq, lnF_eq, coFF_eq, coF2F_eq, setVF_eq, nmF_eq, asgF_eq, asgOF_eq, bNmF_eq, asg2F_eq, augF_eq, contF_eq, pLenF_eq, pIxF_eq, ixNPF_eq, lenNF_eq, mineF_eq, putMF_eq, isLF_eq, appendF_eq, pop0F_eq, popAtF_eq, extendF_eq, setIxF_eq, augIxF_eq, callIOF_eq, wipeEF_eq, ioFF_eq, putIxF_eq, dIxF_eq, dInF_eq]
  rfl
def eLc2F (vs vs1 : List Nat) (w : AF) (bi : BF) (t : TF) (w1 : AF) (bi1 : BF) (t1 : TF) (f : EF) : EF := fun env => match w env with
  | none => none
  | some (ds, e) => if ioFF e vs = true then match coF2F vs vs1 bi t w1 bi1 t1 f ds [] (wipeEF e vs) with
      | none => none
      | some (acc, e2) => some (.list acc, wipeEF e2 vs)
    else none
theorem eLc2F_eq : @eLc2F = @eLc2 := by
  funext a0 a1 a2 a3 a4 a5 a6 a7 a8 a9
  simp only [eLc2F, gtF_eq, lnF_eq, coFF_eq, coF2F_eq, setVF_eq, nmF_eq, asgF_eq, asgOF_eq, bNmF_eq, asg2F_eq, augF_eq, contF_eq, pLenF_eq, pIxF_eq, ixNPF_eq, lenNF_eq, mineF_eq, putMF_eq, isLF_eq, appendF_eq, pop0F_eq, popAtF_eq, extendF_eq, setIxF_eq, augIxF_eq, callIOF_eq, wipeEF_eq, ioFF_eq, putIxF_eq, dIxF_eq, dInF_eq]
  rfl
/-- the fast readings are the readings -/
theorem fast_all : True := trivial
end Fx

namespace Fx
open PySem PySem.Spec L2
open PyProof.Rows hiding St
theorem hu65 {k : Nat} {A : Around} (r : Room k A) : A.units + 65 < cLine := by have := r.un; omega
def nwR (n : Nat) : Nat → Nat → Nat
  | 0, x => x
  | f + 1, x => if (x + n / x) / 2 < x then nwR n f ((x + n / x) / 2) else x
def rootN (n : Nat) : Nat := nwR n 80 (2 ^ (n.log2 / 2 + 1))
theorem sq_uniq {n a b : Nat} (h1 : a * a ≤ n) (h2 : n < (a + 1) * (a + 1)) (h3 : b * b ≤ n) (h4 : n < (b + 1) * (b + 1)) : a = b := by
  rcases Nat.lt_trichotomy a b with h | h | h
  · have := Nat.mul_le_mul (show a + 1 ≤ b from h) (show a + 1 ≤ b from h); omega
  · exact h
  · have := Nat.mul_le_mul (show b + 1 ≤ a from h) (show b + 1 ≤ a from h); omega
def pIsq : List PV → Option PV
  | [.int i] => if 0 ≤ i ∧ i < 2 ^ 64 ∧ rootN i.toNat * rootN i.toNat ≤ i.toNat ∧ i.toNat < (rootN i.toNat + 1) * (rootN i.toNat + 1) then some (.int (rootN i.toNat : Nat)) else none
  | _ => none
def rIsq : List V → Hp → VK → Prop := fun vs H Q => ∃ i : Int, vs = [.int i] ∧ 0 ≤ i ∧ i < 2 ^ 64 ∧ Q (.int ((Float64.isqrt i.toNat : Nat) : Int)) H
theorem cr_isqrt {X : Cx} : CallR X (.builtin "math.isqrt") rIsq := by
  intro pins s σ H vs us Q I r h
  obtain ⟨i, rfl, h0, h1, q⟩ := h
  cases r with
  | cons r1 r2 =>
    cases r2
    obtain ⟨t, rfl⟩ := r1
    exact PySem.W.mg_isqrt h0 h1 ⟨.int _, H, I.tok _, ⟨_, rfl⟩, q⟩
theorem cf_isqrt {T : List Addr} {K : PySem.W.Frag} : CallF T K rIsq pIsq := by
  intro gh F H σ env xs ds d Q R r e q
  unfold pIsq at e
  split at e
  · split at e
    · rename_i i hc
      cases e
      cases r with
      | cons r1 r2 =>
        cases r2
        obtain ⟨h1, h2⟩ := Float64.isqrt_spec i.toNat
        have hs : Float64.isqrt i.toNat = rootN i.toNat := sq_uniq h1 h2 hc.2.2.1 hc.2.2.2
        refine ⟨i, by rw [r1.int_iff], hc.1, hc.2.1, ?_⟩
        rw [hs]
        exact q _ _ _ R (Same.refl _) (.int _)
    · cases e
  · cases e
section
variable {T : List Addr} {X : Cx}
def asg3 (i j l : Nat) (f : AF) : SF := fun env => match f env with
  | some ([a, b, c], e) => match setV e i (.va a) with
    | none => none
    | some e1 => match setV e1 j (.va b) with
      | none => none
      | some e2 => match setV e2 l (.va c) with
        | none => none
        | some e3 => some (.nx e3)
  | _ => none
theorem fs_par3 (i j l : Nat) {x y z : Str} {a b c : Expr} {f : AF} {px py pz pt pos : Pos} {kt k2 : Nat} {pt2 : Pos} (hN : X.N.Nodup) (ha : FA T X [a, b, c] f) (hij : i ≠ j := by decide) (hil : i ≠ l := by decide) (hjl : j ≠ l := by decide) (hi : X.N[i]? = some x := by rfl) (hj : X.N[j]? = some y := by rfl) (hl : X.N[l]? = some z := by rfl)
    (hc : X.calm = true := by rfl) (hx : X.env.scope.names.lookup x = some .local := by rfl) (hy : X.env.scope.names.lookup y = some .local := by rfl) (hz : X.env.scope.names.lookup z = some .local := by rfl)
    (hw : swappedStores [.Tuple [.Name x px, .Name y py, .Name z pz] kt pt] (.Tuple [a, b, c] k2 pt2) X.env = pure (some [x, y, z]) := by rfl)
    (hs : swapsWithSole [.Tuple [.Name x px, .Name y py, .Name z pz] kt pt] (.Tuple [a, b, c] k2 pt2) pos.line X.env = pure false := by rfl) :
    FS T X (.Assign [.Tuple [.Name x px, .Name y py, .Name z pz] kt pt] (.Tuple [a, b, c] k2 pt2) pos) (asg3 i j l f) :=
  (ps_par3 hc hN hi hj hl hij hil hjl hx hy hz ha hw hs).weak fun D σ H ⟨gh, F, env, out, R, e, q⟩ => by
    unfold asg3 at e
    split at e
    · rename_i d1 d2 d3 e1 ef
      split at e
      · cases e
      · rename_i e2 es
        split at e
        · cases e
        · rename_i e3 es2
          split at e
          · cases e
          · rename_i e4 es3
            cases e
            refine ⟨gh, F, env, _, _, R, ef, fun vs H1 F1 R1 s1 r1 => ?_⟩
            cases r1 with
            | cons ra r2 => cases r2 with
              | cons rb r3 => cases r3 with
                | cons rc r4 =>
                  cases r4
                  exact ⟨_, _, _, rfl, q _ _ _ (((R1.put es (.inr (.inl ⟨_, rfl, ra⟩))).put es2 (.inr (.inl ⟨_, rfl, rb⟩))).put es3 (.inr (.inl ⟨_, rfl, rc⟩))) s1⟩
    · cases e
def pInB (g : Bool → Bool) : PV → PV → Option PV
  | d, .list ds => if noDict d && noDict (.list ds) && SeqAt.shaped d && SeqAt.shaped (.list ds) then some (.bool (g (ds.any fun z => PyData.eqv z d))) else none
  | _, _ => none
theorem of_inD {K : PySem.W.Frag} : OpF T K (rInD K) (pInB id) := by
  intro gh F H σ env x y a b d Q R ra rb e q
  unfold pInB at e
  split at e
  · split at e
    · rename_i hc
      cases e
      simp only [Bool.and_eq_true] at hc
      exact ⟨_, _, ra.dp R.sub hc.1.1.1, rb.dp R.sub hc.1.1.2, hc.1.2, hc.2, q _ _ _ R (Same.refl _) (.bl _)⟩
    · cases e
  · cases e
theorem of_notInD {K : PySem.W.Frag} : OpF T K (rNotInD K) (pInB not) := by
  intro gh F H σ env x y a b d Q R ra rb e q
  unfold pInB at e
  split at e
  · split at e
    · rename_i hc
      cases e
      simp only [Bool.and_eq_true] at hc
      exact ⟨_, _, ra.dp R.sub hc.1.1.1, rb.dp R.sub hc.1.1.2, hc.1.2, hc.2, q _ _ _ R (Same.refl _) (.bl _)⟩
    · cases e
  · cases e
end
end Fx

namespace Fx
open PySem PySem.Spec L2
open PyProof.Rows hiding St
def keysOf : List PV → Option (List Key)
  | [] => some []
  | d :: r => match keyOf d with
    | none => none
    | some k => match keysOf r with
      | none => none
      | some ks => some (k :: ks)
def keyT : PV → Option (List Key)
  | .tuple ds => keysOf ds
  | _ => none
def eqKs : List Key → List PV → Bool
  | [], [] => true
  | k :: ks, d :: ds => isK k d && eqKs ks ds
  | _, _ => false
def isKT (k : List Key) : PV → Bool
  | .tuple ds => eqKs k ds
  | _ => false
def dValT (k : List Key) : List (PV × PV) → Option PV
  | [] => none
  | (d, v) :: r => if isKT k d then some v else dValT k r
def dAnyT (k : List Key) : List (PV × PV) → Bool
  | [] => false
  | (d, _) :: r => isKT k d || dAnyT k r
def dMapT (k : List Key) (v : PV) : List (PV × PV) → List (PV × PV)
  | [] => []
  | (d, x) :: r => (if isKT k d then (d, v) else (d, x)) :: dMapT k v r
def dPutT (k : List Key) (v : PV) (ds : List (PV × PV)) : List (PV × PV) := if dAnyT k ds then dMapT k v ds else ds ++ [(.tuple (k.map kD), v)]
theorem eqKs_kD : ∀ {k j : List Key}, eqKs k (j.map kD) = decide (j = k)
  | [], [] => rfl
  | [], _ :: _ => (decide_eq_false (fun z => nomatch z)).symm
  | _ :: _, [] => (decide_eq_false (fun z => nomatch z)).symm
  | a :: k, b :: j => by
    show (isK a (kD b) && eqKs k (j.map kD)) = _
    rw [isK_kD, eqKs_kD]
    by_cases h1 : b = a
    · by_cases h2 : j = k
      · subst h1; subst h2; simp
      · rw [decide_eq_false h2, Bool.and_false, decide_eq_false (fun z => h2 (List.cons.inj z).2)]
    · rw [decide_eq_false h1, Bool.false_and, decide_eq_false (fun z => h1 (List.cons.inj z).1)]
theorem isKT_kD {k j : List Key} : isKT k (.tuple (j.map kD)) = decide (j = k) := eqKs_kD
section
variable {K : PySem.W.Frag} {F F' H : Hp} {k : List Key}
theorem RepT.any : ∀ {kvs : List (List Key × V)} {ds : List (PV × PV)}, RepT K F kvs ds → dAnyT k ds = kvs.any fun kv => decide (kv.1 = k)
  | _, _, .nil => rfl
  | _, _, .cons r t => by
    unfold dAnyT
    rw [List.any_cons, isKT_kD, RepT.any t]
theorem RepT.val : ∀ {kvs : List (List Key × V)} {ds : List (PV × PV)}, RepT K F kvs ds → (∀ d, dValT k ds = some d → ∃ v, valV kvs k = some v ∧ Rep K F v d) ∧ (dValT k ds = none → valV kvs k = none)
  | _, _, .nil => ⟨fun d e => (by cases e), fun _ => rfl⟩
  | _, _, .cons (k := j) (v := v) r t => by
    unfold dValT
    rw [isKT_kD]
    by_cases h : j = k
    · rw [if_pos (decide_eq_true h), valV_pos (p := (j, v)) h]
      exact ⟨fun d e => (by cases e; exact ⟨_, rfl, r⟩), fun e => (by cases e)⟩
    · rw [if_neg (by simpa using h), valV_neg (p := (j, v)) h]
      exact RepT.val t
theorem RepT.map {v : V} {d : PV} (rv : Rep K F v d) : ∀ {kvs : List (List Key × V)} {ds : List (PV × PV)}, RepT K F kvs ds → RepT K F (kvs.map fun kv => if kv.1 = k then (kv.1, v) else kv) (dMapT k d ds)
  | _, _, .nil => .nil
  | _, _, .cons (k := j) (v := w) r t => by
    unfold dMapT
    rw [isKT_kD, List.map_cons]
    by_cases h : j = k
    · simp only [h, if_true, decide_true]
      exact .cons rv (RepT.map rv t)
    · simp only [h, if_false, decide_false, Bool.false_eq_true]
      exact .cons r (RepT.map rv t)
theorem RepT.snoc {v : V} {d : PV} (rv : Rep K F v d) : ∀ {kvs : List (List Key × V)} {ds : List (PV × PV)}, RepT K F kvs ds → RepT K F (kvs ++ [(k, v)]) (ds ++ [(.tuple (k.map kD), d)])
  | _, _, .nil => .cons rv .nil
  | _, _, .cons r t => .cons r (RepT.snoc rv t)
theorem RepT.put {v : V} {d : PV} (rv : Rep K F v d) {kvs : List (List Key × V)} {ds : List (PV × PV)} (r : RepT K F kvs ds) : RepT K F (putK kvs k v) (dPutT k d ds) := by
  unfold putK dPutT
  rw [r.any]
  split
  · exact RepT.map rv r
  · exact RepT.snoc rv r
theorem RepT.len : ∀ {kvs : List (List Key × V)} {ds : List (PV × PV)}, RepT K F kvs ds → kvs.length = ds.length
  | _, _, .nil => rfl
  | _, _, .cons _ t => by simp [RepT.len t]
theorem Reps.keys : ∀ {xs : List V} {ds : List PV} {ks : List Key}, Reps K F xs ds → keysOf ds = some ks → xs = ks.map kV
  | _, _, _, .nil, h => by cases h; rfl
  | _, _, _, .cons r t, h => by
    unfold keysOf at h
    split at h
    · cases h
    · rename_i k1 h1
      split at h
      · cases h
      · rename_i ks1 h2
        cases h
        rw [r.key h1, Reps.keys t h2]; rfl
theorem Rep.keyT {y : V} {d : PV} (s : Same F H) (r : Rep K F y d) (h : Fx.keyT d = some k) : ∃ b, y = .ref b ∧ H b = some (.tup (k.map kV)) := by
  cases r with
  | tup hF rr => exact ⟨_, rfl, by rw [← rr.keys h]; exact s _ _ hF⟩
  | _ => cases h
theorem Own.isDt {a : Addr} {ds : List (PV × PV)} (ho : Own K F H a (.dict ((.none, .none) :: ds))) : ∃ kvs, H a = some (.dT kvs) ∧ RepT K F kvs ds := by
  generalize e : PyData.dict ((.none, .none) :: ds) = d at ho
  cases ho with
  | lst h r => cases e
  | dk h r =>
    injection e with e
    cases r with
    | nil => cases e
    | cons r1 r2 =>
      rename_i k _ _ _ _
      injection e with e1 e2
      injection e1 with e1 e3
      cases k <;> cases e1
  | dt h r => cases e; exact ⟨_, h, r⟩
theorem Rep.isDt {v : V} {ds : List (PV × PV)} (h : Rep K F v (.dict ((.none, .none) :: ds))) : ∃ a kvs, v = .ref a ∧ F a = some (.dT kvs) ∧ RepT K F kvs ds := by
  generalize e : PyData.dict ((.none, .none) :: ds) = d at h
  cases h with
  | dt h r => cases e; exact ⟨_, _, rfl, h, r⟩
  | dk h r =>
    injection e with e
    cases r with
    | nil => cases e
    | cons r1 r2 =>
      rename_i k _ _ _ _
      injection e with e1 e2
      injection e1 with e1 e3
      cases k <;> cases e1
  | lk h r =>
    injection e with e
    injection e with e1 e2
    injection e1 with e1 e3
    cases e1
  | _ => cases e
theorem Read.dt {v : V} {ds : List (PV × PV)} (s : Same F H) (h : Read K F H v (.dict ((.none, .none) :: ds))) : ∃ a kvs, v = .ref a ∧ H a = some (.dT kvs) ∧ RepT K F kvs ds := by
  cases h with
  | val r =>
    obtain ⟨a, kvs, e, h1, h2⟩ := r.isDt
    exact ⟨a, kvs, e, s _ _ h1, h2⟩
  | own r =>
    obtain ⟨kvs, h1, h2⟩ := r.isDt
    exact ⟨_, _, rfl, h1, h2⟩
end
section
variable {T : List Addr} {X : Cx}
/-- {}, to be keyed by tuples -/
def eDt : EF := fun env => some (.dict [(.none, .none)], env)
theorem fn_dt {pos : Pos} : FN T X (.Dict [] [] pos) eDt := pe_dnewT.weak fun σ H Q ⟨gh, F, env, d, env', R, e, q⟩ => by
  cases e
  intro p hp
  obtain ⟨h0, nT, hF⟩ := R.fresh hp
  exact q p _ F (R.laid hp) (Same.refl _) hF h0 (R.own_ne hp) (.dt upd_same .nil)
def putIxT (i : Nat) (fk fe : EF) : SF := fun env => match fe env with
  | none => none
  | some (d, e) => match Fx.mine e i with
    | none => none
    | some _ => match fk e with
      | none => none
      | some (y, e2) => match keyT y with
        | none => none
        | some k => match Fx.mine e2 i with
          | some (.dict ((.none, .none) :: ds)) => if ds.length < sizeLine then some (.nx (putM e2 i (.dict ((.none, .none) :: dPutT k d ds)))) else none
          | _ => none
theorem fs_putIxT (i : Nat) {x : Str} {px tpos pos : Pos} {b a : Expr} {fk fe : EF} (hu : X.A.units + 1 < cLine) (hb : FE T X b fk) (ha : FE T X a fe) (hN : X.N[i]? = some x := by rfl) (hv : Vis X.env.scope x := by first | exact Or.inl rfl | exact Or.inr (Or.inl rfl) | exact Or.inr (Or.inr rfl))
    (hd : (x == ("__debug__" : Str)) = false := by decide) (hcd : (x == ("__classdict__" : Str)) = false := by decide) (hs : swapsWith a (some (.Subscript (.Name x px) b tpos)) pos.line X.env = pure false := by rfl) :
    FS T X (.Assign [.Subscript (.Name x px) b tpos] a pos) (putIxT i fk fe) :=
  (ps_dput hu (pe_var hN hv hd hcd) hb ha hs).weak fun D σ H ⟨gh, F, env, out, R, e, q⟩ => by
    unfold putIxT at e
    split at e
    · cases e
    · rename_i d e1 ef
      refine ⟨gh, F, env, _, _, R, ef, fun v H1 F1 R1 s1 r1 => ?_⟩
      split at e
      · cases e
      · rename_i d0 h0
        obtain ⟨p, ep, _, ho, _⟩ := R1.mine h0
        refine ⟨.ref p, ep, ?_⟩
        split at e
        · cases e
        · rename_i y e2 ek
          refine ⟨gh, F1, _, _, _, R1, ek, fun y' H2 F2 R2 s2 r2 => ?_⟩
          split at e
          · cases e
          · rename_i k hk
            split at e
            · rename_i ds h2
              split at e
              · rename_i hpl
                cases e
                obtain ⟨p', ep', hF1, ho1, upd1⟩ := R2.mine h2
                rw [ep] at ep'; cases ep'
                obtain ⟨kvs, hx, rr⟩ := ho1.isDt
                obtain ⟨b, rfl, hb⟩ := r2.keyT R2.sub hk
                refine ⟨p, _, rfl, DPut.t hx hb (by rw [rr.len]; exact hpl), ?_⟩
                exact q _ _ F2 (upd1 _ _ (.dt upd_same (RepT.put (r1.mono s2) rr))) (s1.trans s2)
              · cases e
            · cases e
def dIxT (i : Nat) (fb : EF) : EF := fun env => match Fx.cont env i with
  | none => none
  | some _ => match fb env with
    | none => none
    | some (y, e) => match keyT y with
      | none => none
      | some k => match Fx.cont e i with
        | some (.dict ((.none, .none) :: ds)) => (match dValT k ds with
            | none => none
            | some r => some (r, e))
        | _ => none
theorem fe_dIxT (i : Nat) {x : Str} {px pos : Pos} {b : Expr} {fb : EF} (hu : X.A.units + 1 < cLine) (hb : FE T X b fb) (hN : X.N[i]? = some x := by rfl) (hv : Vis X.env.scope x := by first | exact Or.inl rfl | exact Or.inr (Or.inl rfl) | exact Or.inr (Or.inr rfl)) (hs : NoSl b := by exact fun _ _ => rfl)
    (hd : (x == ("__debug__" : Str)) = false := by decide) (hcd : (x == ("__classdict__" : Str)) = false := by decide) : FE T X (.Subscript (.Name x px) b pos) (dIxT i fb) :=
  (pe_dget hu (pe_var hN hv hd hcd) hb hs).weak fun σ H Q ⟨gh, F, env, d, env', R, e, q⟩ => by
    unfold dIxT at e
    split at e
    · cases e
    · rename_i d0 h0
      obtain ⟨v, ev, _⟩ := R.cont h0
      refine ⟨v, ev, ?_⟩
      split at e
      · cases e
      · rename_i y e1 eb
        refine ⟨gh, F, env, _, _, R, eb, fun y' H1 F1 R1 s1 rb => ?_⟩
        split at e
        · cases e
        · rename_i k hk
          split at e
          · rename_i ds h1
            split at e
            · cases e
            · rename_i r er
              cases e
              obtain ⟨v', ev', rd⟩ := R1.cont h1
              rw [ev] at ev'
              cases ev'
              obtain ⟨a, kvs, rfl, hl, rr⟩ := rd.dt R1.sub
              obtain ⟨w, e2, r2⟩ := rr.val.1 _ er
              obtain ⟨b, rfl, hbb⟩ := rb.keyT R1.sub hk
              exact ⟨a, w, rfl, by rw [← e2]; exact DGet.t hl hbb, q _ _ _ R1 s1 r2⟩
          · cases e
def dInT (g : Bool → Bool) (i : Nat) (fb : EF) : EF := fun env => match fb env with
  | none => none
  | some (y, e) => match keyT y with
    | none => none
    | some k => match Fx.cont e i with
      | some (.dict ((.none, .none) :: ds)) => some (.bool (g (dValT k ds).isSome), e)
      | _ => none
theorem dInT_run {i : Nat} {g : Bool → Bool} {fb : EF} {K : PySem.W.Frag} {σ : St} {H : Hp} {Q : VK} (h : RE T K (dInT g i fb) σ H Q) : RE T K fb σ H fun y H1 => tVar i σ H1 fun x H2 => ∃ a o, x = .ref a ∧ DGet H2 a y o ∧ Q (.bl (g o.isSome)) H2 := by
  obtain ⟨gh, F, env, d, env', R, e, q⟩ := h
  unfold dInT at e
  split at e
  · cases e
  · rename_i y e1 eb
    refine ⟨gh, F, env, _, _, R, eb, fun y' H1 F1 R1 s1 rb => ?_⟩
    split at e
    · cases e
    · rename_i k hk
      split at e
      · rename_i ds h1
        cases e
        obtain ⟨v', ev', rd⟩ := R1.cont h1
        obtain ⟨a, kvs, rfl, hl, rr⟩ := rd.dt R1.sub
        obtain ⟨b, rfl, hbb⟩ := rb.keyT R1.sub hk
        refine ⟨_, ev', a, valV kvs k, rfl, DGet.t hl hbb, ?_⟩
        have e3 : (valV kvs k).isSome = (dValT k ds).isSome := by
          cases hv : dValT k ds with
          | none => rw [rr.val.2 hv]; rfl
          | some r =>
            obtain ⟨w, e2, _⟩ := rr.val.1 _ hv
            rw [e2]; rfl
        rw [e3]
        exact q _ _ _ R1 s1 (.bl _)
      · cases e
theorem fe_dInT (i : Nat) {x : Str} {px pos : Pos} {b : Expr} {fb : EF} (hu : X.A.units + 1 < cLine) (hb : FE T X b fb) (hN : X.N[i]? = some x := by rfl) (hv : Vis X.env.scope x := by first | exact Or.inl rfl | exact Or.inr (Or.inl rfl) | exact Or.inr (Or.inr rfl))
    (hd : (x == ("__debug__" : Str)) = false := by decide) (hcd : (x == ("__classdict__" : Str)) = false := by decide) (h1 : behindInMarks .In (.Name x px) = false := by rfl) : FE T X (.Compare b [.In] [.Name x px] pos) (dInT id i fb) :=
  (pe_cmp (pc_din hu hb (pe_var hN hv hd hcd)) h1).weak fun σ H Q h => dInT_run h
theorem fe_dNotInT (i : Nat) {x : Str} {px pos : Pos} {b : Expr} {fb : EF} (hu : X.A.units + 1 < cLine) (hb : FE T X b fb) (hN : X.N[i]? = some x := by rfl) (hv : Vis X.env.scope x := by first | exact Or.inl rfl | exact Or.inr (Or.inl rfl) | exact Or.inr (Or.inr rfl))
    (hd : (x == ("__debug__" : Str)) = false := by decide) (hcd : (x == ("__classdict__" : Str)) = false := by decide) (h1 : behindInMarks .NotIn (.Name x px) = false := by rfl) : FE T X (.Compare b [.NotIn] [.Name x px] pos) (dInT not i fb) :=
  (pe_cmp (pc_dnotin hu hb (pe_var hN hv hd hcd)) h1).weak fun σ H Q h => dInT_run h
theorem ft_dInT (i : Nat) {x : Str} {px pos : Pos} {b : Expr} {fb : EF} (hu : X.A.units + 1 < cLine) (hb : FE T X b fb) (hN : X.N[i]? = some x := by rfl) (hv : Vis X.env.scope x := by first | exact Or.inl rfl | exact Or.inr (Or.inl rfl) | exact Or.inr (Or.inr rfl))
    (hd : (x == ("__debug__" : Str)) = false := by decide) (hcd : (x == ("__classdict__" : Str)) = false := by decide) (h1 : behindInMarks .In (.Name x px) = false := by rfl) : FT T X (.Compare b [.In] [.Name x px] pos) (tB' (dInT id i fb)) :=
  (pt_cmp (pc_din hu hb (pe_var hN hv hd hcd)) h1).weak fun σ H Q h => dInT_run (rt_b σ H Q h)
theorem ft_dNotInT (i : Nat) {x : Str} {px pos : Pos} {b : Expr} {fb : EF} (hu : X.A.units + 1 < cLine) (hb : FE T X b fb) (hN : X.N[i]? = some x := by rfl) (hv : Vis X.env.scope x := by first | exact Or.inl rfl | exact Or.inr (Or.inl rfl) | exact Or.inr (Or.inr rfl))
    (hd : (x == ("__debug__" : Str)) = false := by decide) (hcd : (x == ("__classdict__" : Str)) = false := by decide) (h1 : behindInMarks .NotIn (.Name x px) = false := by rfl) : FT T X (.Compare b [.NotIn] [.Name x px] pos) (tB' (dInT not i fb)) :=
  (pt_cmp (pc_dnotin hu hb (pe_var hN hv hd hcd)) h1).weak fun σ H Q h => dInT_run (rt_b σ H Q h)
end
end Fx

namespace Fx
open PySem PySem.Spec L2 PySem.W PySem.Calls
open PyProof.Rows hiding St
section
variable {P : Program} {w : World} {A : Around} {E : Value → Shared → Prop} {z : Shared}
theorem call_set_lstI {l : Addr} {itz : Array Value} (js : List Int) {Q : Value → Shared → Prop} (hh : A.handled = none) (hl : z.heap.IsList l itz) (hit : IntsAre itz.toList js) (hb : js.length + 1 < scanBound)
    (h : ∀ (h' : Heap) (tq c : Nat), SetR w h' z.heap.objs.size (fun j => decide (j ∈ js)) c → c ≤ js.length → (∀ b o, z.heap.get? b = some o → h'.get? b = some o) → Q (.ref z.heap.objs.size) { z with heap := h', toks := tq }) :
    wpAny (model P w) A (call (.type "set") [.ref l]) Q E z := by
  have hisz : itz.size = js.length := by
    have q := IntsAre.length hit
    rw [Array.length_toList] at q
    exact q
  obtain ⟨c, tl, gmro⟩ := F.called_set.mro
  have gmade := F.called_set.made
  have gsub := F.called_set.sub
  refine wpAny_call (codeAny_of_tree ?_)
  show wpAny _ _ (callAny (.type "set") _) _ _ _
  refine wpAny_pure ⟨Code.quiet_builtin _ (by decide +kernel), codeAny_builtin F.entry_type_call ?_⟩
  rw [Around.under_plain (weight_type_call_type "set" [.ref l] []) rfl]
  have h1 := F.called_set.notType
  have h2 := F.called_set.canCreate
  have gct := F.typeCall_set_1 (.ref l)
  repeat (any_goals (first | assumption | wp_step))

  refine codeAny_mono (code_set_led1 (.ref l) (E := E) (Q₁ := fun obj s₁ => obj = .ref z.heap.objs.size ∧ s₁ = { z with heap := z.heap.push { cls := .type "set", dict := none, data := .set #[] 0 (.fresh 0 0 (!w.params.followText "set-order")) } }) ⟨rfl, rfl⟩) fun r s₁ gr => ?_
  cases r with
  | error e => exact gr
  | ok fl =>
    cases fl with
    | ret obj =>
      obtain ⟨rfl, rfl⟩ := gr
      have gS : (z.heap.push { cls := .type "set", dict := none, data := .set #[] 0 (.fresh 0 0 (!w.params.followText "set-order")) }).get? z.heap.objs.size = some { cls := .type "set", dict := none, data := .set #[] 0 (.fresh 0 0 (!w.params.followText "set-order")) } := Heap.get?_push_size _ rfl
      have gT : Shared.TypeIs { z with heap := z.heap.push { cls := .type "set", dict := none, data := .set #[] 0 (.fresh 0 0 (!w.params.followText "set-order")) } } (.ref z.heap.objs.size) "set" := ⟨_, gS, rfl⟩
      have gli := F.called_set.init.lookup
      have gbi := F.called_set.init.bind (.ref z.heap.objs.size)
      repeat (any_goals (first | assumption | wp_step))

      refine codeAny_mono (codeAny_call_builtin (R := wants (fun r s₂ => r = .none ∧ ∃ h' tq c, s₂ = { z with heap := h', toks := tq } ∧ SetR w h' z.heap.objs.size (fun j => decide (j ∈ js)) c ∧ c ≤ js.length ∧
          (∀ b o, z.heap.get? b = some o → h'.get? b = some o)) E) F.called_set.init.plain F.entry_set_init (check_set_init_1 gT ?_)) fun r₂ s₂ hr₂ => ?_
      · obtain ⟨pl, gol, hcl, pn, hdl⟩ := hl
        obtain ⟨ocls, odict, odata, oslots⟩ := pl
        simp only at hcl hdl
        subst hcl; subst hdl
        have gol' : (z.heap.push { cls := .type "set", dict := none, data := .set #[] 0 (.fresh 0 0 (!w.params.followText "set-order")) }).get? l = some { cls := .type "list", dict := odict, data := .seq itz pn, slots := oslots } := Heap.get?_push_of_some _ gol
        have gsls := F.sub_list_set
        have gslf := F.sub_list_frozenset
        have gne : (Value.type "list" == Value.type "dict") = false := by decide
        have gl1 : (z.heap.push { cls := .type "set", dict := none, data := .set #[] 0 (.fresh 0 0 (!w.params.followText "set-order")) }).IsList l itz := ⟨_, gol', rfl, pn, rfl⟩
        unfold Builtin.«set.__init__» noKeywords Builtin.Frozenset.updateFrom
        generalize hPI : pyIter = PI
        wp_walk
        subst hPI

        refine wpAny_pyIter_list gl1 ?_
        refine wpAny_bind (wpAny_runValue ?_)
        have glS : l < z.heap.objs.size := Heap.lt_size gol
        have gh3 : A.in1.in1.in1.handled = none := by simp [hh]
        have gz1 : (z.heap.push { cls := .type "set", dict := none, data := .set #[] 0 (.fresh 0 0 (!w.params.followText "set-order")) }).objs.size = z.heap.objs.size + 1 := Heap.size_push ..
        have gneI : l ≠ (z.heap.push { cls := .type "set", dict := none, data := .set #[] 0 (.fresh 0 0 (!w.params.followText "set-order")) }).objs.size := by
          rw [Heap.size_push]; exact Nat.ne_of_lt (Nat.lt_succ_of_lt glS)
        have gSf : z.heap.objs.size ∉ [(z.heap.push { cls := .type "set", dict := none, data := .set #[] 0 (.fresh 0 0 (!w.params.followText "set-order")) }).objs.size, l] := by
          rw [Heap.size_push]; simp only [List.mem_cons, List.mem_singleton, List.not_mem_nil, or_false, not_or]
          exact ⟨Nat.ne_of_lt (Nat.lt_succ_self _), Nat.ne_of_gt glS⟩
        have gval : ∀ (i : Nat) (v : Value), itz[i]? = some v → ∃ k t, js[i]? = some k ∧ v = .int k t := fun i v hv => by
          have hi : i < js.length := by rw [← hisz]; exact (Array.getElem?_eq_some_iff.mp hv).1
          obtain ⟨t, e⟩ := PyProof.Rows.IntsAre.int_at hit i v (by rw [Array.getElem?_toList]; exact hv)
          refine ⟨js[i], t, List.getElem?_eq_getElem hi, ?_⟩
          rw [e, List.getD_eq_getElem?_getD, List.getElem?_eq_getElem hi] <;> rfl
        refine set_update_ints ((Walks.list gh3 _ l gneI itz).toS) z.heap.objs.size
          gSf js hisz hb gval (itz.size - 0) 0 _ (by omega) (Nat.zero_le _)
          ⟨⟨_, Heap.get?_push_size _ rfl, rfl, rfl⟩, (gl1.push _)⟩ ?hS0 ?hR
        case hS0 =>
          have gget : ((z.heap.push { cls := .type "set", dict := none, data := .set #[] 0 (.fresh 0 0 (!w.params.followText "set-order")) }).push { cls := .type "list_iterator", data := .fields #[.ref l, .int 0 0] }).get? z.heap.objs.size
              = some { cls := .type "set", dict := none, data := .set #[] 0 (.fresh 0 0 (!w.params.followText "set-order")) } := Heap.get?_push_of_some _ gS
          exact ⟨0, Nat.le_refl 0, setR_new_at gget⟩
        case hR =>
          intro z' c' gm gc' gS'
          obtain ⟨h', g2, d', tq', os'⟩ := z'
          have eg : g2 = z.gens := gm.gens
          have ed : d' = z.drawn := gm.drawn
          have eo : os' = z.os := gm.os
          subst eg; subst ed; subst eo
          show wpAny _ _ _ _ _ _
          refine wpAny_pure ?_
          show wpAny _ _ (ret Value.none) _ _ _
          rw [hisz] at gc'
          refine wpAny_pure ⟨rfl, h', tq', c', rfl, gS', gc', fun b o e => ?_⟩
          have gb0 : b < z.heap.objs.size := Heap.lt_size e
          have gb1 : b ≠ z.heap.objs.size := Nat.ne_of_lt gb0
          have gb2 : b ≠ (z.heap.push { cls := .type "set", dict := none, data := .set #[] 0 (.fresh 0 0 (!w.params.followText "set-order")) }).objs.size := by
            rw [Heap.size_push]; exact Nat.ne_of_lt (Nat.lt_succ_of_lt gb0)
          exact gm.heap b o (by simp only [List.mem_cons, List.mem_singleton, List.not_mem_nil, or_false, not_or]; exact ⟨gb1, gb2⟩) (Heap.get?_push_of_some _ (Heap.get?_push_of_some _ e))

      · cases r₂ with
        | error e => exact hr₂
        | ok fl₂ =>
          cases fl₂ with
          | ret r =>
            obtain ⟨rfl, h', tq, c', rfl, gS', gc', gk'⟩ := hr₂
            repeat (any_goals (first | assumption | wp_step))
            exact h _ _ _ gS' gc' gk'
          | _ => exact hr₂.elim
    | _ => exact gr.elim

end
end Fx

namespace Fx
open PySem PySem.Spec L2
open PyProof.Rows hiding St
def rSetL (K : PySem.W.Frag) (w : World) : List V → Hp → VK → Prop := fun vs H Q => ∃ (l : Addr) (ns : List Int), vs = [.ref l] ∧ SqL K H l (ns.map V.int) ∧ ns.length ≤ 1000 ∧ ∀ (a : Addr) (c : Nat), H a = none → c ≤ ns.length → Q (.ref a) (upd H a (SetO w a (fun j => decide (j ∈ ns)) c))
theorem cr_setL {X : Cx} (hc : X.calm = true) : CallR X (.type "set") (rSetL X.K X.w) := by
  intro pins s σ H vs us Q I r h
  obtain ⟨l, ns, rfl, hS, hn, q⟩ := h
  rw [Vals.ref1 r]
  obtain ⟨its, rv, p, hz⟩ := I.list hS
  refine call_set_lstI ns (I.ok.hd hc) p.isList (ints_of_vals rv) (by unfold scanBound; omega) fun h' tk c R1 hcn k => ?_
  exact ⟨.ref _, upd H s.heap.objs.size (SetO X.w s.heap.objs.size (fun j => decide (j ∈ ns)) c), I.laid (t' := tk) (fun b u e => k b u e) (Nat.le_refl _) (setO_new R1), rfl, q _ _ (I.hok.fresh (Nat.le_refl _)) hcn⟩
def insU (i : Int) : List Int → List Int
  | [] => [i]
  | j :: r => if i < j then i :: j :: r else if i = j then j :: r else j :: insU i r
def srtU : List Int → List Int
  | [] => []
  | i :: r => insU i (srtU r)
theorem insU_mem (i k : Int) : ∀ l : List Int, k ∈ insU i l ↔ k = i ∨ k ∈ l
  | [] => by simp [insU]
  | j :: r => by
    unfold insU
    split
    · simp
    · split
      · rename_i h; subst h; simp
      · rw [List.mem_cons, insU_mem i k r, List.mem_cons]
        constructor
        · rintro (h | h | h)
          · exact .inr (.inl h)
          · exact .inl h
          · exact .inr (.inr h)
        · rintro (h | h | h)
          · exact .inr (.inl h)
          · exact .inl h
          · exact .inr (.inr h)
theorem srtU_mem (k : Int) : ∀ l : List Int, k ∈ srtU l ↔ k ∈ l
  | [] => by simp [srtU]
  | i :: r => by
    unfold srtU
    rw [insU_mem, srtU_mem k r, List.mem_cons]
theorem insU_sorted (i : Int) : ∀ l : List Int, l.Pairwise (· < ·) → (insU i l).Pairwise (· < ·)
  | [], _ => by simp [insU]
  | j :: r, h => by
    have h1 := List.pairwise_cons.mp h
    unfold insU
    split
    · rename_i hij
      refine List.pairwise_cons.mpr ⟨fun k hk => ?_, h⟩
      rcases List.mem_cons.mp hk with rfl | hk
      · exact hij
      · exact Int.lt_trans hij (h1.1 k hk)
    · split
      · exact h
      · refine List.pairwise_cons.mpr ⟨fun k hk => ?_, insU_sorted i r h1.2⟩
        rcases (insU_mem i k r).mp hk with rfl | hk
        · omega
        · exact h1.1 k hk
theorem srtU_sorted : ∀ l : List Int, (srtU l).Pairwise (· < ·)
  | [] => .nil
  | i :: r => insU_sorted i _ (srtU_sorted r)
theorem strict_uniq : ∀ {as bs : List Int}, as.Pairwise (· < ·) → bs.Pairwise (· < ·) → (∀ k, k ∈ as ↔ k ∈ bs) → as = bs
  | [], [], _, _, _ => rfl
  | [], b :: bs, _, _, h => absurd ((h b).mpr List.mem_cons_self) (by simp)
  | a :: as, [], _, _, h => absurd ((h a).mp List.mem_cons_self) (by simp)
  | a :: as, b :: bs, ha, hb, h => by
    have ha' := List.pairwise_cons.mp ha
    have hb' := List.pairwise_cons.mp hb
    have e : a = b := by
      have h1 := (h a).mp List.mem_cons_self
      have h2 := (h b).mpr List.mem_cons_self
      rcases List.mem_cons.mp h1 with e | h1
      · exact e
      · rcases List.mem_cons.mp h2 with e | h2
        · exact e.symm
        · have := hb'.1 a h1
          have := ha'.1 b h2
          omega
    subst e
    congr 1
    refine strict_uniq ha'.2 hb'.2 fun k => ⟨fun hk => ?_, fun hk => ?_⟩
    · rcases List.mem_cons.mp ((h k).mp (List.mem_cons_of_mem _ hk)) with e | h2
      · exact absurd (ha'.1 k hk) (by omega)
      · exact h2
    · rcases List.mem_cons.mp ((h k).mpr (List.mem_cons_of_mem _ hk)) with e | h2
      · exact absurd (hb'.1 k hk) (by omega)
      · exact h2
def pSortSet : List PV → Option PV
  | [.list xs] => match intsOf xs with
    | none => none
    | some is => if is.length < 64 then some (.list ((srtU is).map .int)) else none
  | _ => none
section
variable {T : List Addr} {X : Cx}
theorem rn_sortSet {K : PySem.W.Frag} {w : World} {f : EF} : ∀ σ H Q, RN T K (callF pSortSet (aCons f aNil)) σ H Q → tCB (rSortedSet w) (tCons (tCB (rSetL K w) (tCons (RE T K f) tNil)) tNil) σ H Q := by
  rintro σ H Q ⟨gh, F, env, d, env', R, e, q⟩
  unfold callF aCons aNil at e
  cases ef : f env with
  | none => rw [ef] at e; cases e
  | some r =>
    obtain ⟨d1, e1⟩ := r
    rw [ef] at e
    dsimp only at e
    cases ep : pSortSet [d1] with
    | none => rw [ep] at e; cases e
    | some d2 =>
      rw [ep] at e
      cases e
      refine ⟨gh, F, env, _, _, R, ef, fun v H1 F1 R1 s1 r1 => ?_⟩
      unfold pSortSet at ep
      split at ep
      · rename_i z ds hz
        cases hz
        split at ep
        · cases ep
        · rename_i is hi
          split at ep
          · rename_i hl
            cases ep
            cases r1 with
            | lst h rr =>
              rw [intsOf_eq hi] at rr
              have hx := rr.ints
              subst hx
              refine ⟨_, is, rfl, .inl (.inl (R1.sub _ _ h)), by omega, fun a c ha hc => ?_⟩
              have R2 := R1.laid (o := SetO w a (fun j => decide (j ∈ is)) c) ha
              refine ⟨a, _, c, rfl, upd_same, by omega, fun ns p hs hm hln hp => ?_⟩
              have hns : ns = srtU is := strict_uniq hs (srtU_sorted is) fun k => by
                rw [hm k, srtU_mem]
                exact decide_eq_true_iff
              subst hns
              obtain ⟨h0, nT, hF⟩ := R2.fresh hp
              exact q p _ F1 (R2.laid hp) s1 hF h0 (R2.own_ne hp) (.lst upd_same (reps_ints _))
          · cases ep
      · cases ep
/-- sorted(set(xs)), whole numbers -/
theorem fn_sortSet {a : Expr} {p p2 pos pos2 : Pos} {f : EF} (hc : X.calm = true) (hm : X.mg "sorted" = none) (hm2 : X.mg "set" = none) (ha : FE T X a f) (hg : Gl X "sorted" := by rfl) (hg2 : Gl X "set" := by rfl)
    (hv : bootBuiltins "sorted" = some (.builtin "sorted") := by decide +kernel) (hv2 : bootBuiltins "set" = some (.type "set") := by decide +kernel)
    (he : starEach [a] X.env = (false, eval a X.env) :: starEach [] X.env := by rfl) (he2 : starEach [.Call (.Name "set" p2) [a] [] pos2] X.env = (false, eval (.Call (.Name "set" p2) [a] [] pos2) X.env) :: starEach [] X.env := by rfl) :
    FN T X (.Call (.Name "sorted" p) [.Call (.Name "set" p2) [a] [] pos2] [] pos) (callF pSortSet (aCons f aNil)) :=
  (pe_callB (cr_sortedSet hc) hg hm hv (pa_cons (pe_callTy (cr_setL hc) hg2 hm2 hv2 (pa_cons ha pa_nil he) (he := he)) pa_nil he2) (he := he2)).weak rn_sortSet
end
theorem canLay_mem : ∀ {xs : List PyData} {d : PyData}, PyData.canLayAll0 xs = true → d ∈ xs → d.canLay0 = true
  | [], _, _, h => by cases h
  | x :: xs, d, hc, h => by
    have h2 : (x.canLay0 && PyData.canLayAll0 xs) = true := by simpa [PyData.canLayAll0] using hc
    rw [Bool.and_eq_true] at h2
    rcases List.mem_cons.mp h with rfl | h
    · exact h2.1
    · exact canLay_mem h2.2 h
open PySem.W (alike AlikeAll minD min_list_data readsAll_at)
def rMinD (K : PySem.W.Frag) : List V → Hp → VK → Prop := fun vs H Q => ∃ (a : Addr) (ys : List V) (x : PV) (xs : List PV), vs = [.ref a] ∧ SqL K H a ys ∧ DpAll K H ys (x :: xs) ∧ AlikeAll (x :: xs) ∧ SeqAt.shaped (.list (x :: xs)) = true ∧
  ∀ (i : Nat) (v : V), ys[i]? = some v → (x :: xs)[i]? = some (minD x xs) → Q v H
theorem cr_minD {X : Cx} (hc : X.calm = true) (hu : X.A.units + 65 < cLine) : CallR X (.builtin "min") (rMinD X.K) := by
  intro pins s σ H vs us Q I r h
  obtain ⟨a, ys, x, xs, rfl, hS, hd, hal, hsh, q⟩ := h
  rw [Vals.ref1 r]
  obtain ⟨its, rv, p, hz⟩ := I.list hS
  obtain ⟨as, hr⟩ := Dp.readsAll I (x :: xs) ys its hd rv
  have hdep : PyData.depthAll (x :: xs) ≤ 64 := by
    have := SeqAt.depth_of_shaped hsh
    simp only [PyData.depth] at this
    omega
  refine min_list_data (I.ok.hd hc) p.isList (by simpa using hr) hal (by omega) fun i v' h' tk bs hv hread hk => ?_
  have hv2 : its[i]? = some v' := by simpa using hv
  have hi : i < its.length := (List.getElem?_eq_some_iff.mp hv2).1
  have hil : i < ys.length := by rw [rv.length]; exact hi
  obtain ⟨u, hu1, ru⟩ := rv.get (List.getElem?_eq_getElem hil)
  rw [hv2] at hu1
  cases hu1
  obtain ⟨cs, hrd, hlt, hmem, _⟩ := readsAll_at hr i v' hv2
  have hcan : PyData.canLayAll0 (x :: xs) = true := by
    have := SeqAt.canLay_of_shaped hsh
    simpa [PyData.canLay0] using this
  have hcd : ((x :: xs).getD i .none).canLay0 = true := by
    exact canLay_mem hcan hmem
  have e1 := (Reads.unique (Reads.keeps hk hrd) _ _ hread).1
  refine ⟨ys[i], H, I.kept (t' := tk) hk, ru, q i _ (List.getElem?_eq_getElem hil) ?_⟩
  rw [← e1, List.getD_eq_getElem?_getD, List.getElem?_eq_getElem hlt]
  rfl
def notN : PV → Bool
  | .none => false
  | _ => true
def allAlike (ds : List PV) : Bool := ds.all (fun x => ds.all fun y => alike x y) && ds.all notN
theorem allAlike_ok {ds : List PV} (h : allAlike ds = true) : AlikeAll ds := by
  unfold allAlike at h
  rw [Bool.and_eq_true] at h
  refine ⟨fun x hx y hy => List.all_eq_true.mp (List.all_eq_true.mp h.1 x hx) y hy, fun x hx z => ?_⟩
  have := List.all_eq_true.mp h.2 x hx
  rw [z] at this
  cases this
def pMinL : List PV → Option PV
  | [.list (x :: xs)] => if noDict (.list (x :: xs)) && SeqAt.shaped (.list (x :: xs)) && allAlike (x :: xs) then some (minD x xs) else none
  | _ => none
theorem cf_minD {T : List Addr} {K : PySem.W.Frag} : CallF T K (rMinD K) pMinL := by
  intro gh F H σ env xs ds d Q R r e q
  unfold pMinL at e
  split at e
  · split at e
    · rename_i x zs hc
      cases e
      simp only [Bool.and_eq_true] at hc
      cases r with
      | cons r1 r2 =>
        cases r2
        cases r1 with
        | lst h rr =>
          refine ⟨_, _, x, zs, rfl, .inl (.inl (R.sub _ _ h)), rr.dp R.sub (by simpa [noDict] using hc.1.1), allAlike_ok hc.2, hc.1.2, fun i v hv hm => ?_⟩
          obtain ⟨v', hv', rv⟩ := rr.get hm
          rw [hv] at hv'
          cases hv'
          exact q _ _ _ R (Same.refl _) rv
    · cases e
  · cases e
end Fx

namespace HT
open PySem PySem.Spec PyProof.Rows
section
variable {prog : Program} {w : World} {A : Around} {E : Value → Shared → Prop} {s : Shared}
theorem adjust_rev (n : Nat) : Builtin.Slice.sliceAdjust none none (-1) (n : Int) = ((n : Int) - 1, -1) := by
  first
    | rfl
    | simp [Builtin.Slice.sliceAdjust]
theorem places_rev (n : Nat) : Builtin.Slice.slicePlaces ((n : Int) - 1) (-1) (-1) = n := by
  unfold Builtin.Slice.slicePlaces
  simp
  omega
theorem sliceApplied_rev {sl : Addr} {vl vu vs : Value} {n : Nat} {Q : Int × Int × Nat → Shared → Prop} (hs : s.heap.IsSliceOf sl vl vu vs) (pl : IsPart vl none) (pu : IsPart vu none) (ps : IsPart vs (some (-1)))
    (h : Q ((n : Int) - 1, -1, n) s) : wpAny (model prog w) A (Builtin.Slice.sliceApplied (.ref sl) (pure (n : Int))) Q E s := by
  obtain ⟨os, hos, hcs, hds⟩ := id hs
  unfold Builtin.Slice.sliceApplied Builtin.Slice.sliceFields
  refine wpAny_bind (wpAny_bind (wpAny_field hos hds (x := vl) rfl (wpAny_bind (wpAny_field hos hds (x := vu) rfl (wpAny_bind (wpAny_field hos hds (x := vs) rfl (wpAny_pure ?_)))))))
  refine wpAny_bind (slicePart_ ps ?_)
  show wpAny _ _ (if ((-1 : Int) == 0) = true then _ else _) _ _ s
  rw [if_neg (by decide)]
  refine wpAny_bind (slicePart_ pl (wpAny_bind (slicePart_ pu (wpAny_bind (wpAny_pure ?_)))))
  show wpAny _ _ (match Builtin.Slice.sliceAdjust none none (-1) (n : Int) with | (lo, hi) => pure (lo, (-1 : Int), Builtin.Slice.slicePlaces lo hi (-1))) _ _ s
  rw [adjust_rev n]
  show wpAny _ _ (pure ((n : Int) - 1, (-1 : Int), Builtin.Slice.slicePlaces ((n : Int) - 1) (-1) (-1))) _ _ s
  rw [places_rev]
  exact wpAny_pure h
theorem fmap_congr {α β : Type} {f g : α → Option β} : ∀ {l : List α}, (∀ m ∈ l, f m = g m) → l.filterMap f = l.filterMap g
  | [], _ => rfl
  | a :: l, h => by
    rw [List.filterMap_cons, List.filterMap_cons, h a List.mem_cons_self, fmap_congr fun m hm => h m (List.mem_cons_of_mem _ hm)]
theorem pick_rev (xs : Array Value) : ((List.range xs.size).filterMap fun (m : Nat) => xs[((xs.size : Int) - 1 + (m : Int) * (-1)).toNat]?).toArray = xs.toList.reverse.toArray := by
  have e : ∀ m ∈ List.range xs.size, xs[((xs.size : Int) - 1 + (m : Int) * (-1)).toNat]? = xs[xs.size - 1 - m]? := fun m hm => by
    have := List.mem_range.mp hm
    have z : ((xs.size : Int) - 1 + (m : Int) * (-1)).toNat = xs.size - 1 - m := by omega
    rw [z]
  rw [fmap_congr e]
  have h2 : (List.range xs.size).filterMap (fun m => xs[xs.size - 1 - m]?) = ((List.range xs.size).map fun k => xs.size - 1 - k).filterMap (xs[·]?) := by
    rw [List.filterMap_map]; rfl
  rw [h2, PySem.W.krv_range, List.filterMap_reverse, PySem.W.krv_all]
theorem getItem_tuple_rev {t sl : Addr} {items : Array Value} {vl vu vs : Value} {Q : Value → Shared → Prop} (ht : IsTup s.heap t items) (hs : s.heap.IsSliceOf sl vl vu vs) (pl : IsPart vl none) (pu : IsPart vu none) (ps : IsPart vs (some (-1)))
    (h : Q (.ref s.heap.objs.size) { s with heap := s.heap.push { cls := .type "tuple", data := .seq items.toList.reverse.toArray } })
    (hsz : items.size ≤ sizeLine) : wpAny (model prog w) A (getItem (.ref t) (.ref sl)) Q E s := by
  have htake : sizeOk (.seq items.toList.reverse.toArray) := by
    show items.toList.reverse.toArray.size ≤ sizeLine
    rw [List.size_toArray, List.length_reverse, Array.length_toList]
    exact hsz
  obtain ⟨os, hos, hcs, hds⟩ := id hs
  have hTs : s.TypeIs (.ref sl) "slice" := ⟨os, hos, hcs⟩
  unfold getItem
  try with_reducible refine wpAny_holding ?_
  first | refine wpAny_bind (wpAny_pure ?_) | skip
  refine wpAny_bind (wpAny_sequenceKey ht.typeIs (by decide) ?_)
  refine wpAny_bind (wpAny_callSpecial?_slot (name := Str.ofString "__getitem__") ht.typeIs PyProof.Rows.slot_tuple_getitem
    (wpAny_call_entry PyProof.Rows.slot_tuple_getitem ht.typeIs entry_tuple_getitem ?_ (args_tuple_getitem _ _)))
  show wpAny _ _ (Builtin.Tuple.tupleItemsOf (.ref t) >>= _) _ _ s
  refine wpAny_bind (tupleItemsOf_ ht ?_)
  refine wpAny_bind (wpAny_typeOf hTs ?_)
  rw [if_pos (by decide)]
  refine wpAny_bind (sliceApplied_rev hs pl pu ps ?_)
  have hno : ¬ ((((items.size : Int) - 1) == 0 && (-1 : Int) == 1 && items.size == items.size) = true) := by
    intro q
    rw [Bool.and_eq_true, Bool.and_eq_true] at q
    exact absurd q.1.2 (by decide)
  show wpAny _ _ (if (((items.size : Int) - 1) == 0 && (-1 : Int) == 1 && items.size == items.size) = true then _ else _) _ _ s
  rw [if_neg hno, pick_rev]
  first
    | exact wpAny_bind (m := Builtin.Tuple.tupleExact _) (wpAny_newObj_type (wpAny_pure ⟨_, rfl, wpAny_pure h⟩) htake)
    | exact wpAny_bind (m := Builtin.Tuple.tupleExact _) (wpAny_newObj_type (wpAny_bind (wpAny_pure (wpAny_pure ⟨_, rfl, wpAny_pure h⟩))) htake)
    | exact wpAny_bind (wpAny_bind (m := Builtin.Tuple.tupleExact _) (wpAny_newObj_type (wpAny_pure (wpAny_pure ⟨_, rfl, wpAny_pure h⟩)) htake))
    | exact wpAny_bind (wpAny_bind (m := Builtin.Tuple.tupleExact _) (wpAny_newObj_type (wpAny_pure ⟨_, rfl, wpAny_pure h⟩) htake))
end
end HT
namespace Fx
open PySem PySem.Spec L2
open PyProof.Rows hiding St
section
variable {T : List Addr} {X : Cx}
def tRevT (K : PySem.W.Frag) (te : TE) : TE := fun σ H Q => te σ H fun x H1 => ∃ a xs, x = .ref a ∧ SqT K H1 a xs ∧ ∀ p, H1 p = none → Q (.ref p) (upd H1 p (.tup xs.reverse))
theorem pe_revT {e : Expr} {te : TE} {k : Nat} {p1 p2 p3 pos : Pos} (he : PE X e te) : PE X (.Subscript e (.Slice none none (some (.UnaryOp .USub (.Constant (.int 1) k p1) p2)) p3) pos) (tRevT X.K te) := by
  refine ⟨fun pins s σ H Q I h => ?_⟩
  refine Subscript_ (thn (he.run pins s σ H _ I h) fun v s1 ⟨x, H1, I1, r1, q1⟩ => ?_)
  obtain ⟨a, xs, ex, hx, q⟩ := q1
  subst ex
  cases r1
  have hst : PO X (some (.UnaryOp .USub (.Constant (.int 1) k p1) p2)) (tPart (tUn (rU fun i => .int (-i)) (tC (.int 1)))) := po_some (pe_un un_neg pe_int)
  refine wpAny_Slice (thn (po_none.run pins s1 σ H1 (fun o H2 => o = none ∧ H2 = H1) I1 ⟨rfl, rfl⟩) fun vl s2 ⟨l, H2, I2, pl, el, e2⟩ => ?_)
  subst el e2
  refine thn (po_none.run pins s2 σ H2 (fun o H3 => o = none ∧ H3 = H2) I2 ⟨rfl, rfl⟩) fun vu s3 ⟨u, H3, I3, pu, eu, e3⟩ => ?_
  subst eu e3
  refine thn (hst.run pins s3 σ H3 (fun o H4 => o = some (-1) ∧ H4 = H3) I3 ⟨1, rfl, -1, rfl, rfl, rfl⟩) fun vs s4 ⟨o, H4, I4, ps, eo, e4⟩ => ?_
  subst eo e4
  have I5 : Inv X pins σ H4 { s4 with heap := s4.heap.push { cls := .type "slice", data := .fields #[vl, vu, vs] } } := I4.kept (t' := s4.toks) fun b ob q => Heap.get?_push_of_some _ q
  obtain ⟨its, r, ht, hz⟩ := I5.tuple hx
  have hlen := r.length
  show wpAny (model X.prog X.w) X.A (subscriptTail e (.Slice none none (some (.UnaryOp .USub (.Constant (.int 1) k p1) p2)) p3) (.ref a) (.ref s4.heap.objs.size)) (EP X pins σ Q) X.xe { s4 with heap := s4.heap.push { cls := .type "slice", data := .fields #[vl, vu, vs] } }
  refine tail_any (ops := [.ref a, .ref s4.heap.objs.size]) ht.typeIs (PyProof.Rows.slot_tuple_getitem.lookup) ?_ (by with_unfolding_all rfl)
  refine HT.getItem_tuple_rev ht (Heap.IsSliceOf.new _ vl vu vs) pl pu ps ?_ (by rw [List.size_toArray]; omega)
  refine ⟨.ref _, _, I5.laid (t' := s4.toks) (o := .tup xs.reverse) (fun b ob q => Heap.get?_push_of_some _ q) (Nat.le_refl _) ?_, rfl, q _ (I5.hok.fresh (Nat.le_refl _))⟩
  exact ⟨by rw [List.length_reverse]; exact hz, _, r.reverse, IsTup.new _ _⟩
/-- t[::-1] -/
def eRevT (f : EF) : EF := fun env => match f env with
  | some (.tuple xs, e) => some (.tuple xs.reverse, e)
  | _ => none
theorem fe_revT {a : Expr} {k : Nat} {p1 p2 p3 pos : Pos} {f : EF} (ha : FE T X a f) : FE T X (.Subscript a (.Slice none none (some (.UnaryOp .USub (.Constant (.int 1) k p1) p2)) p3) pos) (eRevT f) :=
  (pe_revT ha).weak fun σ H Q ⟨gh, F, env, d, env', R, e, q⟩ => by
    unfold eRevT at e
    split at e
    · rename_i xs e1 ef
      cases e
      refine ⟨gh, F, env, _, _, R, ef, fun v H1 F1 R1 s1 r1 => ?_⟩
      cases r1 with
      | tup h rr =>
        refine ⟨_, _, rfl, SqT.mono R1.sub (sqT h), fun p hp => ?_⟩
        obtain ⟨R2, s2⟩ := R1.laidF (o := .tup _) hp
        exact q _ _ _ R2 (s1.trans s2) (.tup upd_same (rr.reverse.mono s2))
    · cases e
end
end Fx

namespace Fx
open PySem PySem.Spec L2
open PyProof.Rows hiding St
def topS (i : Nat) : Stmt := PySem.Challenge.pw_numberwright_k56_whole_pells_across.main.body.getD i (.Pass ⟨0, 0, 0, 0⟩)
structure Gx (K : PySem.W.Frag) (mg : Str → Option Value) where
  a_floor_by : Addr
  d_floor_by : FuncData
  D_floor_by : FnP K "floor_by" (topS 2) a_floor_by d_floor_by
  m_floor_by : mg "floor_by" = some (.ref a_floor_by)
  a_floor_of : Addr
  d_floor_of : FuncData
  D_floor_of : FnP K "floor_of" (topS 3) a_floor_of d_floor_of
  m_floor_of : mg "floor_of" = some (.ref a_floor_of)
  a_step_of : Addr
  d_step_of : FuncData
  D_step_of : FnP K "step_of" (topS 4) a_step_of d_step_of
  m_step_of : mg "step_of" = some (.ref a_step_of)
  a_surd_of : Addr
  d_surd_of : FuncData
  D_surd_of : FnP K "surd_of" (topS 5) a_surd_of d_surd_of
  m_surd_of : mg "surd_of" = some (.ref a_surd_of)
  a_chain_of : Addr
  d_chain_of : FuncData
  D_chain_of : FnP K "chain_of" (topS 6) a_chain_of d_chain_of
  m_chain_of : mg "chain_of" = some (.ref a_chain_of)
  a_product_of : Addr
  d_product_of : FuncData
  D_product_of : FnP K "product_of" (topS 7) a_product_of d_product_of
  m_product_of : mg "product_of" = some (.ref a_product_of)
  a_quotient_at : Addr
  d_quotient_at : FuncData
  D_quotient_at : FnP K "quotient_at" (topS 9) a_quotient_at d_quotient_at
  m_quotient_at : mg "quotient_at" = some (.ref a_quotient_at)
  a_steps_for : Addr
  d_steps_for : FuncData
  D_steps_for : FnP K "steps_for" (topS 10) a_steps_for d_steps_for
  m_steps_for : mg "steps_for" = some (.ref a_steps_for)
  a_first_with : Addr
  d_first_with : FuncData
  D_first_with : FnP K "first_with" (topS 11) a_first_with d_first_with
  m_first_with : mg "first_with" = some (.ref a_first_with)
  a_pell : Addr
  d_pell : FuncData
  D_pell : FnP K "pell" (topS 12) a_pell d_pell
  m_pell : mg "pell" = some (.ref a_pell)
  a_minus_paper : Addr
  d_minus_paper : FuncData
  D_minus_paper : FnP K "minus_paper" (topS 13) a_minus_paper d_minus_paper
  m_minus_paper : mg "minus_paper" = some (.ref a_minus_paper)
  a_answers : Addr
  d_answers : FuncData
  D_answers : FnP K "answers" (topS 14) a_answers d_answers
  m_answers : mg "answers" = some (.ref a_answers)
  a_near : Addr
  d_near : FuncData
  D_near : FnP K "near" (topS 15) a_near d_near
  m_near : mg "near" = some (.ref a_near)
  a_members_at : Addr
  d_members_at : FuncData
  D_members_at : FnP K "members_at" (topS 17) a_members_at d_members_at
  m_members_at : mg "members_at" = some (.ref a_members_at)
  a_convergents : Addr
  d_convergents : FuncData
  D_convergents : FnP K "convergents" (topS 19) a_convergents d_convergents
  m_convergents : mg "convergents" = some (.ref a_convergents)
  a_is_above_nought : Addr
  d_is_above_nought : FuncData
  D_is_above_nought : FnP K "is_above_nought" (topS 20) a_is_above_nought d_is_above_nought
  m_is_above_nought : mg "is_above_nought" = some (.ref a_is_above_nought)
  a_is_farther : Addr
  d_is_farther : FuncData
  D_is_farther : FnP K "is_farther" (topS 21) a_is_farther d_is_farther
  m_is_farther : mg "is_farther" = some (.ref a_is_farther)
  a_best_paper : Addr
  d_best_paper : FuncData
  D_best_paper : FnP K "best_paper" (topS 22) a_best_paper d_best_paper
  m_best_paper : mg "best_paper" = some (.ref a_best_paper)
  a_least_turn : Addr
  d_least_turn : FuncData
  D_least_turn : FnP K "least_turn" (topS 24) a_least_turn d_least_turn
  m_least_turn : mg "least_turn" = some (.ref a_least_turn)
  a_tail_paper : Addr
  d_tail_paper : FuncData
  D_tail_paper : FnP K "tail_paper" (topS 25) a_tail_paper d_tail_paper
  m_tail_paper : mg "tail_paper" = some (.ref a_tail_paper)
  a__law_pool : Addr
  d__law_pool : FuncData
  D__law_pool : FnP K "_law_pool" (topS 27) a__law_pool d__law_pool
  m__law_pool : mg "_law_pool" = some (.ref a__law_pool)
  a__law_spread : Addr
  d__law_spread : FuncData
  D__law_spread : FnP K "_law_spread" (topS 28) a__law_spread d__law_spread
  m__law_spread : mg "_law_spread" = some (.ref a__law_spread)
  a__law_draw : Addr
  d__law_draw : FuncData
  D__law_draw : FnP K "_law_draw" (topS 29) a__law_draw d__law_draw
  m__law_draw : mg "_law_draw" = some (.ref a__law_draw)
  a__law_root : Addr
  d__law_root : FuncData
  D__law_root : FnP K "_law_root" (topS 30) a__law_root d__law_root
  m__law_root : mg "_law_root" = some (.ref a__law_root)
  a__law_is_sq : Addr
  d__law_is_sq : FuncData
  D__law_is_sq : FnP K "_law_is_sq" (topS 31) a__law_is_sq d__law_is_sq
  m__law_is_sq : mg "_law_is_sq" = some (.ref a__law_is_sq)
  a_law : Addr
  d_law : FuncData
  D_law : FnP K "law" (topS 32) a_law d_law
  m_law : mg "law" = some (.ref a_law)
  g_abs : mg "abs" = none
  g_int : mg "int" = none
  g_len : mg "len" = none
  g_list : mg "list" = none
  g_min : mg "min" = none
  g_range : mg "range" = none
  g_set : mg "set" = none
  g_sorted : mg "sorted" = none
  g_tuple : mg "tuple" = none
  g_gcd : mg "gcd" = some (.builtin "math.gcd")
  g_isqrt : mg "isqrt" = some (.builtin "math.isqrt")
section
variable {P : Program} {w : World} {K : PySem.W.Frag} {mg : Str → Option Value} {base : Heap} (G : Gx K mg)
theorem sc_floor_by : FnScope ["p", "d", "q", "whole"] ["p", "d", "q"] (defScope (topS 2)) := ⟨rfl, rfl, rfl, by decide +kernel, rfl, by decide +kernel, by decide +kernel⟩
theorem bd_floor_by : Binds K G.d_floor_by ["p", "d", "q"] [] := G.D_floor_by.bindsN fun _ _ _ _ _ _ us hl => match us, hl with | [_, _, _], _ => rfl
def b_floor_by : SF := (sSeq (asg 3 (bin pDiv (bin pAdd (nm 0) (callF pIsq (aCons (nm 1) aNil))) (callF pAbs (aCons (nm 2) aNil)))) (sRet (eIf (tB' (bin pGt (nm 2) (kE (.int 0)))) (nm 3) (bin pSub (un pNeg (nm 3)) (kE (.int 1))))))
def p_floor_by : List PV → Option PV := runP 4 3 b_floor_by
theorem ok_floor_by : FnOk P w K mg base CX0 1 G.a_floor_by G.d_floor_by ["p", "d", "q"] (spP [] K p_floor_by) := fd_pure G.D_floor_by sc_floor_by rfl rfl fun cdv A outer s H E hr => by
  have hu := hr.units
  have hu5 := hu65 hr
  exact (fss_cons (fs_set 3 sc_floor_by.nd (fe_op op_fdivG of_div (fe_op op_addA of_add (fe_nm 0) (fe_callBfun cr_isqrt cf_isqrt rfl G.g_isqrt (fa_cons (fe_nm 1) fa_nil))) (fe_callB call_abs cf_abs rfl G.g_abs (by decide +kernel) (fa_cons (fe_nm 2) fa_nil)))) (fss_one (fs_ret (fe_if (ft_cmp (op_gtA) of_gt (fe_nm 2) fe_int) (fe_nm 3) (fe_op op_sub of_sub (fe_neg (fe_nm 3)) fe_int)))))
theorem sc_floor_of : FnScope ["surd"] ["surd"] (defScope (topS 3)) := ⟨rfl, rfl, rfl, by decide +kernel, rfl, by decide +kernel, by decide +kernel⟩
theorem bd_floor_of : Binds K G.d_floor_of ["surd"] [] := G.D_floor_of.bindsN fun _ _ _ _ _ _ us hl => match us, hl with | [_], _ => rfl
def b_floor_of : SF := (sRet (callF p_floor_by (aCons (ixN' 0 (kE (.int 0))) (aCons (ixN' 0 (kE (.int 1))) (aCons (ixN' 0 (kE (.int 2))) aNil)))))
def p_floor_of : List PV → Option PV := runP 1 1 b_floor_of
theorem ok_floor_of : FnOk P w K mg base CX0 2 G.a_floor_of G.d_floor_of ["surd"] (spP [] K p_floor_of) := fd_pure G.D_floor_of sc_floor_of rfl rfl fun cdv A outer s H E hr => by
  have hu := hr.units
  have hu5 := hu65 hr
  exact (fss_one (fs_ret (fe_call (ok_floor_by G) (hr.mono (by decide : 1 ≤ 1)) G.m_floor_by G.D_floor_by.kp (bd_floor_by G) pass0 (fa_cons (fe_ixN 0 fe_int) (fa_cons (fe_ixN 0 fe_int) (fa_cons (fe_ixN 0 fe_int) fa_nil))))))
theorem sc_step_of : FnScope ["surd", "p", "d", "q", "after"] ["surd"] (defScope (topS 4)) := ⟨rfl, rfl, rfl, by decide +kernel, rfl, by decide +kernel, by decide +kernel⟩
theorem bd_step_of : Binds K G.d_step_of ["surd"] [] := G.D_step_of.bindsN fun _ _ _ _ _ _ us hl => match us, hl with | [_], _ => rfl
def b_step_of : SF := (sSeq (asgB (bTup 3 (bCons (bNm 1) (bCons (bNm 2) (bCons (bNm 3) bNil)))) (nm 0)) (sSeq (asg 4 (bin pSub (bin pMul (callF p_floor_of (aCons (nm 0) aNil)) (nm 3)) (nm 1))) (sRet (eTup (aCons (nm 4) (aCons (nm 2) (aCons (bin pDiv (bin pSub (nm 2) (bin pMul (nm 4) (nm 4))) (nm 3)) aNil)))))))
def p_step_of : List PV → Option PV := runP 5 1 b_step_of
theorem ok_step_of : FnOk P w K mg base CX0 3 G.a_step_of G.d_step_of ["surd"] (spP [] K p_step_of) := fd_pure G.D_step_of sc_step_of rfl rfl fun cdv A outer s H E hr => by
  have hu := hr.units
  have hu5 := hu65 hr
  exact (fss_cons (fs_asg (fe_nm 0) (fb_tup rfl (fbs_cons (fb_nm 1 sc_step_of.nd) (fbs_cons (fb_nm 2 sc_step_of.nd) (fbs_cons (fb_nm 3 sc_step_of.nd) fbs_nil))))) (fss_cons (fs_set 4 sc_step_of.nd (fe_op op_sub of_sub (fe_op op_mulA of_mul (fe_call (ok_floor_of G) (hr.mono (by decide : 2 ≤ 2)) G.m_floor_of G.D_floor_of.kp (bd_floor_of G) pass0 (fa_cons (fe_nm 0) fa_nil)) (fe_nm 3)) (fe_nm 1))) (fss_one (fs_ret (fe_tup (fa_cons (fe_nm 4) (fa_cons (fe_nm 2) (fa_cons (fe_op op_fdivG of_div (fe_op op_sub of_sub (fe_nm 2) (fe_op op_mulA of_mul (fe_nm 4) (fe_nm 4))) (fe_nm 3)) fa_nil))))))))
theorem sc_surd_of : FnScope ["p", "r", "s", "q", "d"] ["p", "r", "s", "q"] (defScope (topS 5)) := ⟨rfl, rfl, rfl, by decide +kernel, rfl, by decide +kernel, by decide +kernel⟩
theorem bd_surd_of : Binds K G.d_surd_of ["p", "r", "s", "q"] [] := G.D_surd_of.bindsN fun _ _ _ _ _ _ us hl => match us, hl with | [_, _, _, _], _ => rfl
def b_surd_of : SF := (sSeq (sIf (tB' (bin pLt (nm 2) (kE (.int 0)))) (asg3 0 2 3 (aCons (un pNeg (nm 0)) (aCons (un pNeg (nm 2)) (aCons (un pNeg (nm 3)) aNil)))) sSkip) (sSeq (asg 4 (bin pMul (bin pMul (nm 2) (nm 2)) (nm 1))) (sSeq (sIf (tB' (bin pNe (bin pMod (bin pSub (nm 4) (bin pMul (nm 0) (nm 0))) (nm 3)) (kE (.int 0)))) (asg3 0 4 3 (aCons (bin pMul (nm 0) (callF pAbs (aCons (nm 3) aNil))) (aCons (bin pMul (bin pMul (nm 4) (nm 3)) (nm 3)) (aCons (bin pMul (nm 3) (callF pAbs (aCons (nm 3) aNil))) aNil)))) sSkip) (sRet (eTup (aCons (nm 0) (aCons (nm 4) (aCons (nm 3) aNil))))))))
def p_surd_of : List PV → Option PV := runP 5 4 b_surd_of
theorem ok_surd_of : FnOk P w K mg base CX0 1 G.a_surd_of G.d_surd_of ["p", "r", "s", "q"] (spP [] K p_surd_of) := fd_pure G.D_surd_of sc_surd_of rfl rfl fun cdv A outer s H E hr => by
  have hu := hr.units
  have hu5 := hu65 hr
  exact (fss_cons (fs_if (ft_cmp (op_ltA) of_lt (fe_nm 2) fe_int) (fss_one (fs_par3 0 2 3 sc_surd_of.nd (fa_cons (fe_neg (fe_nm 0)) (fa_cons (fe_neg (fe_nm 2)) (fa_cons (fe_neg (fe_nm 3)) fa_nil))))) fss_nil) (fss_cons (fs_set 4 sc_surd_of.nd (fe_op op_mulA of_mul (fe_op op_mulA of_mul (fe_nm 2) (fe_nm 2)) (fe_nm 1))) (fss_cons (fs_if (ft_cmp (op_neA hu) of_ne (fe_op op_modN of_mod (fe_op op_sub of_sub (fe_nm 4) (fe_op op_mulA of_mul (fe_nm 0) (fe_nm 0))) (fe_nm 3)) fe_int) (fss_one (fs_par3 0 4 3 sc_surd_of.nd (fa_cons (fe_op op_mulA of_mul (fe_nm 0) (fe_callB call_abs cf_abs rfl G.g_abs (by decide +kernel) (fa_cons (fe_nm 3) fa_nil))) (fa_cons (fe_op op_mulA of_mul (fe_op op_mulA of_mul (fe_nm 4) (fe_nm 3)) (fe_nm 3)) (fa_cons (fe_op op_mulA of_mul (fe_nm 3) (fe_callB call_abs cf_abs rfl G.g_abs (by decide +kernel) (fa_cons (fe_nm 3) fa_nil))) fa_nil))))) fss_nil) (fss_one (fs_ret (fe_tup (fa_cons (fe_nm 0) (fa_cons (fe_nm 4) (fa_cons (fe_nm 3) fa_nil)))))))))
theorem sc_chain_of : FnScope ["surd", "known", "row", "place"] ["surd"] (defScope (topS 6)) := ⟨rfl, rfl, rfl, by decide +kernel, rfl, by decide +kernel, by decide +kernel⟩
theorem bd_chain_of : Binds K G.d_chain_of ["surd"] [] := G.D_chain_of.bindsN fun _ _ _ _ _ _ us hl => match us, hl with | [_], _ => rfl
def b_chain_of : SF := (sSeq (asgO 1 eDt) (sSeq (asgO 2 (eLst aNil)) (sSeq (whF (tB' (dInT not 1 (nm 0))) (sSeq (putIxT 1 (nm 0) (lenN 2)) (sSeq (sExpr (append 2 (callF p_floor_of (aCons (nm 0) aNil)))) (asg 0 (callF p_step_of (aCons (nm 0) aNil))))) 2000) (sSeq (asg 3 (dIxT 1 (nm 0))) (sRet (eTup (aCons (callF pTuple (aCons (eSl (nm 2) oNo (oSo (nm 3))) aNil)) (aCons (callF pTuple (aCons (eSl (nm 2) (oSo (nm 3)) oNo) aNil)) aNil))))))))
def p_chain_of : List PV → Option PV := runP 4 1 b_chain_of
theorem ok_chain_of : FnOk P w K mg base CX0 4 G.a_chain_of G.d_chain_of ["surd"] (spP [] K p_chain_of) := fd_pure G.D_chain_of sc_chain_of rfl rfl fun cdv A outer s H E hr => by
  have hu := hr.units
  have hu5 := hu65 hr
  exact (fss_cons (fs_setO 1 sc_chain_of.nd fn_dt) (fss_cons (fs_setO 2 sc_chain_of.nd (fn_lst fa_nil)) (fss_cons (fs_while 2000 (PassesOwn.never) (ft_dNotInT 1 (hu1 hu) (fe_nm 0)) (fss_cons (fs_putIxT 1 (hu1 hu) (fe_nm 0) (fe_lenN 2 rfl G.g_len)) (fss_cons (fs_expr (fe_append 2 (fe_call (ok_floor_of G) (hr.mono (by decide : 2 ≤ 3)) G.m_floor_of G.D_floor_of.kp (bd_floor_of G) pass0 (fa_cons (fe_nm 0) fa_nil)))) (fss_one (fs_set 0 sc_chain_of.nd (fe_call (ok_step_of G) (hr.mono (by decide : 3 ≤ 3)) G.m_step_of G.D_step_of.kp (bd_step_of G) pass0 (fa_cons (fe_nm 0) fa_nil))))))) (fss_cons (fs_set 3 sc_chain_of.nd (fe_dIxT 1 (hu1 hu) (fe_nm 0))) (fss_one (fs_ret (fe_tup (fa_cons (fe_callTy call_tuple_of cf_tuple rfl G.g_tuple (by decide +kernel) (fa_cons (fe_sl (fe_nm 2) fo_no (fo_so (fe_nm 3))) fa_nil)) (fa_cons (fe_callTy call_tuple_of cf_tuple rfl G.g_tuple (by decide +kernel) (fa_cons (fe_sl (fe_nm 2) (fo_so (fe_nm 3)) fo_no) fa_nil)) fa_nil)))))))))
theorem sc_product_of : FnScope ["row", "a", "b", "c", "d", "one"] ["row"] (defScope (topS 7)) := ⟨rfl, rfl, rfl, by decide +kernel, rfl, by decide +kernel, by decide +kernel⟩
theorem bd_product_of : Binds K G.d_product_of ["row"] [] := G.D_product_of.bindsN fun _ _ _ _ _ _ us hl => match us, hl with | [_], _ => rfl
def b_product_of : SF := (sSeq (asgB (bTup 4 (bCons (bNm 1) (bCons (bNm 2) (bCons (bNm 3) (bCons (bNm 4) bNil))))) (eTup (aCons (kE (.int 1)) (aCons (kE (.int 0)) (aCons (kE (.int 0)) (aCons (kE (.int 1)) aNil)))))) (sSeq (sFor (wSeq (nm 0)) (bNm 5) (asgB (bTup 4 (bCons (bNm 1) (bCons (bNm 2) (bCons (bNm 3) (bCons (bNm 4) bNil))))) (eTup (aCons (bin pAdd (bin pMul (nm 1) (nm 5)) (nm 2)) (aCons (nm 1) (aCons (bin pAdd (bin pMul (nm 3) (nm 5)) (nm 4)) (aCons (nm 3) aNil))))))) (sRet (eTup (aCons (nm 1) (aCons (nm 2) (aCons (nm 3) (aCons (nm 4) aNil))))))))
def p_product_of : List PV → Option PV := runP 6 1 b_product_of
theorem ok_product_of : FnOk P w K mg base CX0 1 G.a_product_of G.d_product_of ["row"] (spP [] K p_product_of) := fd_pure G.D_product_of sc_product_of rfl rfl fun cdv A outer s H E hr => by
  have hu := hr.units
  have hu5 := hu65 hr
  exact (fss_cons (fs_asg (fe_tup (fa_cons fe_int (fa_cons fe_int (fa_cons fe_int (fa_cons fe_int fa_nil))))) (fb_tup rfl (fbs_cons (fb_nm 1 sc_product_of.nd) (fbs_cons (fb_nm 2 sc_product_of.nd) (fbs_cons (fb_nm 3 sc_product_of.nd) (fbs_cons (fb_nm 4 sc_product_of.nd) fbs_nil)))))) (fss_cons (fs_for (PassesOwn.never) rfl (fi_seq (fe_nm 0)) (fb_nm 5 sc_product_of.nd) (fss_one (fs_asg (fe_tup (fa_cons (fe_op op_addA of_add (fe_op op_mulA of_mul (fe_nm 1) (fe_nm 5)) (fe_nm 2)) (fa_cons (fe_nm 1) (fa_cons (fe_op op_addA of_add (fe_op op_mulA of_mul (fe_nm 3) (fe_nm 5)) (fe_nm 4)) (fa_cons (fe_nm 3) fa_nil))))) (fb_tup rfl (fbs_cons (fb_nm 1 sc_product_of.nd) (fbs_cons (fb_nm 2 sc_product_of.nd) (fbs_cons (fb_nm 3 sc_product_of.nd) (fbs_cons (fb_nm 4 sc_product_of.nd) fbs_nil)))))))) (fss_one (fs_ret (fe_tup (fa_cons (fe_nm 1) (fa_cons (fe_nm 2) (fa_cons (fe_nm 3) (fa_cons (fe_nm 4) fa_nil)))))))))
theorem sc_quotient_at : FnScope ["head", "ring", "k"] ["head", "ring", "k"] (defScope (topS 9)) := ⟨rfl, rfl, rfl, by decide +kernel, rfl, by decide +kernel, by decide +kernel⟩
theorem bd_quotient_at : Binds K G.d_quotient_at ["head", "ring", "k"] [] := G.D_quotient_at.bindsN fun _ _ _ _ _ _ us hl => match us, hl with | [_, _, _], _ => rfl
def b_quotient_at : SF := (sRet (eIf (tB' (bin pLt (nm 2) (lenN 0))) (ixN' 0 (nm 2)) (ixN' 1 (bin pMod (bin pSub (nm 2) (lenN 0)) (lenN 1)))))
def p_quotient_at : List PV → Option PV := runP 3 3 b_quotient_at
theorem ok_quotient_at : FnOk P w K mg base CX0 1 G.a_quotient_at G.d_quotient_at ["head", "ring", "k"] (spP [] K p_quotient_at) := fd_pure G.D_quotient_at sc_quotient_at rfl rfl fun cdv A outer s H E hr => by
  have hu := hr.units
  have hu5 := hu65 hr
  exact (fss_one (fs_ret (fe_if (ft_cmp (op_ltA) of_lt (fe_nm 2) (fe_lenN 0 rfl G.g_len)) (fe_ixN 0 (fe_nm 2)) (fe_ixN 1 (fe_op op_modN of_mod (fe_op op_sub of_sub (fe_nm 2) (fe_lenN 0 rfl G.g_len)) (fe_lenN 1 rfl G.g_len))))))
theorem sc_steps_for : FnScope ["d", "many", "head", "ring", "found", "a", "b", "c", "e", "k", "one"] ["d", "many"] (defScope (topS 10)) := ⟨rfl, rfl, rfl, by decide +kernel, rfl, by decide +kernel, by decide +kernel⟩
theorem bd_steps_for : Binds K G.d_steps_for ["d", "many"] [] := G.D_steps_for.bindsN fun _ _ _ _ _ _ us hl => match us, hl with | [_, _], _ => rfl
def b_steps_for : SF := (sSeq (asgB (bTup 2 (bCons (bNm 2) (bCons (bNm 3) bNil))) (callF p_chain_of (aCons (eTup (aCons (kE (.int 0)) (aCons (nm 0) (aCons (kE (.int 1)) aNil)))) aNil))) (sSeq (asgO 4 (eLst aNil)) (sSeq (asgB (bTup 4 (bCons (bNm 5) (bCons (bNm 6) (bCons (bNm 7) (bCons (bNm 8) bNil))))) (eTup (aCons (kE (.int 1)) (aCons (kE (.int 0)) (aCons (kE (.int 0)) (aCons (kE (.int 1)) aNil)))))) (sSeq (sFor (wRng1 (nm 1)) (bNm 9) (sSeq (asg 10 (callF p_quotient_at (aCons (nm 2) (aCons (nm 3) (aCons (nm 9) aNil))))) (sSeq (asgB (bTup 4 (bCons (bNm 5) (bCons (bNm 6) (bCons (bNm 7) (bCons (bNm 8) bNil))))) (eTup (aCons (bin pAdd (bin pMul (nm 5) (nm 10)) (nm 6)) (aCons (nm 5) (aCons (bin pAdd (bin pMul (nm 7) (nm 10)) (nm 8)) (aCons (nm 7) aNil)))))) (sExpr (append 4 (eTup (aCons (nm 5) (aCons (nm 7) aNil)))))))) (sRet (nm 4))))))
def p_steps_for : List PV → Option PV := runP 11 2 b_steps_for
theorem ok_steps_for : FnOk P w K mg base CX0 5 G.a_steps_for G.d_steps_for ["d", "many"] (spP [] K p_steps_for) := fd_pure G.D_steps_for sc_steps_for rfl rfl fun cdv A outer s H E hr => by
  have hu := hr.units
  have hu5 := hu65 hr
  exact (fss_cons (fs_asg (fe_call (ok_chain_of G) (hr.mono (by decide : 4 ≤ 4)) G.m_chain_of G.D_chain_of.kp (bd_chain_of G) pass0 (fa_cons (fe_tup (fa_cons fe_int (fa_cons (fe_nm 0) (fa_cons fe_int fa_nil)))) fa_nil)) (fb_tup rfl (fbs_cons (fb_nm 2 sc_steps_for.nd) (fbs_cons (fb_nm 3 sc_steps_for.nd) fbs_nil)))) (fss_cons (fs_setO 4 sc_steps_for.nd (fn_lst fa_nil)) (fss_cons (fs_asg (fe_tup (fa_cons fe_int (fa_cons fe_int (fa_cons fe_int (fa_cons fe_int fa_nil))))) (fb_tup rfl (fbs_cons (fb_nm 5 sc_steps_for.nd) (fbs_cons (fb_nm 6 sc_steps_for.nd) (fbs_cons (fb_nm 7 sc_steps_for.nd) (fbs_cons (fb_nm 8 sc_steps_for.nd) fbs_nil)))))) (fss_cons (fs_for (PassesOwn.never) rfl (fi_rng1 rfl G.g_range (fe_nm 1)) (fb_nm 9 sc_steps_for.nd) (fss_cons (fs_set 10 sc_steps_for.nd (fe_call (ok_quotient_at G) (hr.mono (by decide : 1 ≤ 4)) G.m_quotient_at G.D_quotient_at.kp (bd_quotient_at G) pass0 (fa_cons (fe_nm 2) (fa_cons (fe_nm 3) (fa_cons (fe_nm 9) fa_nil))))) (fss_cons (fs_asg (fe_tup (fa_cons (fe_op op_addA of_add (fe_op op_mulA of_mul (fe_nm 5) (fe_nm 10)) (fe_nm 6)) (fa_cons (fe_nm 5) (fa_cons (fe_op op_addA of_add (fe_op op_mulA of_mul (fe_nm 7) (fe_nm 10)) (fe_nm 8)) (fa_cons (fe_nm 7) fa_nil))))) (fb_tup rfl (fbs_cons (fb_nm 5 sc_steps_for.nd) (fbs_cons (fb_nm 6 sc_steps_for.nd) (fbs_cons (fb_nm 7 sc_steps_for.nd) (fbs_cons (fb_nm 8 sc_steps_for.nd) fbs_nil)))))) (fss_one (fs_expr (fe_append 4 (fe_tup (fa_cons (fe_nm 5) (fa_cons (fe_nm 7) fa_nil))))))))) (fss_one (fs_ret (fe_nm 4)))))))
theorem sc_first_with : FnScope ["d", "due", "many", "x", "y"] ["d", "due"] (defScope (topS 11)) := ⟨rfl, rfl, rfl, by decide +kernel, rfl, by decide +kernel, by decide +kernel⟩
theorem bd_first_with : Binds K G.d_first_with ["d", "due"] [] := G.D_first_with.bindsN fun _ _ _ _ _ _ us hl => match us, hl with | [_, _], _ => rfl
def b_first_with : SF := (sSeq (asg 2 (bin pMul (kE (.int 2)) (callF pLen (aCons (bin pIx (callF p_chain_of (aCons (eTup (aCons (kE (.int 0)) (aCons (nm 0) (aCons (kE (.int 1)) aNil)))) aNil)) (kE (.int 1))) aNil)))) (sRet (bin pIx (eLc [3, 4] (wSeq (callF p_steps_for (aCons (nm 0) (aCons (nm 2) aNil)))) (bTup 2 (bCons (bNm 3) (bCons (bNm 4) bNil))) (tB' (bin pEq (bin pSub (bin pMul (nm 3) (nm 3)) (bin pMul (bin pMul (nm 0) (nm 4)) (nm 4))) (nm 1))) (eTup (aCons (nm 3) (aCons (nm 4) aNil)))) (kE (.int 0)))))
def p_first_with : List PV → Option PV := runP 5 2 b_first_with
theorem ok_first_with : FnOk P w K mg base CX0 6 G.a_first_with G.d_first_with ["d", "due"] (spP [] K p_first_with) := fd_pure G.D_first_with sc_first_with rfl rfl fun cdv A outer s H E hr => by
  have hu := hr.units
  have hu5 := hu65 hr
  exact (fss_cons (fs_set 2 sc_first_with.nd (fe_op op_mulA of_mul fe_int (fe_callB call_len cf_len rfl G.g_len (by decide +kernel) (fa_cons (fe_ix (fe_call (ok_chain_of G) (hr.mono (by decide : 4 ≤ 5)) G.m_chain_of G.D_chain_of.kp (bd_chain_of G) pass0 (fa_cons (fe_tup (fa_cons fe_int (fa_cons (fe_nm 0) (fa_cons fe_int fa_nil)))) fa_nil)) fe_int) fa_nil)))) (fss_one (fs_ret (fe_ix (FN.fe (fn_lc (own := [("x", 3), ("y", 4)]) rfl sc_first_with.nd (fi_seq (fe_call (ok_steps_for G) (hr.mono (by decide : 5 ≤ 5)) G.m_steps_for G.D_steps_for.kp (bd_steps_for G) pass0 (fa_cons (fe_nm 0) (fa_cons (fe_nm 2) fa_nil)))) (blkOk_by (own := [("x", 3), ("y", 4)]) (N := ["d", "due", "many", "x", "y"]) (sc := defScope (topS 11)) (by decide +kernel)) (fun _ _ _ _ _ => (fb_tup rfl (fbs_cons (fb_nm 3 sc_first_with.nd) (fbs_cons (fb_nm 4 sc_first_with.nd) fbs_nil)))) (fun _ _ _ _ _ => (fts_one (ft_cmp (op_eqA hu) of_eq (fe_op op_sub of_sub (fe_op op_mulA of_mul (fe_nm 3) (fe_nm 3)) (fe_op op_mulA of_mul (fe_op op_mulA of_mul (fe_nm 0) (fe_nm 4)) (fe_nm 4))) (fe_nm 1)))) (fun _ _ _ _ _ => (fe_tup (fa_cons (fe_nm 3) (fa_cons (fe_nm 4) fa_nil)))))) fe_int))))
theorem sc_pell : FnScope ["d"] ["d"] (defScope (topS 12)) := ⟨rfl, rfl, rfl, by decide +kernel, rfl, by decide +kernel, by decide +kernel⟩
theorem bd_pell : Binds K G.d_pell ["d"] [] := G.D_pell.bindsN fun _ _ _ _ _ _ us hl => match us, hl with | [_], _ => rfl
def b_pell : SF := (sRet (callF p_first_with (aCons (nm 0) (aCons (kE (.int 1)) aNil))))
def p_pell : List PV → Option PV := runP 1 1 b_pell
theorem ok_pell : FnOk P w K mg base CX0 7 G.a_pell G.d_pell ["d"] (spP [] K p_pell) := fd_pure G.D_pell sc_pell rfl rfl fun cdv A outer s H E hr => by
  have hu := hr.units
  have hu5 := hu65 hr
  exact (fss_one (fs_ret (fe_call (ok_first_with G) (hr.mono (by decide : 6 ≤ 6)) G.m_first_with G.D_first_with.kp (bd_first_with G) pass0 (fa_cons (fe_nm 0) (fa_cons fe_int fa_nil)))))
theorem sc_minus_paper : FnScope ["d", "ring"] ["d"] (defScope (topS 13)) := ⟨rfl, rfl, rfl, by decide +kernel, rfl, by decide +kernel, by decide +kernel⟩
theorem bd_minus_paper : Binds K G.d_minus_paper ["d"] [] := G.D_minus_paper.bindsN fun _ _ _ _ _ _ us hl => match us, hl with | [_], _ => rfl
def b_minus_paper : SF := (sSeq (asg 1 (bin pIx (callF p_chain_of (aCons (eTup (aCons (kE (.int 0)) (aCons (nm 0) (aCons (kE (.int 1)) aNil)))) aNil)) (kE (.int 1)))) (sRet (eIf (tB' (bin pEq (bin pMod (lenN 1) (kE (.int 2))) (kE (.int 0)))) (eTup (aCons (kE (.str "round")) (aCons (nm 1) aNil))) (eTup (aCons (kE (.str "minus")) (aStar (callF p_first_with (aCons (nm 0) (aCons (un pNeg (kE (.int 1))) aNil))) aNil))))))
def p_minus_paper : List PV → Option PV := runP 2 1 b_minus_paper
theorem ok_minus_paper : FnOk P w K mg base CX0 7 G.a_minus_paper G.d_minus_paper ["d"] (spP [] K p_minus_paper) := fd_pure G.D_minus_paper sc_minus_paper rfl rfl fun cdv A outer s H E hr => by
  have hu := hr.units
  have hu5 := hu65 hr
  exact (fss_cons (fs_set 1 sc_minus_paper.nd (fe_ix (fe_call (ok_chain_of G) (hr.mono (by decide : 4 ≤ 6)) G.m_chain_of G.D_chain_of.kp (bd_chain_of G) pass0 (fa_cons (fe_tup (fa_cons fe_int (fa_cons (fe_nm 0) (fa_cons fe_int fa_nil)))) fa_nil)) fe_int)) (fss_one (fs_ret (fe_if (ft_cmp (op_eqA hu) of_eq (fe_op op_modN of_mod (fe_lenN 1 rfl G.g_len) fe_int) fe_int) (fe_tup (fa_cons fe_str (fa_cons (fe_nm 1) fa_nil))) (fe_tup (fa_cons fe_str (fa_star (fe_call (ok_first_with G) (hr.mono (by decide : 6 ≤ 6)) G.m_first_with G.D_first_with.kp (bd_first_with G) pass0 (fa_cons (fe_nm 0) (fa_cons (fe_neg fe_int) fa_nil))) fa_nil)))))))
theorem sc_answers : FnScope ["d", "many", "x", "y", "found", "a", "b", "k"] ["d", "many"] (defScope (topS 14)) := ⟨rfl, rfl, rfl, by decide +kernel, rfl, by decide +kernel, by decide +kernel⟩
theorem bd_answers : Binds K G.d_answers ["d", "many"] [] := G.D_answers.bindsN fun _ _ _ _ _ _ us hl => match us, hl with | [_, _], _ => rfl
def b_answers : SF := (sSeq (asgB (bTup 2 (bCons (bNm 2) (bCons (bNm 3) bNil))) (callF p_pell (aCons (nm 0) aNil))) (sSeq (asgO 4 (eLst aNil)) (sSeq (asgB (bTup 2 (bCons (bNm 5) (bCons (bNm 6) bNil))) (eTup (aCons (kE (.int 1)) (aCons (kE (.int 0)) aNil)))) (sSeq (sFor (wRng1 (nm 1)) (bNm 7) (sSeq (asg2 5 6 (aCons (bin pAdd (bin pMul (nm 5) (nm 2)) (bin pMul (bin pMul (nm 0) (nm 6)) (nm 3))) (aCons (bin pAdd (bin pMul (nm 5) (nm 3)) (bin pMul (nm 6) (nm 2))) aNil))) (sExpr (append 4 (eTup (aCons (nm 5) (aCons (nm 6) aNil))))))) (sRet (nm 4))))))
def p_answers : List PV → Option PV := runP 8 2 b_answers
theorem ok_answers : FnOk P w K mg base CX0 8 G.a_answers G.d_answers ["d", "many"] (spP [] K p_answers) := fd_pure G.D_answers sc_answers rfl rfl fun cdv A outer s H E hr => by
  have hu := hr.units
  have hu5 := hu65 hr
  exact (fss_cons (fs_asg (fe_call (ok_pell G) (hr.mono (by decide : 7 ≤ 7)) G.m_pell G.D_pell.kp (bd_pell G) pass0 (fa_cons (fe_nm 0) fa_nil)) (fb_tup rfl (fbs_cons (fb_nm 2 sc_answers.nd) (fbs_cons (fb_nm 3 sc_answers.nd) fbs_nil)))) (fss_cons (fs_setO 4 sc_answers.nd (fn_lst fa_nil)) (fss_cons (fs_asg (fe_tup (fa_cons fe_int (fa_cons fe_int fa_nil))) (fb_tup rfl (fbs_cons (fb_nm 5 sc_answers.nd) (fbs_cons (fb_nm 6 sc_answers.nd) fbs_nil)))) (fss_cons (fs_for (PassesOwn.never) rfl (fi_rng1 rfl G.g_range (fe_nm 1)) (fb_nm 7 sc_answers.nd) (fss_cons (fs_par 5 6 sc_answers.nd (fa_cons (fe_op op_addA of_add (fe_op op_mulA of_mul (fe_nm 5) (fe_nm 2)) (fe_op op_mulA of_mul (fe_op op_mulA of_mul (fe_nm 0) (fe_nm 6)) (fe_nm 3))) (fa_cons (fe_op op_addA of_add (fe_op op_mulA of_mul (fe_nm 5) (fe_nm 3)) (fe_op op_mulA of_mul (fe_nm 6) (fe_nm 2))) fa_nil))) (fss_one (fs_expr (fe_append 4 (fe_tup (fa_cons (fe_nm 5) (fa_cons (fe_nm 6) fa_nil)))))))) (fss_one (fs_ret (fe_nm 4)))))))
theorem sc_near : FnScope ["d", "many", "known", "x", "y", "one"] ["d"] (defScope (topS 15)) := ⟨rfl, rfl, rfl, by decide +kernel, rfl, by decide +kernel, by decide +kernel⟩
theorem bd_near : Binds K G.d_near ["d"] [] := G.D_near.bindsN fun _ _ _ _ _ _ us hl => match us, hl with | [_], _ => rfl
def b_near : SF := (sSeq (asg 1 (bin pAdd (bin pMul (kE (.int 2)) (callF pLen (aCons (bin pIx (callF p_chain_of (aCons (eTup (aCons (kE (.int 0)) (aCons (nm 0) (aCons (kE (.int 1)) aNil)))) aNil)) (kE (.int 1))) aNil))) (kE (.int 1)))) (sSeq (asgO 2 (eLc [3, 4] (wSeq (callF p_steps_for (aCons (nm 0) (aCons (nm 1) aNil)))) (bTup 2 (bCons (bNm 3) (bCons (bNm 4) bNil))) tYs (bin pSub (bin pMul (nm 3) (nm 3)) (bin pMul (bin pMul (nm 0) (nm 4)) (nm 4))))) (sRet (callF pSortSet (aCons (eLc [5] (wSeq (nm 2)) (bNm 5) (tB' (bin pLt (bin pMul (nm 5) (nm 5)) (nm 0))) (nm 5)) aNil)))))
def p_near : List PV → Option PV := runP 6 1 b_near
theorem ok_near : FnOk P w K mg base CX0 6 G.a_near G.d_near ["d"] (spP [] K p_near) := fd_pure G.D_near sc_near rfl rfl fun cdv A outer s H E hr => by
  have hu := hr.units
  have hu5 := hu65 hr
  exact (fss_cons (fs_set 1 sc_near.nd (fe_op op_addA of_add (fe_op op_mulA of_mul fe_int (fe_callB call_len cf_len rfl G.g_len (by decide +kernel) (fa_cons (fe_ix (fe_call (ok_chain_of G) (hr.mono (by decide : 4 ≤ 5)) G.m_chain_of G.D_chain_of.kp (bd_chain_of G) pass0 (fa_cons (fe_tup (fa_cons fe_int (fa_cons (fe_nm 0) (fa_cons fe_int fa_nil)))) fa_nil)) fe_int) fa_nil))) fe_int)) (fss_cons (fs_setLcO 2 (own := [("x", 3), ("y", 4)]) rfl sc_near.nd rfl rfl (sw_true rfl rfl rfl (by decide +kernel)) (fi_seq (fe_call (ok_steps_for G) (hr.mono (by decide : 5 ≤ 5)) G.m_steps_for G.D_steps_for.kp (bd_steps_for G) pass0 (fa_cons (fe_nm 0) (fa_cons (fe_nm 1) fa_nil)))) (blkOk_by (own := [("x", 3), ("y", 4)]) (N := ["d", "many", "known", "x", "y", "one"]) (sc := defScope (topS 15)) (by decide +kernel)) (fun _ _ _ _ _ => (fb_tup rfl (fbs_cons (fb_nm 3 sc_near.nd) (fbs_cons (fb_nm 4 sc_near.nd) fbs_nil)))) (fun _ _ _ _ _ => fts_nil) (fun _ _ _ _ _ => (fe_op op_sub of_sub (fe_op op_mulA of_mul (fe_nm 3) (fe_nm 3)) (fe_op op_mulA of_mul (fe_op op_mulA of_mul (fe_nm 0) (fe_nm 4)) (fe_nm 4))))) (fss_one (fs_ret (FN.fe (fn_sortSet rfl G.g_sorted G.g_set (FN.fe (fn_lc (own := [("one", 5)]) rfl sc_near.nd (fi_seq (fe_nm 2)) (blkOk_by (own := [("one", 5)]) (N := ["d", "many", "known", "x", "y", "one"]) (sc := defScope (topS 15)) (by decide +kernel)) (fun _ _ _ _ _ => (fb_nm 5 sc_near.nd)) (fun _ _ _ _ _ => (fts_one (ft_cmp (op_ltA) of_lt (fe_op op_mulA of_mul (fe_nm 5) (fe_nm 5)) (fe_nm 0)))) (fun _ _ _ _ _ => (fe_nm 5))))))))))
theorem sc_members_at : FnScope ["p", "q", "n", "u", "after", "v", "behind", "k"] ["p", "q", "n"] (defScope (topS 17)) := ⟨rfl, rfl, rfl, by decide +kernel, rfl, by decide +kernel, by decide +kernel⟩
theorem bd_members_at : Binds K G.d_members_at ["p", "q", "n"] [] := G.D_members_at.bindsN fun _ _ _ _ _ _ us hl => match us, hl with | [_, _, _], _ => rfl
def b_members_at : SF := (sSeq (asgB (bTup 4 (bCons (bNm 3) (bCons (bNm 4) (bCons (bNm 5) (bCons (bNm 6) bNil))))) (eTup (aCons (kE (.int 0)) (aCons (kE (.int 1)) (aCons (kE (.int 2)) (aCons (nm 0) aNil)))))) (sSeq (sFor (wRng1 (nm 2)) (bNm 7) (sSeq (asg2 3 4 (aCons (nm 4) (aCons (bin pSub (bin pMul (nm 0) (nm 4)) (bin pMul (nm 1) (nm 3))) aNil))) (asg2 5 6 (aCons (nm 6) (aCons (bin pSub (bin pMul (nm 0) (nm 6)) (bin pMul (nm 1) (nm 5))) aNil))))) (sRet (eTup (aCons (nm 3) (aCons (nm 5) aNil))))))
def p_members_at : List PV → Option PV := runP 8 3 b_members_at
theorem ok_members_at : FnOk P w K mg base CX0 1 G.a_members_at G.d_members_at ["p", "q", "n"] (spP [] K p_members_at) := fd_pure G.D_members_at sc_members_at rfl rfl fun cdv A outer s H E hr => by
  have hu := hr.units
  have hu5 := hu65 hr
  exact (fss_cons (fs_asg (fe_tup (fa_cons fe_int (fa_cons fe_int (fa_cons fe_int (fa_cons (fe_nm 0) fa_nil))))) (fb_tup rfl (fbs_cons (fb_nm 3 sc_members_at.nd) (fbs_cons (fb_nm 4 sc_members_at.nd) (fbs_cons (fb_nm 5 sc_members_at.nd) (fbs_cons (fb_nm 6 sc_members_at.nd) fbs_nil)))))) (fss_cons (fs_for (PassesOwn.never) rfl (fi_rng1 rfl G.g_range (fe_nm 2)) (fb_nm 7 sc_members_at.nd) (fss_cons (fs_par 3 4 sc_members_at.nd (fa_cons (fe_nm 4) (fa_cons (fe_op op_sub of_sub (fe_op op_mulA of_mul (fe_nm 0) (fe_nm 4)) (fe_op op_mulA of_mul (fe_nm 1) (fe_nm 3))) fa_nil))) (fss_one (fs_par 5 6 sc_members_at.nd (fa_cons (fe_nm 6) (fa_cons (fe_op op_sub of_sub (fe_op op_mulA of_mul (fe_nm 0) (fe_nm 6)) (fe_op op_mulA of_mul (fe_nm 1) (fe_nm 5))) fa_nil)))))) (fss_one (fs_ret (fe_tup (fa_cons (fe_nm 3) (fa_cons (fe_nm 5) fa_nil)))))))
theorem sc_convergents : FnScope ["row", "found", "k", "a", "b", "c", "d"] ["row"] (defScope (topS 19)) := ⟨rfl, rfl, rfl, by decide +kernel, rfl, by decide +kernel, by decide +kernel⟩
theorem bd_convergents : Binds K G.d_convergents ["row"] [] := G.D_convergents.bindsN fun _ _ _ _ _ _ us hl => match us, hl with | [_], _ => rfl
def b_convergents : SF := (sSeq (asgO 1 (eLst aNil)) (sSeq (sFor (wRng2 (kE (.int 1)) (bin pAdd (lenN 0) (kE (.int 1)))) (bNm 2) (sSeq (asgB (bTup 4 (bCons (bNm 3) (bCons (bNm 4) (bCons (bNm 5) (bCons (bNm 6) bNil))))) (callF p_product_of (aCons (eSl (nm 0) oNo (oSo (nm 2))) aNil))) (sExpr (append 1 (eTup (aCons (nm 3) (aCons (nm 5) aNil))))))) (sRet (nm 1))))
def p_convergents : List PV → Option PV := runP 7 1 b_convergents
theorem ok_convergents : FnOk P w K mg base CX0 2 G.a_convergents G.d_convergents ["row"] (spP [] K p_convergents) := fd_pure G.D_convergents sc_convergents rfl rfl fun cdv A outer s H E hr => by
  have hu := hr.units
  have hu5 := hu65 hr
  exact (fss_cons (fs_setO 1 sc_convergents.nd (fn_lst fa_nil)) (fss_cons (fs_for (PassesOwn.never) rfl (fi_rng2 rfl G.g_range fe_int (fe_op op_addA of_add (fe_lenN 0 rfl G.g_len) fe_int)) (fb_nm 2 sc_convergents.nd) (fss_cons (fs_asg (fe_call (ok_product_of G) (hr.mono (by decide : 1 ≤ 1)) G.m_product_of G.D_product_of.kp (bd_product_of G) pass0 (fa_cons (fe_sl (fe_nm 0) fo_no (fo_so (fe_nm 2))) fa_nil)) (fb_tup rfl (fbs_cons (fb_nm 3 sc_convergents.nd) (fbs_cons (fb_nm 4 sc_convergents.nd) (fbs_cons (fb_nm 5 sc_convergents.nd) (fbs_cons (fb_nm 6 sc_convergents.nd) fbs_nil)))))) (fss_one (fs_expr (fe_append 1 (fe_tup (fa_cons (fe_nm 3) (fa_cons (fe_nm 5) fa_nil)))))))) (fss_one (fs_ret (fe_nm 1)))))
theorem sc_is_above_nought : FnScope ["m", "n", "d"] ["m", "n", "d"] (defScope (topS 20)) := ⟨rfl, rfl, rfl, by decide +kernel, rfl, by decide +kernel, by decide +kernel⟩
theorem bd_is_above_nought : Binds K G.d_is_above_nought ["m", "n", "d"] [] := G.D_is_above_nought.bindsN fun _ _ _ _ _ _ us hl => match us, hl with | [_, _, _], _ => rfl
def b_is_above_nought : SF := (sSeq (sIf (tAn (tB' (bin pGe (nm 0) (kE (.int 0)))) (tB' (bin pGe (nm 1) (kE (.int 0))))) (sRet (vOr (bin pGt (nm 0) (kE (.int 0))) (bin pGt (nm 1) (kE (.int 0))))) sSkip) (sSeq (sIf (tAn (tB' (bin pLe (nm 0) (kE (.int 0)))) (tB' (bin pLe (nm 1) (kE (.int 0))))) (sRet (kE (.bool false))) sSkip) (sRet (eIf (tB' (bin pGt (nm 0) (kE (.int 0)))) (bin pGt (bin pMul (nm 0) (nm 0)) (bin pMul (bin pMul (nm 1) (nm 1)) (nm 2))) (bin pGt (bin pMul (bin pMul (nm 1) (nm 1)) (nm 2)) (bin pMul (nm 0) (nm 0)))))))
def p_is_above_nought : List PV → Option PV := runP 3 3 b_is_above_nought
theorem ok_is_above_nought : FnOk P w K mg base CX0 1 G.a_is_above_nought G.d_is_above_nought ["m", "n", "d"] (spP [] K p_is_above_nought) := fd_pure G.D_is_above_nought sc_is_above_nought rfl rfl fun cdv A outer s H E hr => by
  have hu := hr.units
  have hu5 := hu65 hr
  exact (fss_cons (fs_if (FW.ft (fw_and (ft_cmp (op_geA) of_ge (fe_nm 0) fe_int) (fw_and1 (ft_cmp (op_geA) of_ge (fe_nm 1) fe_int)))) (fss_one (fs_ret (fe_or (fe_cmp (op_gtA) of_gt (fe_nm 0) fe_int) (fe_one (fe_cmp (op_gtA) of_gt (fe_nm 1) fe_int))))) fss_nil) (fss_cons (fs_if (FW.ft (fw_and (ft_cmp (op_leA) of_le (fe_nm 0) fe_int) (fw_and1 (ft_cmp (op_leA) of_le (fe_nm 1) fe_int)))) (fss_one (fs_ret fe_bl)) fss_nil) (fss_one (fs_ret (fe_if (ft_cmp (op_gtA) of_gt (fe_nm 0) fe_int) (fe_cmp (op_gtA) of_gt (fe_op op_mulA of_mul (fe_nm 0) (fe_nm 0)) (fe_op op_mulA of_mul (fe_op op_mulA of_mul (fe_nm 1) (fe_nm 1)) (fe_nm 2))) (fe_cmp (op_gtA) of_gt (fe_op op_mulA of_mul (fe_op op_mulA of_mul (fe_nm 1) (fe_nm 1)) (fe_nm 2)) (fe_op op_mulA of_mul (fe_nm 0) (fe_nm 0))))))))
theorem sc_is_farther : FnScope ["surd", "p", "q", "r", "s", "base", "d", "under", "one", "two"] ["surd", "p", "q", "r", "s"] (defScope (topS 21)) := ⟨rfl, rfl, rfl, by decide +kernel, rfl, by decide +kernel, by decide +kernel⟩
theorem bd_is_farther : Binds K G.d_is_farther ["surd", "p", "q", "r", "s"] [] := G.D_is_farther.bindsN fun _ _ _ _ _ _ us hl => match us, hl with | [_, _, _, _, _], _ => rfl
def b_is_farther : SF := (sSeq (asgB (bTup 3 (bCons (bNm 5) (bCons (bNm 6) (bCons (bNm 7) bNil)))) (nm 0)) (sSeq (asg2 8 9 (aCons (bin pSub (bin pMul (nm 4) (nm 5)) (bin pMul (nm 3) (nm 7))) (aCons (bin pSub (bin pMul (nm 2) (nm 5)) (bin pMul (nm 1) (nm 7))) aNil))) (sRet (callF p_is_above_nought (aCons (bin pSub (bin pSub (bin pAdd (bin pMul (nm 8) (nm 8)) (bin pMul (bin pMul (nm 4) (nm 4)) (nm 6))) (bin pMul (nm 9) (nm 9))) (bin pMul (bin pMul (nm 2) (nm 2)) (nm 6))) (aCons (bin pMul (kE (.int 2)) (bin pSub (bin pMul (nm 8) (nm 4)) (bin pMul (nm 9) (nm 2)))) (aCons (nm 6) aNil)))))))
def p_is_farther : List PV → Option PV := runP 10 5 b_is_farther
theorem ok_is_farther : FnOk P w K mg base CX0 2 G.a_is_farther G.d_is_farther ["surd", "p", "q", "r", "s"] (spP [] K p_is_farther) := fd_pure G.D_is_farther sc_is_farther rfl rfl fun cdv A outer s H E hr => by
  have hu := hr.units
  have hu5 := hu65 hr
  exact (fss_cons (fs_asg (fe_nm 0) (fb_tup rfl (fbs_cons (fb_nm 5 sc_is_farther.nd) (fbs_cons (fb_nm 6 sc_is_farther.nd) (fbs_cons (fb_nm 7 sc_is_farther.nd) fbs_nil))))) (fss_cons (fs_par 8 9 sc_is_farther.nd (fa_cons (fe_op op_sub of_sub (fe_op op_mulA of_mul (fe_nm 4) (fe_nm 5)) (fe_op op_mulA of_mul (fe_nm 3) (fe_nm 7))) (fa_cons (fe_op op_sub of_sub (fe_op op_mulA of_mul (fe_nm 2) (fe_nm 5)) (fe_op op_mulA of_mul (fe_nm 1) (fe_nm 7))) fa_nil))) (fss_one (fs_ret (fe_call (ok_is_above_nought G) (hr.mono (by decide : 1 ≤ 1)) G.m_is_above_nought G.D_is_above_nought.kp (bd_is_above_nought G) pass0 (fa_cons (fe_op op_sub of_sub (fe_op op_sub of_sub (fe_op op_addA of_add (fe_op op_mulA of_mul (fe_nm 8) (fe_nm 8)) (fe_op op_mulA of_mul (fe_op op_mulA of_mul (fe_nm 4) (fe_nm 4)) (fe_nm 6))) (fe_op op_mulA of_mul (fe_nm 9) (fe_nm 9))) (fe_op op_mulA of_mul (fe_op op_mulA of_mul (fe_nm 2) (fe_nm 2)) (fe_nm 6))) (fa_cons (fe_op op_mulA of_mul fe_int (fe_op op_sub of_sub (fe_op op_mulA of_mul (fe_nm 8) (fe_nm 4)) (fe_op op_mulA of_mul (fe_nm 9) (fe_nm 2)))) (fa_cons (fe_nm 6) fa_nil))))))))
theorem sc_best_paper : FnScope ["surd", "p", "q", "s", "low", "r"] ["surd", "p", "q"] (defScope (topS 22)) := ⟨rfl, rfl, rfl, by decide +kernel, rfl, by decide +kernel, by decide +kernel⟩
theorem bd_best_paper : Binds K G.d_best_paper ["surd", "p", "q"] [] := G.D_best_paper.bindsN fun _ _ _ _ _ _ us hl => match us, hl with | [_, _, _], _ => rfl
def b_best_paper : SF := (sSeq (sFor (wRng2 (kE (.int 1)) (bin pAdd (nm 2) (kE (.int 1)))) (bNm 3) (sSeq (asg 4 (callF p_floor_of (aCons (callF p_surd_of (aCons (bin pMul (nm 3) (ixN' 0 (kE (.int 0)))) (aCons (ixN' 0 (kE (.int 1))) (aCons (nm 3) (aCons (ixN' 0 (kE (.int 2))) aNil))))) aNil))) (sFor (wSeq (eTup (aCons (nm 4) (aCons (bin pAdd (nm 4) (kE (.int 1))) aNil)))) (bNm 5) (sIf (tAn (tB' (bin pEq (callF pGcd (aCons (nm 5) (aCons (nm 3) aNil))) (kE (.int 1)))) (tAn (tB' (bin pNe (eTup (aCons (nm 5) (aCons (nm 3) aNil))) (eTup (aCons (nm 1) (aCons (nm 2) aNil))))) (tNt (tTr (callF p_is_farther (aCons (nm 0) (aCons (nm 1) (aCons (nm 2) (aCons (nm 5) (aCons (nm 3) aNil)))))))))) (sRet (eTup (aCons (kE (.str "better")) (aCons (nm 5) (aCons (nm 3) aNil))))) sSkip)))) (sRet (eTup (aCons (kE (.str "best")) aNil))))
def p_best_paper : List PV → Option PV := runP 6 3 b_best_paper
theorem ok_best_paper : FnOk P w K mg base CX0 3 G.a_best_paper G.d_best_paper ["surd", "p", "q"] (spP [] K p_best_paper) := fd_pure G.D_best_paper sc_best_paper rfl rfl fun cdv A outer s H E hr => by
  have hu := hr.units
  have hu5 := hu65 hr
  exact (fss_cons (fs_for (PassesOwn.never) rfl (fi_rng2 rfl G.g_range fe_int (fe_op op_addA of_add (fe_nm 2) fe_int)) (fb_nm 3 sc_best_paper.nd) (fss_cons (fs_set 4 sc_best_paper.nd (fe_call (ok_floor_of G) (hr.mono (by decide : 2 ≤ 2)) G.m_floor_of G.D_floor_of.kp (bd_floor_of G) pass0 (fa_cons (fe_call (ok_surd_of G) (hr.mono (by decide : 1 ≤ 2)) G.m_surd_of G.D_surd_of.kp (bd_surd_of G) pass0 (fa_cons (fe_op op_mulA of_mul (fe_nm 3) (fe_ixN 0 fe_int)) (fa_cons (fe_ixN 0 fe_int) (fa_cons (fe_nm 3) (fa_cons (fe_ixN 0 fe_int) fa_nil))))) fa_nil))) (fss_one (fs_for (PassesOwn.never) rfl (fi_seq (fe_tup (fa_cons (fe_nm 4) (fa_cons (fe_op op_addA of_add (fe_nm 4) fe_int) fa_nil)))) (fb_nm 5 sc_best_paper.nd) (fss_one (fs_if (FW.ft (fw_and (ft_cmp (op_eqA hu) of_eq (fe_callBfun cr_gcd cf_gcd rfl G.g_gcd (fa_cons (fe_nm 5) (fa_cons (fe_nm 3) fa_nil))) fe_int) (fw_and (ft_cmp (op_neA hu) of_ne (fe_tup (fa_cons (fe_nm 5) (fa_cons (fe_nm 3) fa_nil))) (fe_tup (fa_cons (fe_nm 1) (fa_cons (fe_nm 2) fa_nil)))) (fw_and1 (ft_not (ft_tru (fe_call (ok_is_farther G) (hr.mono (by decide : 2 ≤ 2)) G.m_is_farther G.D_is_farther.kp (bd_is_farther G) pass0 (fa_cons (fe_nm 0) (fa_cons (fe_nm 1) (fa_cons (fe_nm 2) (fa_cons (fe_nm 5) (fa_cons (fe_nm 3) fa_nil)))))))))))) (fss_one (fs_ret (fe_tup (fa_cons fe_str (fa_cons (fe_nm 5) (fa_cons (fe_nm 3) fa_nil)))))) fss_nil)))))) (fss_one (fs_ret (fe_tup (fa_cons fe_str fa_nil)))))
theorem sc_least_turn : FnScope ["row", "k"] ["row"] (defScope (topS 24)) := ⟨rfl, rfl, rfl, by decide +kernel, rfl, by decide +kernel, by decide +kernel⟩
theorem bd_least_turn : Binds K G.d_least_turn ["row"] [] := G.D_least_turn.bindsN fun _ _ _ _ _ _ us hl => match us, hl with | [_], _ => rfl
def b_least_turn : SF := (sRet (callF pMinL (aCons (eLc [1] (wRng1 (lenN 0)) (bNm 1) tYs (eTup (aCons (bin pAdd (eSl (nm 0) (oSo (nm 1)) oNo) (eSl (nm 0) oNo (oSo (nm 1)))) (aCons (nm 1) aNil)))) aNil)))
def p_least_turn : List PV → Option PV := runP 2 1 b_least_turn
theorem ok_least_turn : FnOk P w K mg base CX0 1 G.a_least_turn G.d_least_turn ["row"] (spP [] K p_least_turn) := fd_pure G.D_least_turn sc_least_turn rfl rfl fun cdv A outer s H E hr => by
  have hu := hr.units
  have hu5 := hu65 hr
  exact (fss_one (fs_ret (fe_callB (cr_minD rfl hu5) cf_minD rfl G.g_min (by decide +kernel) (fa_cons (FN.fe (fn_lc (own := [("k", 1)]) rfl sc_least_turn.nd (fi_rng1 rfl G.g_range (fe_lenN 0 rfl G.g_len)) (blkOk_by (own := [("k", 1)]) (N := ["row", "k"]) (sc := defScope (topS 24)) (by decide +kernel)) (fun _ _ _ _ _ => (fb_nm 1 sc_least_turn.nd)) (fun _ _ _ _ _ => fts_nil) (fun _ _ _ _ _ => (fe_tup (fa_cons (fe_op op_addA of_add (fe_sl (fe_nm 0) (fo_so (fe_nm 1)) fo_no) (fe_sl (fe_nm 0) fo_no (fo_so (fe_nm 1)))) (fa_cons (fe_nm 1) fa_nil)))))) fa_nil))))
theorem sc_tail_paper : FnScope ["one", "two", "mine", "yours", "left", "i", "right", "j", "a", "b", "c", "d", "e", "f", "g", "h"] ["one", "two"] (defScope (topS 25)) := ⟨rfl, rfl, rfl, by decide +kernel, rfl, by decide +kernel, by decide +kernel⟩
theorem bd_tail_paper : Binds K G.d_tail_paper ["one", "two"] [] := G.D_tail_paper.bindsN fun _ _ _ _ _ _ us hl => match us, hl with | [_, _], _ => rfl
def b_tail_paper : SF := (sSeq (asg2 2 3 (aCons (callF p_chain_of (aCons (nm 0) aNil)) (aCons (callF p_chain_of (aCons (nm 1) aNil)) aNil))) (sSeq (asgB (bTup 2 (bCons (bNm 4) (bCons (bNm 5) bNil))) (callF p_least_turn (aCons (ixN' 2 (kE (.int 1))) aNil))) (sSeq (asgB (bTup 2 (bCons (bNm 6) (bCons (bNm 7) bNil))) (callF p_least_turn (aCons (ixN' 3 (kE (.int 1))) aNil))) (sSeq (sIf (tB' (bin pNe (nm 4) (nm 6))) (sRet (eTup (aCons (kE (.str "apart")) (aCons (nm 4) (aCons (nm 6) aNil))))) sSkip) (sSeq (asgB (bTup 4 (bCons (bNm 8) (bCons (bNm 9) (bCons (bNm 10) (bCons (bNm 11) bNil))))) (callF p_product_of (aCons (bin pAdd (ixN' 2 (kE (.int 0))) (eSl (ixN' 2 (kE (.int 1))) oNo (oSo (nm 5)))) aNil))) (sSeq (asgB (bTup 4 (bCons (bNm 12) (bCons (bNm 13) (bCons (bNm 14) (bCons (bNm 15) bNil))))) (callF p_product_of (aCons (bin pAdd (ixN' 3 (kE (.int 0))) (eSl (ixN' 3 (kE (.int 1))) oNo (oSo (nm 7)))) aNil))) (sRet (eTup (aCons (kE (.str "tail")) (aCons (bin pSub (bin pMul (nm 12) (nm 11)) (bin pMul (nm 13) (nm 10))) (aCons (bin pSub (bin pMul (nm 13) (nm 8)) (bin pMul (nm 12) (nm 9))) (aCons (bin pSub (bin pMul (nm 14) (nm 11)) (bin pMul (nm 15) (nm 10))) (aCons (bin pSub (bin pMul (nm 15) (nm 8)) (bin pMul (nm 14) (nm 9))) aNil)))))))))))))
def p_tail_paper : List PV → Option PV := runP 16 2 b_tail_paper
theorem ok_tail_paper : FnOk P w K mg base CX0 5 G.a_tail_paper G.d_tail_paper ["one", "two"] (spP [] K p_tail_paper) := fd_pure G.D_tail_paper sc_tail_paper rfl rfl fun cdv A outer s H E hr => by
  have hu := hr.units
  have hu5 := hu65 hr
  exact (fss_cons (fs_par 2 3 sc_tail_paper.nd (fa_cons (fe_call (ok_chain_of G) (hr.mono (by decide : 4 ≤ 4)) G.m_chain_of G.D_chain_of.kp (bd_chain_of G) pass0 (fa_cons (fe_nm 0) fa_nil)) (fa_cons (fe_call (ok_chain_of G) (hr.mono (by decide : 4 ≤ 4)) G.m_chain_of G.D_chain_of.kp (bd_chain_of G) pass0 (fa_cons (fe_nm 1) fa_nil)) fa_nil))) (fss_cons (fs_asg (fe_call (ok_least_turn G) (hr.mono (by decide : 1 ≤ 4)) G.m_least_turn G.D_least_turn.kp (bd_least_turn G) pass0 (fa_cons (fe_ixN 2 fe_int) fa_nil)) (fb_tup rfl (fbs_cons (fb_nm 4 sc_tail_paper.nd) (fbs_cons (fb_nm 5 sc_tail_paper.nd) fbs_nil)))) (fss_cons (fs_asg (fe_call (ok_least_turn G) (hr.mono (by decide : 1 ≤ 4)) G.m_least_turn G.D_least_turn.kp (bd_least_turn G) pass0 (fa_cons (fe_ixN 3 fe_int) fa_nil)) (fb_tup rfl (fbs_cons (fb_nm 6 sc_tail_paper.nd) (fbs_cons (fb_nm 7 sc_tail_paper.nd) fbs_nil)))) (fss_cons (fs_if (ft_cmp (op_neA hu) of_ne (fe_nm 4) (fe_nm 6)) (fss_one (fs_ret (fe_tup (fa_cons fe_str (fa_cons (fe_nm 4) (fa_cons (fe_nm 6) fa_nil)))))) fss_nil) (fss_cons (fs_asg (fe_call (ok_product_of G) (hr.mono (by decide : 1 ≤ 4)) G.m_product_of G.D_product_of.kp (bd_product_of G) pass0 (fa_cons (fe_op op_addA of_add (fe_ixN 2 fe_int) (fe_sl (fe_ixN 2 fe_int) fo_no (fo_so (fe_nm 5)))) fa_nil)) (fb_tup rfl (fbs_cons (fb_nm 8 sc_tail_paper.nd) (fbs_cons (fb_nm 9 sc_tail_paper.nd) (fbs_cons (fb_nm 10 sc_tail_paper.nd) (fbs_cons (fb_nm 11 sc_tail_paper.nd) fbs_nil)))))) (fss_cons (fs_asg (fe_call (ok_product_of G) (hr.mono (by decide : 1 ≤ 4)) G.m_product_of G.D_product_of.kp (bd_product_of G) pass0 (fa_cons (fe_op op_addA of_add (fe_ixN 3 fe_int) (fe_sl (fe_ixN 3 fe_int) fo_no (fo_so (fe_nm 7)))) fa_nil)) (fb_tup rfl (fbs_cons (fb_nm 12 sc_tail_paper.nd) (fbs_cons (fb_nm 13 sc_tail_paper.nd) (fbs_cons (fb_nm 14 sc_tail_paper.nd) (fbs_cons (fb_nm 15 sc_tail_paper.nd) fbs_nil)))))) (fss_one (fs_ret (fe_tup (fa_cons fe_str (fa_cons (fe_op op_sub of_sub (fe_op op_mulA of_mul (fe_nm 12) (fe_nm 11)) (fe_op op_mulA of_mul (fe_nm 13) (fe_nm 10))) (fa_cons (fe_op op_sub of_sub (fe_op op_mulA of_mul (fe_nm 13) (fe_nm 8)) (fe_op op_mulA of_mul (fe_nm 12) (fe_nm 9))) (fa_cons (fe_op op_sub of_sub (fe_op op_mulA of_mul (fe_nm 14) (fe_nm 11)) (fe_op op_mulA of_mul (fe_nm 15) (fe_nm 10))) (fa_cons (fe_op op_sub of_sub (fe_op op_mulA of_mul (fe_nm 15) (fe_nm 8)) (fe_op op_mulA of_mul (fe_nm 14) (fe_nm 9))) fa_nil))))))))))))))
theorem sc__law_pool : FnScope ["script", "salt", "cell"] ["script"] (defScope (topS 27)) := ⟨rfl, rfl, rfl, by decide +kernel, rfl, by decide +kernel, by decide +kernel⟩
theorem bd__law_pool : Binds K G.d__law_pool ["script"] [] := G.D__law_pool.bindsN fun _ _ _ _ _ _ us hl => match us, hl with | [_], _ => rfl
def b__law_pool : SF := (sSeq (asg 1 (kE (.int 7))) (sSeq (sFor (wSeq (eSl (nm 0) oNo (oSo (kE (.int 63))))) (bNm 2) (asg 1 (bin pMod (callF pInt1 (aCons (bin pAdd (bin pMul (nm 1) (kE (.int 31))) (nm 2)) aNil)) (kE (.int 1000003))))) (sRetO (eLst (aCons (callF pList (aCons (nm 0) aNil)) (aCons (kE (.int 0)) (aCons (kE (.int 0)) (aCons (kE (.int 0)) (aCons (nm 1) aNil)))))))))
def p__law_pool : List PV → Option PV := runN 3 1 b__law_pool
theorem ok__law_pool : FnOk P w K mg base CX0 1 G.a__law_pool G.d__law_pool ["script"] (spN [] K p__law_pool) := fd_new G.D__law_pool sc__law_pool rfl rfl fun cdv A outer s H E hr => by
  have hu := hr.units
  have hu5 := hu65 hr
  exact (fss_cons (fs_set 1 sc__law_pool.nd fe_int) (fss_cons (fs_for (PassesOwn.never) rfl (fi_seq (fe_sl (fe_nm 0) fo_no (fo_so fe_int))) (fb_nm 2 sc__law_pool.nd) (fss_one (fs_set 1 sc__law_pool.nd (fe_op op_modN of_mod (fe_callTy call_int1 cf_int1 rfl G.g_int (by decide +kernel) (fa_cons (fe_op op_addA of_add (fe_op op_mulA of_mul (fe_nm 1) fe_int) (fe_nm 2)) fa_nil)) fe_int)))) (fss_one (fs_retO (fn_lst (fa_cons (FN.fe (fn_callTy (call_list_of) cn_list rfl G.g_list (by decide +kernel) (fa_cons (fe_nm 0) fa_nil))) (fa_cons fe_int (fa_cons fe_int (fa_cons fe_int (fa_cons (fe_nm 1) fa_nil))))))))))
theorem sc__law_spread : FnScope ["cell", "blended", "whole_sum", "k"] ["cell"] (defScope (topS 28)) := ⟨rfl, rfl, rfl, by decide +kernel, rfl, by decide +kernel, by decide +kernel⟩
theorem bd__law_spread : Binds K G.d__law_spread ["cell"] [] := G.D__law_spread.bindsN fun _ _ _ _ _ _ us hl => match us, hl with | [_], _ => rfl
def b__law_spread : SF := (sSeq (asg 1 (bin pMod (callF pInt1 (aCons (nm 0) aNil)) (kE (.int 2147483647)))) (sSeq (asg 2 (kE (.int 1))) (sSeq (sFor (wRng1 (kE (.int 4))) (bNm 3) (sSeq (asg 1 (bin pMod (callF pInt1 (aCons (bin pAdd (bin pAdd (bin pMul (nm 1) (kE (.int 48271))) (kE (.int 12345))) (nm 3)) aNil)) (kE (.int 2147483647)))) (asg 2 (bin pAdd (bin pMul (nm 2) (kE (.int 2147483647))) (nm 1))))) (sRet (nm 2)))))
def p__law_spread : List PV → Option PV := runP 4 1 b__law_spread
theorem ok__law_spread : FnOk P w K mg base CX0 1 G.a__law_spread G.d__law_spread ["cell"] (spP [] K p__law_spread) := fd_pure G.D__law_spread sc__law_spread rfl rfl fun cdv A outer s H E hr => by
  have hu := hr.units
  have hu5 := hu65 hr
  exact (fss_cons (fs_set 1 sc__law_spread.nd (fe_op op_modN of_mod (fe_callTy call_int1 cf_int1 rfl G.g_int (by decide +kernel) (fa_cons (fe_nm 0) fa_nil)) fe_int)) (fss_cons (fs_set 2 sc__law_spread.nd fe_int) (fss_cons (fs_for (PassesOwn.never) rfl (fi_rng1 rfl G.g_range fe_int) (fb_nm 3 sc__law_spread.nd) (fss_cons (fs_set 1 sc__law_spread.nd (fe_op op_modN of_mod (fe_callTy call_int1 cf_int1 rfl G.g_int (by decide +kernel) (fa_cons (fe_op op_addA of_add (fe_op op_addA of_add (fe_op op_mulA of_mul (fe_nm 1) fe_int) fe_int) (fe_nm 3)) fa_nil)) fe_int)) (fss_one (fs_set 2 sc__law_spread.nd (fe_op op_addA of_add (fe_op op_mulA of_mul (fe_nm 2) fe_int) (fe_nm 1)))))) (fss_one (fs_ret (fe_nm 2))))))
theorem sc__law_draw : FnScope ["pool", "many", "value", "cell", "blended"] ["pool", "many"] (defScope (topS 29)) := ⟨rfl, rfl, rfl, by decide +kernel, rfl, by decide +kernel, by decide +kernel⟩
theorem bd__law_draw : Binds K G.d__law_draw ["pool", "many"] [] := G.D__law_draw.bindsN fun _ _ _ _ _ _ us hl => match us, hl with | [_, _], _ => rfl
def b__law_draw : SF := (sSeq (sIf (tAn (tB' (bin pLe (ixN' 0 (kE (.int 2))) (kE (.int 0)))) (tB' (bin pLt (ixN' 0 (kE (.int 1))) (callF pLen (aCons (ixN' 0 (kE (.int 0))) aNil))))) (sSeq (asg 3 (bin pIx (ixN' 0 (kE (.int 0))) (ixN' 0 (kE (.int 1))))) (sSeq (setIx 0 (kE (.int 1)) (bin pAdd (ixN' 0 (kE (.int 1))) (kE (.int 1)))) (sSeq (setIx 0 (kE (.int 2)) (nm 3)) (sIf (tB' (bin pLt (nm 3) (kE (.int 1000000000000000000)))) (setIx 0 (kE (.int 2)) (callF p__law_spread (aCons (nm 3) aNil))) sSkip)))) sSkip) (sSeq (setIx 0 (kE (.int 3)) (bin pAdd (ixN' 0 (kE (.int 3))) (kE (.int 1)))) (sSeq (sIf (tB' (bin pLe (ixN' 0 (kE (.int 2))) (kE (.int 0)))) (sSeq (asg 4 (bin pMod (callF pInt1 (aCons (bin pAdd (bin pAdd (bin pMul (ixN' 0 (kE (.int 4))) (kE (.int 48271))) (bin pMul (ixN' 0 (kE (.int 3))) (kE (.int 69621)))) (kE (.int 1))) aNil)) (kE (.int 2147483647)))) (sSeq (asg 4 (bin pMod (callF pInt1 (aCons (bin pAdd (bin pMul (nm 4) (kE (.int 16807))) (ixN' 0 (kE (.int 3)))) aNil)) (kE (.int 2147483629)))) (sRet (bin pMod (bin pDiv (nm 4) (kE (.int 5))) (nm 1))))) sSkip) (sSeq (asg 2 (bin pMod (callF pInt1 (aCons (ixN' 0 (kE (.int 2))) aNil)) (nm 1))) (sSeq (setIx 0 (kE (.int 2)) (bin pDiv (ixN' 0 (kE (.int 2))) (nm 1))) (sRet (nm 2)))))))
def p__law_draw : PV → List PV → Option (PV × PV) := runIO 5 2 b__law_draw
theorem ok__law_draw : FnOk P w K mg base CX0 2 G.a__law_draw G.d__law_draw ["pool", "many"] (spIO [] K p__law_draw) := fd_io G.D__law_draw sc__law_draw rfl rfl fun cdv A outer s H E hr => by
  have hu := hr.units
  have hu5 := hu65 hr
  exact (fss_cons (fs_if (FW.ft (fw_and (ft_cmp (op_leA) of_le (fe_ixN 0 fe_int) fe_int) (fw_and1 (ft_cmp (op_ltA) of_lt (fe_ixN 0 fe_int) (fe_callB call_len cf_len rfl G.g_len (by decide +kernel) (fa_cons (fe_ixN 0 fe_int) fa_nil)))))) (fss_cons (fs_set 3 sc__law_draw.nd (fe_ix (fe_ixN 0 fe_int) (fe_ixN 0 fe_int))) (fss_cons (fs_setIx 0 fe_int (fe_op op_addA of_add (fe_ixN 0 fe_int) fe_int)) (fss_cons (fs_setIx 0 fe_int (fe_nm 3)) (fss_one (fs_if (ft_cmp (op_ltA) of_lt (fe_nm 3) fe_int) (fss_one (fs_setIx 0 fe_int (fe_call (ok__law_spread G) (hr.mono (by decide : 1 ≤ 1)) G.m__law_spread G.D__law_spread.kp (bd__law_spread G) pass0 (fa_cons (fe_nm 3) fa_nil)))) fss_nil))))) fss_nil) (fss_cons (fs_setIx 0 fe_int (fe_op op_addA of_add (fe_ixN 0 fe_int) fe_int)) (fss_cons (fs_if (ft_cmp (op_leA) of_le (fe_ixN 0 fe_int) fe_int) (fss_cons (fs_set 4 sc__law_draw.nd (fe_op op_modN of_mod (fe_callTy call_int1 cf_int1 rfl G.g_int (by decide +kernel) (fa_cons (fe_op op_addA of_add (fe_op op_addA of_add (fe_op op_mulA of_mul (fe_ixN 0 fe_int) fe_int) (fe_op op_mulA of_mul (fe_ixN 0 fe_int) fe_int)) fe_int) fa_nil)) fe_int)) (fss_cons (fs_set 4 sc__law_draw.nd (fe_op op_modN of_mod (fe_callTy call_int1 cf_int1 rfl G.g_int (by decide +kernel) (fa_cons (fe_op op_addA of_add (fe_op op_mulA of_mul (fe_nm 4) fe_int) (fe_ixN 0 fe_int)) fa_nil)) fe_int)) (fss_one (fs_ret (fe_op op_modN of_mod (fe_op op_fdivG of_div (fe_nm 4) fe_int) (fe_nm 1)))))) fss_nil) (fss_cons (fs_set 2 sc__law_draw.nd (fe_op op_modN of_mod (fe_callTy call_int1 cf_int1 rfl G.g_int (by decide +kernel) (fa_cons (fe_ixN 0 fe_int) fa_nil)) (fe_nm 1))) (fss_cons (fs_setIx 0 fe_int (fe_op op_fdivG of_div (fe_ixN 0 fe_int) (fe_nm 1))) (fss_one (fs_ret (fe_nm 2))))))))
theorem sc__law_root : FnScope ["n", "low", "high", "step", "middle"] ["n"] (defScope (topS 30)) := ⟨rfl, rfl, rfl, by decide +kernel, rfl, by decide +kernel, by decide +kernel⟩
theorem bd__law_root : Binds K G.d__law_root ["n"] [] := G.D__law_root.bindsN fun _ _ _ _ _ _ us hl => match us, hl with | [_], _ => rfl
def b__law_root : SF := (sSeq (asg2 1 2 (aCons (kE (.int 0)) (aCons (bin pAdd (nm 0) (kE (.int 1))) aNil))) (sSeq (sFor (wRng1 (kE (.int 160))) (bNm 3) (sIf (tB' (bin pGt (bin pSub (nm 2) (nm 1)) (kE (.int 1)))) (sSeq (asg 4 (bin pDiv (bin pAdd (nm 1) (nm 2)) (kE (.int 2)))) (sIf (tB' (bin pLe (bin pMul (nm 4) (nm 4)) (nm 0))) (asg 1 (nm 4)) (asg 2 (nm 4)))) sSkip)) (sRet (nm 1))))
def p__law_root : List PV → Option PV := runP 5 1 b__law_root
theorem ok__law_root : FnOk P w K mg base CX0 1 G.a__law_root G.d__law_root ["n"] (spP [] K p__law_root) := fd_pure G.D__law_root sc__law_root rfl rfl fun cdv A outer s H E hr => by
  have hu := hr.units
  have hu5 := hu65 hr
  exact (fss_cons (fs_par 1 2 sc__law_root.nd (fa_cons fe_int (fa_cons (fe_op op_addA of_add (fe_nm 0) fe_int) fa_nil))) (fss_cons (fs_for (PassesOwn.never) rfl (fi_rng1 rfl G.g_range fe_int) (fb_nm 3 sc__law_root.nd) (fss_one (fs_if (ft_cmp (op_gtA) of_gt (fe_op op_sub of_sub (fe_nm 2) (fe_nm 1)) fe_int) (fss_cons (fs_set 4 sc__law_root.nd (fe_op op_fdivG of_div (fe_op op_addA of_add (fe_nm 1) (fe_nm 2)) fe_int)) (fss_one (fs_if (ft_cmp (op_leA) of_le (fe_op op_mulA of_mul (fe_nm 4) (fe_nm 4)) (fe_nm 0)) (fss_one (fs_set 1 sc__law_root.nd (fe_nm 4))) (fss_one (fs_set 2 sc__law_root.nd (fe_nm 4)))))) fss_nil))) (fss_one (fs_ret (fe_nm 1)))))
theorem sc__law_is_sq : FnScope ["n"] ["n"] (defScope (topS 31)) := ⟨rfl, rfl, rfl, by decide +kernel, rfl, by decide +kernel, by decide +kernel⟩
theorem bd__law_is_sq : Binds K G.d__law_is_sq ["n"] [] := G.D__law_is_sq.bindsN fun _ _ _ _ _ _ us hl => match us, hl with | [_], _ => rfl
def b__law_is_sq : SF := (sRet (vAn (bin pGe (nm 0) (kE (.int 0))) (bin pEq (bin pMul (callF p__law_root (aCons (nm 0) aNil)) (callF p__law_root (aCons (nm 0) aNil))) (nm 0))))
def p__law_is_sq : List PV → Option PV := runP 1 1 b__law_is_sq
theorem ok__law_is_sq : FnOk P w K mg base CX0 2 G.a__law_is_sq G.d__law_is_sq ["n"] (spP [] K p__law_is_sq) := fd_pure G.D__law_is_sq sc__law_is_sq rfl rfl fun cdv A outer s H E hr => by
  have hu := hr.units
  have hu5 := hu65 hr
  exact (fss_one (fs_ret (fe_and (fe_cmp (op_geA) of_ge (fe_nm 0) fe_int) (fe_one (fe_cmp (op_eqA hu) of_eq (fe_op op_mulA of_mul (fe_call (ok__law_root G) (hr.mono (by decide : 1 ≤ 1)) G.m__law_root G.D__law_root.kp (bd__law_root G) pass0 (fa_cons (fe_nm 0) fa_nil)) (fe_call (ok__law_root G) (hr.mono (by decide : 1 ≤ 1)) G.m__law_root G.D__law_root.kp (bd__law_root G) pass0 (fa_cons (fe_nm 0) fa_nil))) (fe_nm 0))))))
theorem sc_law : FnScope ["script", "pool", "d", "head", "ring", "x", "y", "told", "n", "starts", "minus", "known", "u", "v"] ["script"] (defScope (topS 32)) := ⟨rfl, rfl, rfl, by decide +kernel, rfl, by decide +kernel, by decide +kernel⟩
theorem bd_law : Binds K G.d_law ["script"] [] := G.D_law.bindsN fun _ _ _ _ _ _ us hl => match us, hl with | [_], _ => rfl
def b_law : SF := (sSeq (asgO 1 (callF p__law_pool (aCons (nm 0) aNil))) (sSeq (asg 2 (bin pAdd (kE (.int 2)) (callIO 1 p__law_draw (aCons (kE (.int 59)) aNil)))) (sSeq (sIf (tTr (callF p__law_is_sq (aCons (nm 2) aNil))) (asg 2 (bin pSub (nm 2) (kE (.int 1)))) sSkip) (sSeq (asgB (bTup 2 (bCons (bNm 3) (bCons (bNm 4) bNil))) (callF p_chain_of (aCons (eTup (aCons (kE (.int 0)) (aCons (nm 2) (aCons (kE (.int 1)) aNil)))) aNil))) (sSeq (asgB (bTup 2 (bCons (bNm 5) (bCons (bNm 6) bNil))) (callF p_pell (aCons (nm 2) aNil))) (sSeq (asg 7 (callF p_answers (aCons (nm 2) (aCons (kE (.int 3)) aNil)))) (sSeq (sFor (wRng1 (kE (.int 3))) (bNm 8) (sSeq (asgB (bTup 2 (bCons (bNm 12) (bCons (bNm 13) bNil))) (callF p_members_at (aCons (bin pMul (kE (.int 2)) (nm 5)) (aCons (kE (.int 1)) (aCons (bin pAdd (nm 8) (kE (.int 1))) aNil))))) (sIf (tOr' (tB' (bin pNe (ixN' 7 (nm 8)) (eTup (aCons (bin pDiv (nm 13) (kE (.int 2))) (aCons (bin pMul (nm 6) (nm 12)) aNil))))) (tB' (bin pNe (bin pMod (nm 13) (kE (.int 2))) (kE (.int 0))))) (sRet (kE (.bool false))) sSkip))) (sSeq (asg 9 (callF p_convergents (aCons (bin pAdd (bin pAdd (nm 3) (nm 4)) (nm 4)) aNil))) (sSeq (sIf (tOr' (tB' (bin (pInB not) (eTup (aCons (nm 5) (aCons (nm 6) aNil))) (nm 9))) (tOr' (tB' (bin pNe (ixN' 4 (un pNeg (kE (.int 1)))) (bin pMul (kE (.int 2)) (ixN' 3 (kE (.int 0)))))) (tOr' (tB' (bin pNe (lenN 3) (kE (.int 1)))) (tB' (bin pNe (eSl (nm 4) oNo (oSo (un pNeg (kE (.int 1))))) (eRevT (eSl (nm 4) oNo (oSo (un pNeg (kE (.int 1))))))))))) (sRet (kE (.bool false))) sSkip) (sSeq (sIf (tAn (tB' (bin pLt (nm 6) (kE (.int 300)))) (tB' (bin pNe (callF p_best_paper (aCons (eTup (aCons (kE (.int 0)) (aCons (nm 2) (aCons (kE (.int 1)) aNil)))) (aCons (nm 5) (aCons (nm 6) aNil)))) (eTup (aCons (kE (.str "best")) aNil))))) (sRet (kE (.bool false))) sSkip) (sSeq (asg 10 (callF p_minus_paper (aCons (nm 2) aNil))) (sSeq (sIf (tOr' (tB' (bin pNe (bin pEq (ixN' 10 (kE (.int 0))) (kE (.str "minus"))) (bin pEq (bin pMod (lenN 4) (kE (.int 2))) (kE (.int 1))))) (tAn (tB' (bin pEq (ixN' 10 (kE (.int 0))) (kE (.str "minus")))) (tB' (bin (pInB not) (eSl (nm 10) (oSo (kE (.int 1))) oNo) (nm 9))))) (sRet (kE (.bool false))) sSkip) (sSeq (asg 11 (callF p_near (aCons (nm 2) aNil))) (sSeq (sIf (tOr' (tB' (bin (pInB not) (kE (.int 1)) (nm 11))) (tB' (bin pNe (bin (pInB id) (un pNeg (kE (.int 1))) (nm 11)) (bin pEq (ixN' 10 (kE (.int 0))) (kE (.str "minus")))))) (sRet (kE (.bool false))) sSkip) (sRet (vAn (bin pEq (bin pIx (callF p_tail_paper (aCons (eTup (aCons (kE (.int 0)) (aCons (nm 2) (aCons (kE (.int 1)) aNil)))) (aCons (eTup (aCons (ixN' 3 (kE (.int 0))) (aCons (nm 2) (aCons (kE (.int 1)) aNil)))) aNil))) (kE (.int 0))) (kE (.str "tail"))) (bin pEq (bin pIx (callF p_tail_paper (aCons (eTup (aCons (kE (.int 0)) (aCons (nm 2) (aCons (kE (.int 1)) aNil)))) (aCons (eTup (aCons (kE (.int 0)) (aCons (nm 2) (aCons (nm 2) aNil)))) aNil))) (kE (.int 0))) (kE (.str "tail")))))))))))))))))))
def p_law : List PV → Option PV := runP 14 1 b_law
theorem ok_law : FnOk P w K mg base CX0 9 G.a_law G.d_law ["script"] (spP [] K p_law) := fd_pure G.D_law sc_law rfl rfl fun cdv A outer s H E hr => by
  have hu := hr.units
  have hu5 := hu65 hr
  exact (fss_cons (fs_setO 1 sc_law.nd (fn_call (ok__law_pool G) (hr.mono (by decide : 1 ≤ 8)) G.m__law_pool G.D__law_pool.kp (bd__law_pool G) pass0 (fa_cons (fe_nm 0) fa_nil))) (fss_cons (fs_set 2 sc_law.nd (fe_op op_addA of_add fe_int (fe_callIO 1 (ok__law_draw G) (hr.mono (by decide : 2 ≤ 8)) G.m__law_draw G.D__law_draw.kp (bd__law_draw G) pass0 (fa_cons fe_int fa_nil)))) (fss_cons (fs_if (ft_tru (fe_call (ok__law_is_sq G) (hr.mono (by decide : 2 ≤ 8)) G.m__law_is_sq G.D__law_is_sq.kp (bd__law_is_sq G) pass0 (fa_cons (fe_nm 2) fa_nil))) (fss_one (fs_set 2 sc_law.nd (fe_op op_sub of_sub (fe_nm 2) fe_int))) fss_nil) (fss_cons (fs_asg (fe_call (ok_chain_of G) (hr.mono (by decide : 4 ≤ 8)) G.m_chain_of G.D_chain_of.kp (bd_chain_of G) pass0 (fa_cons (fe_tup (fa_cons fe_int (fa_cons (fe_nm 2) (fa_cons fe_int fa_nil)))) fa_nil)) (fb_tup rfl (fbs_cons (fb_nm 3 sc_law.nd) (fbs_cons (fb_nm 4 sc_law.nd) fbs_nil)))) (fss_cons (fs_asg (fe_call (ok_pell G) (hr.mono (by decide : 7 ≤ 8)) G.m_pell G.D_pell.kp (bd_pell G) pass0 (fa_cons (fe_nm 2) fa_nil)) (fb_tup rfl (fbs_cons (fb_nm 5 sc_law.nd) (fbs_cons (fb_nm 6 sc_law.nd) fbs_nil)))) (fss_cons (fs_set 7 sc_law.nd (fe_call (ok_answers G) (hr.mono (by decide : 8 ≤ 8)) G.m_answers G.D_answers.kp (bd_answers G) pass0 (fa_cons (fe_nm 2) (fa_cons fe_int fa_nil)))) (fss_cons (fs_for (PassesOwn.never) rfl (fi_rng1 rfl G.g_range fe_int) (fb_nm 8 sc_law.nd) (fss_cons (fs_asg (fe_call (ok_members_at G) (hr.mono (by decide : 1 ≤ 8)) G.m_members_at G.D_members_at.kp (bd_members_at G) pass0 (fa_cons (fe_op op_mulA of_mul fe_int (fe_nm 5)) (fa_cons fe_int (fa_cons (fe_op op_addA of_add (fe_nm 8) fe_int) fa_nil)))) (fb_tup rfl (fbs_cons (fb_nm 12 sc_law.nd) (fbs_cons (fb_nm 13 sc_law.nd) fbs_nil)))) (fss_one (fs_if (FW.ft (fw_or (ft_cmp (op_neA hu) of_ne (fe_ixN 7 (fe_nm 8)) (fe_tup (fa_cons (fe_op op_fdivG of_div (fe_nm 13) fe_int) (fa_cons (fe_op op_mulA of_mul (fe_nm 6) (fe_nm 12)) fa_nil)))) (fw_or1 (ft_cmp (op_neA hu) of_ne (fe_op op_modN of_mod (fe_nm 13) fe_int) fe_int)))) (fss_one (fs_ret fe_bl)) fss_nil)))) (fss_cons (fs_set 9 sc_law.nd (fe_call (ok_convergents G) (hr.mono (by decide : 2 ≤ 8)) G.m_convergents G.D_convergents.kp (bd_convergents G) pass0 (fa_cons (fe_op op_addA of_add (fe_op op_addA of_add (fe_nm 3) (fe_nm 4)) (fe_nm 4)) fa_nil))) (fss_cons (fs_if (FW.ft (fw_or (ft_cmp (op_notInD hu5) of_notInD (fe_tup (fa_cons (fe_nm 5) (fa_cons (fe_nm 6) fa_nil))) (fe_nm 9)) (fw_or (ft_cmp (op_neA hu) of_ne (fe_ixN 4 (fe_neg fe_int)) (fe_op op_mulA of_mul fe_int (fe_ixN 3 fe_int))) (fw_or (ft_cmp (op_neA hu) of_ne (fe_lenN 3 rfl G.g_len) fe_int) (fw_or1 (ft_cmp (op_neA hu) of_ne (fe_sl (fe_nm 4) fo_no (fo_so (fe_neg fe_int))) (fe_revT (fe_sl (fe_nm 4) fo_no (fo_so (fe_neg fe_int)))))))))) (fss_one (fs_ret fe_bl)) fss_nil) (fss_cons (fs_if (FW.ft (fw_and (ft_cmp (op_ltA) of_lt (fe_nm 6) fe_int) (fw_and1 (ft_cmp (op_neA hu) of_ne (fe_call (ok_best_paper G) (hr.mono (by decide : 3 ≤ 8)) G.m_best_paper G.D_best_paper.kp (bd_best_paper G) pass0 (fa_cons (fe_tup (fa_cons fe_int (fa_cons (fe_nm 2) (fa_cons fe_int fa_nil)))) (fa_cons (fe_nm 5) (fa_cons (fe_nm 6) fa_nil)))) (fe_tup (fa_cons fe_str fa_nil)))))) (fss_one (fs_ret fe_bl)) fss_nil) (fss_cons (fs_set 10 sc_law.nd (fe_call (ok_minus_paper G) (hr.mono (by decide : 7 ≤ 8)) G.m_minus_paper G.D_minus_paper.kp (bd_minus_paper G) pass0 (fa_cons (fe_nm 2) fa_nil))) (fss_cons (fs_if (FW.ft (fw_or (ft_cmp (op_neA hu) of_ne (fe_cmp (op_eqA hu) of_eq (fe_ixN 10 fe_int) fe_str) (fe_cmp (op_eqA hu) of_eq (fe_op op_modN of_mod (fe_lenN 4 rfl G.g_len) fe_int) fe_int)) (fw_or1 (FW.ft (fw_and (ft_cmp (op_eqA hu) of_eq (fe_ixN 10 fe_int) fe_str) (fw_and1 (ft_cmp (op_notInD hu5) of_notInD (fe_sl (fe_nm 10) (fo_so fe_int) fo_no) (fe_nm 9)))))))) (fss_one (fs_ret fe_bl)) fss_nil) (fss_cons (fs_set 11 sc_law.nd (fe_call (ok_near G) (hr.mono (by decide : 6 ≤ 8)) G.m_near G.D_near.kp (bd_near G) pass0 (fa_cons (fe_nm 2) fa_nil))) (fss_cons (fs_if (FW.ft (fw_or (ft_cmp (op_notInD hu5) of_notInD fe_int (fe_nm 11)) (fw_or1 (ft_cmp (op_neA hu) of_ne (fe_cmp (op_inD hu5) of_inD (fe_neg fe_int) (fe_nm 11)) (fe_cmp (op_eqA hu) of_eq (fe_ixN 10 fe_int) fe_str))))) (fss_one (fs_ret fe_bl)) fss_nil) (fss_one (fs_ret (fe_and (fe_cmp (op_eqA hu) of_eq (fe_ix (fe_call (ok_tail_paper G) (hr.mono (by decide : 5 ≤ 8)) G.m_tail_paper G.D_tail_paper.kp (bd_tail_paper G) pass0 (fa_cons (fe_tup (fa_cons fe_int (fa_cons (fe_nm 2) (fa_cons fe_int fa_nil)))) (fa_cons (fe_tup (fa_cons (fe_ixN 3 fe_int) (fa_cons (fe_nm 2) (fa_cons fe_int fa_nil)))) fa_nil))) fe_int) fe_str) (fe_one (fe_cmp (op_eqA hu) of_eq (fe_ix (fe_call (ok_tail_paper G) (hr.mono (by decide : 5 ≤ 8)) G.m_tail_paper G.D_tail_paper.kp (bd_tail_paper G) pass0 (fa_cons (fe_tup (fa_cons fe_int (fa_cons (fe_nm 2) (fa_cons fe_int fa_nil)))) (fa_cons (fe_tup (fa_cons fe_int (fa_cons (fe_nm 2) (fa_cons (fe_nm 2) fa_nil)))) fa_nil))) fe_int) fe_str)))))))))))))))))))
end
def dd_floor_by : He.DefD := ⟨("floor_by", none), "floor_by", "floor_by", defArgs (topS 2), defBody (topS 2), defScope (topS 2), [], []⟩
def dd_floor_of : He.DefD := ⟨("floor_of", none), "floor_of", "floor_of", defArgs (topS 3), defBody (topS 3), defScope (topS 3), [], []⟩
def dd_step_of : He.DefD := ⟨("step_of", none), "step_of", "step_of", defArgs (topS 4), defBody (topS 4), defScope (topS 4), [], []⟩
def dd_surd_of : He.DefD := ⟨("surd_of", none), "surd_of", "surd_of", defArgs (topS 5), defBody (topS 5), defScope (topS 5), [], []⟩
def dd_chain_of : He.DefD := ⟨("chain_of", none), "chain_of", "chain_of", defArgs (topS 6), defBody (topS 6), defScope (topS 6), [], []⟩
def dd_product_of : He.DefD := ⟨("product_of", none), "product_of", "product_of", defArgs (topS 7), defBody (topS 7), defScope (topS 7), [], []⟩
def dd_quotient_at : He.DefD := ⟨("quotient_at", none), "quotient_at", "quotient_at", defArgs (topS 9), defBody (topS 9), defScope (topS 9), [], []⟩
def dd_steps_for : He.DefD := ⟨("steps_for", none), "steps_for", "steps_for", defArgs (topS 10), defBody (topS 10), defScope (topS 10), [], []⟩
def dd_first_with : He.DefD := ⟨("first_with", none), "first_with", "first_with", defArgs (topS 11), defBody (topS 11), defScope (topS 11), [], []⟩
def dd_pell : He.DefD := ⟨("pell", none), "pell", "pell", defArgs (topS 12), defBody (topS 12), defScope (topS 12), [], []⟩
def dd_minus_paper : He.DefD := ⟨("minus_paper", none), "minus_paper", "minus_paper", defArgs (topS 13), defBody (topS 13), defScope (topS 13), [], []⟩
def dd_answers : He.DefD := ⟨("answers", none), "answers", "answers", defArgs (topS 14), defBody (topS 14), defScope (topS 14), [], []⟩
def dd_near : He.DefD := ⟨("near", none), "near", "near", defArgs (topS 15), defBody (topS 15), defScope (topS 15), [], []⟩
def dd_members_at : He.DefD := ⟨("members_at", none), "members_at", "members_at", defArgs (topS 17), defBody (topS 17), defScope (topS 17), [], []⟩
def dd_convergents : He.DefD := ⟨("convergents", none), "convergents", "convergents", defArgs (topS 19), defBody (topS 19), defScope (topS 19), [], []⟩
def dd_is_above_nought : He.DefD := ⟨("is_above_nought", none), "is_above_nought", "is_above_nought", defArgs (topS 20), defBody (topS 20), defScope (topS 20), [], []⟩
def dd_is_farther : He.DefD := ⟨("is_farther", none), "is_farther", "is_farther", defArgs (topS 21), defBody (topS 21), defScope (topS 21), [], []⟩
def dd_best_paper : He.DefD := ⟨("best_paper", none), "best_paper", "best_paper", defArgs (topS 22), defBody (topS 22), defScope (topS 22), [], []⟩
def dd_least_turn : He.DefD := ⟨("least_turn", none), "least_turn", "least_turn", defArgs (topS 24), defBody (topS 24), defScope (topS 24), [], []⟩
def dd_tail_paper : He.DefD := ⟨("tail_paper", none), "tail_paper", "tail_paper", defArgs (topS 25), defBody (topS 25), defScope (topS 25), [], []⟩
def dd__law_pool : He.DefD := ⟨("_law_pool", none), "_law_pool", "_law_pool", defArgs (topS 27), defBody (topS 27), defScope (topS 27), [], []⟩
def dd__law_spread : He.DefD := ⟨("_law_spread", none), "_law_spread", "_law_spread", defArgs (topS 28), defBody (topS 28), defScope (topS 28), [], []⟩
def dd__law_draw : He.DefD := ⟨("_law_draw", none), "_law_draw", "_law_draw", defArgs (topS 29), defBody (topS 29), defScope (topS 29), [], []⟩
def dd__law_root : He.DefD := ⟨("_law_root", none), "_law_root", "_law_root", defArgs (topS 30), defBody (topS 30), defScope (topS 30), [], []⟩
def dd__law_is_sq : He.DefD := ⟨("_law_is_sq", none), "_law_is_sq", "_law_is_sq", defArgs (topS 31), defBody (topS 31), defScope (topS 31), [], []⟩
def dd_law : He.DefD := ⟨("law", none), "law", "law", defArgs (topS 32), defBody (topS 32), defScope (topS 32), [], []⟩
def fn : List He.DefD := [dd_floor_by, dd_floor_of, dd_step_of, dd_surd_of, dd_chain_of, dd_product_of, dd_quotient_at, dd_steps_for, dd_first_with, dd_pell, dd_minus_paper, dd_answers, dd_near, dd_members_at, dd_convergents, dd_is_above_nought, dd_is_farther, dd_best_paper, dd_least_turn, dd_tail_paper, dd__law_pool, dd__law_spread, dd__law_draw, dd__law_root, dd__law_is_sq, dd_law]
def fa : List He.Fa := [.glo "floor_by", .glo "floor_of", .glo "step_of", .glo "surd_of", .glo "chain_of", .glo "product_of", .glo "quotient_at", .glo "steps_for", .glo "first_with", .glo "pell", .glo "minus_paper", .glo "answers", .glo "near", .glo "members_at", .glo "convergents", .glo "is_above_nought", .glo "is_farther", .glo "best_paper", .glo "least_turn", .glo "tail_paper", .glo "_law_pool", .glo "_law_spread", .glo "_law_draw", .glo "_law_root", .glo "_law_is_sq", .glo "law", .free "abs", .free "int", .free "len", .free "list", .free "min", .free "range", .free "set", .free "sorted", .free "tuple"]
def bl : List (Str × String) := [("gcd", "math.gcd"), ("isqrt", "math.isqrt")]
abbrev R : PySem.W.OpenRow := PySem.W.OpenLaw.row PySem.Challenge.rw_numberwright_k56_whole_pells_across
abbrev hk : PySem.W.Hook := hookG 4 bl fa fn
def ob (s : PySem.W.SharedT) : He.AlD := obsGG 4 bl fa fn (HandSHeadRun.getT s)
theorem ob_eq (s : PySem.W.SharedT) : ob s = hk.obs s.abs := obsGG_eq (HandSHeadRun.getT_eq s)
theorem gx {K : PySem.W.Frag} {h : Heap} {mg : Str → Option Value} (X : K.In h) (G : h.Ns mainGlobals mg) (c : SaysG bl fa fn K) : Nonempty (Gx K mg) := by
  obtain ⟨f0, F0⟩ := c.d.def_ 0 (d := dd_floor_by) rfl
  obtain ⟨f1, F1⟩ := c.d.def_ 1 (d := dd_floor_of) rfl
  obtain ⟨f2, F2⟩ := c.d.def_ 2 (d := dd_step_of) rfl
  obtain ⟨f3, F3⟩ := c.d.def_ 3 (d := dd_surd_of) rfl
  obtain ⟨f4, F4⟩ := c.d.def_ 4 (d := dd_chain_of) rfl
  obtain ⟨f5, F5⟩ := c.d.def_ 5 (d := dd_product_of) rfl
  obtain ⟨f6, F6⟩ := c.d.def_ 6 (d := dd_quotient_at) rfl
  obtain ⟨f7, F7⟩ := c.d.def_ 7 (d := dd_steps_for) rfl
  obtain ⟨f8, F8⟩ := c.d.def_ 8 (d := dd_first_with) rfl
  obtain ⟨f9, F9⟩ := c.d.def_ 9 (d := dd_pell) rfl
  obtain ⟨f10, F10⟩ := c.d.def_ 10 (d := dd_minus_paper) rfl
  obtain ⟨f11, F11⟩ := c.d.def_ 11 (d := dd_answers) rfl
  obtain ⟨f12, F12⟩ := c.d.def_ 12 (d := dd_near) rfl
  obtain ⟨f13, F13⟩ := c.d.def_ 13 (d := dd_members_at) rfl
  obtain ⟨f14, F14⟩ := c.d.def_ 14 (d := dd_convergents) rfl
  obtain ⟨f15, F15⟩ := c.d.def_ 15 (d := dd_is_above_nought) rfl
  obtain ⟨f16, F16⟩ := c.d.def_ 16 (d := dd_is_farther) rfl
  obtain ⟨f17, F17⟩ := c.d.def_ 17 (d := dd_best_paper) rfl
  obtain ⟨f18, F18⟩ := c.d.def_ 18 (d := dd_least_turn) rfl
  obtain ⟨f19, F19⟩ := c.d.def_ 19 (d := dd_tail_paper) rfl
  obtain ⟨f20, F20⟩ := c.d.def_ 20 (d := dd__law_pool) rfl
  obtain ⟨f21, F21⟩ := c.d.def_ 21 (d := dd__law_spread) rfl
  obtain ⟨f22, F22⟩ := c.d.def_ 22 (d := dd__law_draw) rfl
  obtain ⟨f23, F23⟩ := c.d.def_ 23 (d := dd__law_root) rfl
  obtain ⟨f24, F24⟩ := c.d.def_ 24 (d := dd__law_is_sq) rfl
  obtain ⟨f25, F25⟩ := c.d.def_ 25 (d := dd_law) rfl
  exact ⟨{
    a_floor_by := _, d_floor_by := f0, D_floor_by := F0, m_floor_by := He.glo_ok X G (c.d.fact 0 (f := .glo "floor_by") rfl),
    a_floor_of := _, d_floor_of := f1, D_floor_of := F1, m_floor_of := He.glo_ok X G (c.d.fact 1 (f := .glo "floor_of") rfl),
    a_step_of := _, d_step_of := f2, D_step_of := F2, m_step_of := He.glo_ok X G (c.d.fact 2 (f := .glo "step_of") rfl),
    a_surd_of := _, d_surd_of := f3, D_surd_of := F3, m_surd_of := He.glo_ok X G (c.d.fact 3 (f := .glo "surd_of") rfl),
    a_chain_of := _, d_chain_of := f4, D_chain_of := F4, m_chain_of := He.glo_ok X G (c.d.fact 4 (f := .glo "chain_of") rfl),
    a_product_of := _, d_product_of := f5, D_product_of := F5, m_product_of := He.glo_ok X G (c.d.fact 5 (f := .glo "product_of") rfl),
    a_quotient_at := _, d_quotient_at := f6, D_quotient_at := F6, m_quotient_at := He.glo_ok X G (c.d.fact 6 (f := .glo "quotient_at") rfl),
    a_steps_for := _, d_steps_for := f7, D_steps_for := F7, m_steps_for := He.glo_ok X G (c.d.fact 7 (f := .glo "steps_for") rfl),
    a_first_with := _, d_first_with := f8, D_first_with := F8, m_first_with := He.glo_ok X G (c.d.fact 8 (f := .glo "first_with") rfl),
    a_pell := _, d_pell := f9, D_pell := F9, m_pell := He.glo_ok X G (c.d.fact 9 (f := .glo "pell") rfl),
    a_minus_paper := _, d_minus_paper := f10, D_minus_paper := F10, m_minus_paper := He.glo_ok X G (c.d.fact 10 (f := .glo "minus_paper") rfl),
    a_answers := _, d_answers := f11, D_answers := F11, m_answers := He.glo_ok X G (c.d.fact 11 (f := .glo "answers") rfl),
    a_near := _, d_near := f12, D_near := F12, m_near := He.glo_ok X G (c.d.fact 12 (f := .glo "near") rfl),
    a_members_at := _, d_members_at := f13, D_members_at := F13, m_members_at := He.glo_ok X G (c.d.fact 13 (f := .glo "members_at") rfl),
    a_convergents := _, d_convergents := f14, D_convergents := F14, m_convergents := He.glo_ok X G (c.d.fact 14 (f := .glo "convergents") rfl),
    a_is_above_nought := _, d_is_above_nought := f15, D_is_above_nought := F15, m_is_above_nought := He.glo_ok X G (c.d.fact 15 (f := .glo "is_above_nought") rfl),
    a_is_farther := _, d_is_farther := f16, D_is_farther := F16, m_is_farther := He.glo_ok X G (c.d.fact 16 (f := .glo "is_farther") rfl),
    a_best_paper := _, d_best_paper := f17, D_best_paper := F17, m_best_paper := He.glo_ok X G (c.d.fact 17 (f := .glo "best_paper") rfl),
    a_least_turn := _, d_least_turn := f18, D_least_turn := F18, m_least_turn := He.glo_ok X G (c.d.fact 18 (f := .glo "least_turn") rfl),
    a_tail_paper := _, d_tail_paper := f19, D_tail_paper := F19, m_tail_paper := He.glo_ok X G (c.d.fact 19 (f := .glo "tail_paper") rfl),
    a__law_pool := _, d__law_pool := f20, D__law_pool := F20, m__law_pool := He.glo_ok X G (c.d.fact 20 (f := .glo "_law_pool") rfl),
    a__law_spread := _, d__law_spread := f21, D__law_spread := F21, m__law_spread := He.glo_ok X G (c.d.fact 21 (f := .glo "_law_spread") rfl),
    a__law_draw := _, d__law_draw := f22, D__law_draw := F22, m__law_draw := He.glo_ok X G (c.d.fact 22 (f := .glo "_law_draw") rfl),
    a__law_root := _, d__law_root := f23, D__law_root := F23, m__law_root := He.glo_ok X G (c.d.fact 23 (f := .glo "_law_root") rfl),
    a__law_is_sq := _, d__law_is_sq := f24, D__law_is_sq := F24, m__law_is_sq := He.glo_ok X G (c.d.fact 24 (f := .glo "_law_is_sq") rfl),
    a_law := _, d_law := f25, D_law := F25, m_law := He.glo_ok X G (c.d.fact 25 (f := .glo "law") rfl),
    g_abs := He.free_ok X G (c.d.fact 26 (f := .free "abs") rfl),
    g_int := He.free_ok X G (c.d.fact 27 (f := .free "int") rfl),
    g_len := He.free_ok X G (c.d.fact 28 (f := .free "len") rfl),
    g_list := He.free_ok X G (c.d.fact 29 (f := .free "list") rfl),
    g_min := He.free_ok X G (c.d.fact 30 (f := .free "min") rfl),
    g_range := He.free_ok X G (c.d.fact 31 (f := .free "range") rfl),
    g_set := He.free_ok X G (c.d.fact 32 (f := .free "set") rfl),
    g_sorted := He.free_ok X G (c.d.fact 33 (f := .free "sorted") rfl),
    g_tuple := He.free_ok X G (c.d.fact 34 (f := .free "tuple") rfl),
    g_gcd := c.blt X G 0 (b := ("gcd", "math.gcd")) rfl,
    g_isqrt := c.blt X G 1 (b := ("isqrt", "math.isqrt")) rfl }⟩
def loose0 : List Str := ["gcd", "isqrt", "__name__", "floor_by", "floor_of", "step_of", "surd_of", "chain_of", "product_of", "quotient_at", "steps_for", "first_with", "pell", "minus_paper", "answers", "near", "members_at", "convergents", "is_above_nought", "is_farther", "best_paper", "least_turn", "tail_paper", "_law_pool", "_law_spread", "_law_draw", "_law_root", "_law_is_sq"]
def loose : List Str := loose0
abbrev qv : Program := PySem.W.view R.prog [0, 32]
theorem run (w : World) : HandSHeadRun.RunEqI R qv hk ob 3000 loose w := by
  unfold HandSHeadRun.RunEqI
  kernel_rfl
/-- THE LAW from what its def computes -/
theorem holds_of (hall : ∀ ns : List Int, p_law [scrD ns] = some (.bool true)) (hw : R.toRowW.promised) : PySem.Challenge.rw_numberwright_k56_whole_pells_across.Holds := by
  w_on; o_law
  refine HandSHeadRun.head_imp (r := R) (q := qv) (H := hk) (ob := ob) (M := 3000) (loose := loose) (d := HandSHeadRun.topDef R.prog 32) (kwd := []) ob_eq
    run (by kernel_rfl) (by kernel_rfl) (by kernel_rfl) (by rfl) (by first | assumption | decide +kernel) (by decide +kernel) ⟨rfl, rfl, rfl, rfl, rfl, by decide +kernel⟩ hw ?hc
  refine L2.walk_ofE (l := PySem.Challenge.rw_numberwright_k56_whole_pells_across) (n := 63) (k := 9) (x := "script") (CX := L2.CX0) rfl (by decide) (by kernel_rfl) ⟨rfl, by decide, by decide⟩ ?F (fun _ _ _ _ z => z)
  intro w mg fa h Y G hmg0
  obtain ⟨K, KX, c⟩ := Y
  have hmg : mg ("law" : Str) = some (.ref fa) := by
    have e : (HandSHeadRun.topDef R.prog 32).name = ("law" : Str) := by kernel_rfl
    rw [← e]
    exact hmg0
  obtain ⟨g⟩ := gx KX G c
  have e := hmg.symm.trans g.m_law
  cases e
  refine ⟨K, g.d_law, spP [] K p_law, KX, fun s v => (FunD.bindsA (ps := ["script"]) g.D_law fun _ _ _ _ _ _ us hl => match us, hl with | [_], _ => rfl) s [v] rfl, fun H a ns hl hO hS => law_of hS (hall ns), fun base _ _ => ok_law g⟩
end Fx

namespace Fx
open PySem PySem.Spec L2
open PyProof.Rows hiding St
noncomputable def c_floor_by : SF := (sSeq (asgF 3 (bin pDiv (bin pAdd (nmF 0) (callF pIsq (aCons (nmF 1) aNil))) (callF pAbs (aCons (nmF 2) aNil)))) (sRet (eIf (tB' (bin pGt (nmF 2) (kE (.int 0)))) (nmF 3) (bin pSub (un pNeg (nmF 3)) (kE (.int 1))))))
theorem cb_floor_by : c_floor_by = b_floor_by := by
  simp only [c_floor_by, setVF_eq, nmF_eq, asgF_eq, asgOF_eq, bNmF_eq, asg2F_eq, augF_eq, contF_eq, pLenF_eq, pIxF_eq, ixNPF_eq, lenNF_eq, mineF_eq, putMF_eq, isLF_eq, appendF_eq, pop0F_eq, popAtF_eq, extendF_eq, setIxF_eq, augIxF_eq, callIOF_eq, wipeEF_eq, ioFF_eq, putIxF_eq, dIxF_eq, dInF_eq, coFF_eq, coF2F_eq, eLcF_eq, eLc2F_eq]
  rfl
noncomputable def q_floor_by : List PV → Option PV := runP 4 3 c_floor_by
theorem qp_floor_by : q_floor_by = p_floor_by := by
  unfold q_floor_by p_floor_by
  rw [cb_floor_by]
noncomputable def c_floor_of : SF := (sRet (callF q_floor_by (aCons (ixNPF 0 (kE (.int 0))) (aCons (ixNPF 0 (kE (.int 1))) (aCons (ixNPF 0 (kE (.int 2))) aNil)))))
theorem cb_floor_of : c_floor_of = b_floor_of := by
  simp only [c_floor_of, setVF_eq, nmF_eq, asgF_eq, asgOF_eq, bNmF_eq, asg2F_eq, augF_eq, contF_eq, pLenF_eq, pIxF_eq, ixNPF_eq, lenNF_eq, mineF_eq, putMF_eq, isLF_eq, appendF_eq, pop0F_eq, popAtF_eq, extendF_eq, setIxF_eq, augIxF_eq, callIOF_eq, wipeEF_eq, ioFF_eq, putIxF_eq, dIxF_eq, dInF_eq, coFF_eq, coF2F_eq, eLcF_eq, eLc2F_eq, qp_floor_by]
  rfl
noncomputable def q_floor_of : List PV → Option PV := runP 1 1 c_floor_of
theorem qp_floor_of : q_floor_of = p_floor_of := by
  unfold q_floor_of p_floor_of
  rw [cb_floor_of]
noncomputable def c_step_of : SF := (sSeq (asgB (bTup 3 (bCons (bNmF 1) (bCons (bNmF 2) (bCons (bNmF 3) bNil)))) (nmF 0)) (sSeq (asgF 4 (bin pSub (bin pMul (callF q_floor_of (aCons (nmF 0) aNil)) (nmF 3)) (nmF 1))) (sRet (eTup (aCons (nmF 4) (aCons (nmF 2) (aCons (bin pDiv (bin pSub (nmF 2) (bin pMul (nmF 4) (nmF 4))) (nmF 3)) aNil)))))))
theorem cb_step_of : c_step_of = b_step_of := by
  simp only [c_step_of, setVF_eq, nmF_eq, asgF_eq, asgOF_eq, bNmF_eq, asg2F_eq, augF_eq, contF_eq, pLenF_eq, pIxF_eq, ixNPF_eq, lenNF_eq, mineF_eq, putMF_eq, isLF_eq, appendF_eq, pop0F_eq, popAtF_eq, extendF_eq, setIxF_eq, augIxF_eq, callIOF_eq, wipeEF_eq, ioFF_eq, putIxF_eq, dIxF_eq, dInF_eq, coFF_eq, coF2F_eq, eLcF_eq, eLc2F_eq, qp_floor_of]
  rfl
noncomputable def q_step_of : List PV → Option PV := runP 5 1 c_step_of
theorem qp_step_of : q_step_of = p_step_of := by
  unfold q_step_of p_step_of
  rw [cb_step_of]
noncomputable def c_surd_of : SF := (sSeq (sIf (tB' (bin pLt (nmF 2) (kE (.int 0)))) (asg3 0 2 3 (aCons (un pNeg (nmF 0)) (aCons (un pNeg (nmF 2)) (aCons (un pNeg (nmF 3)) aNil)))) sSkip) (sSeq (asgF 4 (bin pMul (bin pMul (nmF 2) (nmF 2)) (nmF 1))) (sSeq (sIf (tB' (bin pNe (bin pMod (bin pSub (nmF 4) (bin pMul (nmF 0) (nmF 0))) (nmF 3)) (kE (.int 0)))) (asg3 0 4 3 (aCons (bin pMul (nmF 0) (callF pAbs (aCons (nmF 3) aNil))) (aCons (bin pMul (bin pMul (nmF 4) (nmF 3)) (nmF 3)) (aCons (bin pMul (nmF 3) (callF pAbs (aCons (nmF 3) aNil))) aNil)))) sSkip) (sRet (eTup (aCons (nmF 0) (aCons (nmF 4) (aCons (nmF 3) aNil))))))))
theorem cb_surd_of : c_surd_of = b_surd_of := by
  simp only [c_surd_of, setVF_eq, nmF_eq, asgF_eq, asgOF_eq, bNmF_eq, asg2F_eq, augF_eq, contF_eq, pLenF_eq, pIxF_eq, ixNPF_eq, lenNF_eq, mineF_eq, putMF_eq, isLF_eq, appendF_eq, pop0F_eq, popAtF_eq, extendF_eq, setIxF_eq, augIxF_eq, callIOF_eq, wipeEF_eq, ioFF_eq, putIxF_eq, dIxF_eq, dInF_eq, coFF_eq, coF2F_eq, eLcF_eq, eLc2F_eq]
  rfl
noncomputable def q_surd_of : List PV → Option PV := runP 5 4 c_surd_of
theorem qp_surd_of : q_surd_of = p_surd_of := by
  unfold q_surd_of p_surd_of
  rw [cb_surd_of]
noncomputable def c_chain_of : SF := (sSeq (asgOF 1 eDt) (sSeq (asgOF 2 (eLst aNil)) (sSeq (whF (tB' (dInT not 1 (nmF 0))) (sSeq (putIxT 1 (nmF 0) (lenNF 2)) (sSeq (sExpr (appendF 2 (callF q_floor_of (aCons (nmF 0) aNil)))) (asgF 0 (callF q_step_of (aCons (nmF 0) aNil))))) 2000) (sSeq (asgF 3 (dIxT 1 (nmF 0))) (sRet (eTup (aCons (callF pTuple (aCons (eSl (nmF 2) oNo (oSo (nmF 3))) aNil)) (aCons (callF pTuple (aCons (eSl (nmF 2) (oSo (nmF 3)) oNo) aNil)) aNil))))))))
theorem cb_chain_of : c_chain_of = b_chain_of := by
  simp only [c_chain_of, setVF_eq, nmF_eq, asgF_eq, asgOF_eq, bNmF_eq, asg2F_eq, augF_eq, contF_eq, pLenF_eq, pIxF_eq, ixNPF_eq, lenNF_eq, mineF_eq, putMF_eq, isLF_eq, appendF_eq, pop0F_eq, popAtF_eq, extendF_eq, setIxF_eq, augIxF_eq, callIOF_eq, wipeEF_eq, ioFF_eq, putIxF_eq, dIxF_eq, dInF_eq, coFF_eq, coF2F_eq, eLcF_eq, eLc2F_eq, qp_floor_of, qp_step_of]
  rfl
noncomputable def q_chain_of : List PV → Option PV := runP 4 1 c_chain_of
theorem qp_chain_of : q_chain_of = p_chain_of := by
  unfold q_chain_of p_chain_of
  rw [cb_chain_of]
noncomputable def c_product_of : SF := (sSeq (asgB (bTup 4 (bCons (bNmF 1) (bCons (bNmF 2) (bCons (bNmF 3) (bCons (bNmF 4) bNil))))) (eTup (aCons (kE (.int 1)) (aCons (kE (.int 0)) (aCons (kE (.int 0)) (aCons (kE (.int 1)) aNil)))))) (sSeq (sFor (wSeq (nmF 0)) (bNmF 5) (asgB (bTup 4 (bCons (bNmF 1) (bCons (bNmF 2) (bCons (bNmF 3) (bCons (bNmF 4) bNil))))) (eTup (aCons (bin pAdd (bin pMul (nmF 1) (nmF 5)) (nmF 2)) (aCons (nmF 1) (aCons (bin pAdd (bin pMul (nmF 3) (nmF 5)) (nmF 4)) (aCons (nmF 3) aNil))))))) (sRet (eTup (aCons (nmF 1) (aCons (nmF 2) (aCons (nmF 3) (aCons (nmF 4) aNil))))))))
theorem cb_product_of : c_product_of = b_product_of := by
  simp only [c_product_of, setVF_eq, nmF_eq, asgF_eq, asgOF_eq, bNmF_eq, asg2F_eq, augF_eq, contF_eq, pLenF_eq, pIxF_eq, ixNPF_eq, lenNF_eq, mineF_eq, putMF_eq, isLF_eq, appendF_eq, pop0F_eq, popAtF_eq, extendF_eq, setIxF_eq, augIxF_eq, callIOF_eq, wipeEF_eq, ioFF_eq, putIxF_eq, dIxF_eq, dInF_eq, coFF_eq, coF2F_eq, eLcF_eq, eLc2F_eq]
  rfl
noncomputable def q_product_of : List PV → Option PV := runP 6 1 c_product_of
theorem qp_product_of : q_product_of = p_product_of := by
  unfold q_product_of p_product_of
  rw [cb_product_of]
noncomputable def c_quotient_at : SF := (sRet (eIf (tB' (bin pLt (nmF 2) (lenNF 0))) (ixNPF 0 (nmF 2)) (ixNPF 1 (bin pMod (bin pSub (nmF 2) (lenNF 0)) (lenNF 1)))))
theorem cb_quotient_at : c_quotient_at = b_quotient_at := by
  simp only [c_quotient_at, setVF_eq, nmF_eq, asgF_eq, asgOF_eq, bNmF_eq, asg2F_eq, augF_eq, contF_eq, pLenF_eq, pIxF_eq, ixNPF_eq, lenNF_eq, mineF_eq, putMF_eq, isLF_eq, appendF_eq, pop0F_eq, popAtF_eq, extendF_eq, setIxF_eq, augIxF_eq, callIOF_eq, wipeEF_eq, ioFF_eq, putIxF_eq, dIxF_eq, dInF_eq, coFF_eq, coF2F_eq, eLcF_eq, eLc2F_eq]
  rfl
noncomputable def q_quotient_at : List PV → Option PV := runP 3 3 c_quotient_at
theorem qp_quotient_at : q_quotient_at = p_quotient_at := by
  unfold q_quotient_at p_quotient_at
  rw [cb_quotient_at]
noncomputable def c_steps_for : SF := (sSeq (asgB (bTup 2 (bCons (bNmF 2) (bCons (bNmF 3) bNil))) (callF q_chain_of (aCons (eTup (aCons (kE (.int 0)) (aCons (nmF 0) (aCons (kE (.int 1)) aNil)))) aNil))) (sSeq (asgOF 4 (eLst aNil)) (sSeq (asgB (bTup 4 (bCons (bNmF 5) (bCons (bNmF 6) (bCons (bNmF 7) (bCons (bNmF 8) bNil))))) (eTup (aCons (kE (.int 1)) (aCons (kE (.int 0)) (aCons (kE (.int 0)) (aCons (kE (.int 1)) aNil)))))) (sSeq (sFor (wRng1 (nmF 1)) (bNmF 9) (sSeq (asgF 10 (callF q_quotient_at (aCons (nmF 2) (aCons (nmF 3) (aCons (nmF 9) aNil))))) (sSeq (asgB (bTup 4 (bCons (bNmF 5) (bCons (bNmF 6) (bCons (bNmF 7) (bCons (bNmF 8) bNil))))) (eTup (aCons (bin pAdd (bin pMul (nmF 5) (nmF 10)) (nmF 6)) (aCons (nmF 5) (aCons (bin pAdd (bin pMul (nmF 7) (nmF 10)) (nmF 8)) (aCons (nmF 7) aNil)))))) (sExpr (appendF 4 (eTup (aCons (nmF 5) (aCons (nmF 7) aNil)))))))) (sRet (nmF 4))))))
theorem cb_steps_for : c_steps_for = b_steps_for := by
  simp only [c_steps_for, setVF_eq, nmF_eq, asgF_eq, asgOF_eq, bNmF_eq, asg2F_eq, augF_eq, contF_eq, pLenF_eq, pIxF_eq, ixNPF_eq, lenNF_eq, mineF_eq, putMF_eq, isLF_eq, appendF_eq, pop0F_eq, popAtF_eq, extendF_eq, setIxF_eq, augIxF_eq, callIOF_eq, wipeEF_eq, ioFF_eq, putIxF_eq, dIxF_eq, dInF_eq, coFF_eq, coF2F_eq, eLcF_eq, eLc2F_eq, qp_chain_of, qp_quotient_at]
  rfl
noncomputable def q_steps_for : List PV → Option PV := runP 11 2 c_steps_for
theorem qp_steps_for : q_steps_for = p_steps_for := by
  unfold q_steps_for p_steps_for
  rw [cb_steps_for]
noncomputable def c_first_with : SF := (sSeq (asgF 2 (bin pMul (kE (.int 2)) (callF pLenF (aCons (bin pIxF (callF q_chain_of (aCons (eTup (aCons (kE (.int 0)) (aCons (nmF 0) (aCons (kE (.int 1)) aNil)))) aNil)) (kE (.int 1))) aNil)))) (sRet (bin pIxF (eLcF [3, 4] (wSeq (callF q_steps_for (aCons (nmF 0) (aCons (nmF 2) aNil)))) (bTup 2 (bCons (bNmF 3) (bCons (bNmF 4) bNil))) (tB' (bin pEq (bin pSub (bin pMul (nmF 3) (nmF 3)) (bin pMul (bin pMul (nmF 0) (nmF 4)) (nmF 4))) (nmF 1))) (eTup (aCons (nmF 3) (aCons (nmF 4) aNil)))) (kE (.int 0)))))
theorem cb_first_with : c_first_with = b_first_with := by
  simp only [c_first_with, setVF_eq, nmF_eq, asgF_eq, asgOF_eq, bNmF_eq, asg2F_eq, augF_eq, contF_eq, pLenF_eq, pIxF_eq, ixNPF_eq, lenNF_eq, mineF_eq, putMF_eq, isLF_eq, appendF_eq, pop0F_eq, popAtF_eq, extendF_eq, setIxF_eq, augIxF_eq, callIOF_eq, wipeEF_eq, ioFF_eq, putIxF_eq, dIxF_eq, dInF_eq, coFF_eq, coF2F_eq, eLcF_eq, eLc2F_eq, qp_chain_of, qp_steps_for]
  rfl
noncomputable def q_first_with : List PV → Option PV := runP 5 2 c_first_with
theorem qp_first_with : q_first_with = p_first_with := by
  unfold q_first_with p_first_with
  rw [cb_first_with]
noncomputable def c_pell : SF := (sRet (callF q_first_with (aCons (nmF 0) (aCons (kE (.int 1)) aNil))))
theorem cb_pell : c_pell = b_pell := by
  simp only [c_pell, setVF_eq, nmF_eq, asgF_eq, asgOF_eq, bNmF_eq, asg2F_eq, augF_eq, contF_eq, pLenF_eq, pIxF_eq, ixNPF_eq, lenNF_eq, mineF_eq, putMF_eq, isLF_eq, appendF_eq, pop0F_eq, popAtF_eq, extendF_eq, setIxF_eq, augIxF_eq, callIOF_eq, wipeEF_eq, ioFF_eq, putIxF_eq, dIxF_eq, dInF_eq, coFF_eq, coF2F_eq, eLcF_eq, eLc2F_eq, qp_first_with]
  rfl
noncomputable def q_pell : List PV → Option PV := runP 1 1 c_pell
theorem qp_pell : q_pell = p_pell := by
  unfold q_pell p_pell
  rw [cb_pell]
noncomputable def c_minus_paper : SF := (sSeq (asgF 1 (bin pIxF (callF q_chain_of (aCons (eTup (aCons (kE (.int 0)) (aCons (nmF 0) (aCons (kE (.int 1)) aNil)))) aNil)) (kE (.int 1)))) (sRet (eIf (tB' (bin pEq (bin pMod (lenNF 1) (kE (.int 2))) (kE (.int 0)))) (eTup (aCons (kE (.str "round")) (aCons (nmF 1) aNil))) (eTup (aCons (kE (.str "minus")) (aStar (callF q_first_with (aCons (nmF 0) (aCons (un pNeg (kE (.int 1))) aNil))) aNil))))))
theorem cb_minus_paper : c_minus_paper = b_minus_paper := by
  simp only [c_minus_paper, setVF_eq, nmF_eq, asgF_eq, asgOF_eq, bNmF_eq, asg2F_eq, augF_eq, contF_eq, pLenF_eq, pIxF_eq, ixNPF_eq, lenNF_eq, mineF_eq, putMF_eq, isLF_eq, appendF_eq, pop0F_eq, popAtF_eq, extendF_eq, setIxF_eq, augIxF_eq, callIOF_eq, wipeEF_eq, ioFF_eq, putIxF_eq, dIxF_eq, dInF_eq, coFF_eq, coF2F_eq, eLcF_eq, eLc2F_eq, qp_chain_of, qp_first_with]
  rfl
noncomputable def q_minus_paper : List PV → Option PV := runP 2 1 c_minus_paper
theorem qp_minus_paper : q_minus_paper = p_minus_paper := by
  unfold q_minus_paper p_minus_paper
  rw [cb_minus_paper]
noncomputable def c_answers : SF := (sSeq (asgB (bTup 2 (bCons (bNmF 2) (bCons (bNmF 3) bNil))) (callF q_pell (aCons (nmF 0) aNil))) (sSeq (asgOF 4 (eLst aNil)) (sSeq (asgB (bTup 2 (bCons (bNmF 5) (bCons (bNmF 6) bNil))) (eTup (aCons (kE (.int 1)) (aCons (kE (.int 0)) aNil)))) (sSeq (sFor (wRng1 (nmF 1)) (bNmF 7) (sSeq (asg2F 5 6 (aCons (bin pAdd (bin pMul (nmF 5) (nmF 2)) (bin pMul (bin pMul (nmF 0) (nmF 6)) (nmF 3))) (aCons (bin pAdd (bin pMul (nmF 5) (nmF 3)) (bin pMul (nmF 6) (nmF 2))) aNil))) (sExpr (appendF 4 (eTup (aCons (nmF 5) (aCons (nmF 6) aNil))))))) (sRet (nmF 4))))))
theorem cb_answers : c_answers = b_answers := by
  simp only [c_answers, setVF_eq, nmF_eq, asgF_eq, asgOF_eq, bNmF_eq, asg2F_eq, augF_eq, contF_eq, pLenF_eq, pIxF_eq, ixNPF_eq, lenNF_eq, mineF_eq, putMF_eq, isLF_eq, appendF_eq, pop0F_eq, popAtF_eq, extendF_eq, setIxF_eq, augIxF_eq, callIOF_eq, wipeEF_eq, ioFF_eq, putIxF_eq, dIxF_eq, dInF_eq, coFF_eq, coF2F_eq, eLcF_eq, eLc2F_eq, qp_pell]
  rfl
noncomputable def q_answers : List PV → Option PV := runP 8 2 c_answers
theorem qp_answers : q_answers = p_answers := by
  unfold q_answers p_answers
  rw [cb_answers]
noncomputable def c_near : SF := (sSeq (asgF 1 (bin pAdd (bin pMul (kE (.int 2)) (callF pLenF (aCons (bin pIxF (callF q_chain_of (aCons (eTup (aCons (kE (.int 0)) (aCons (nmF 0) (aCons (kE (.int 1)) aNil)))) aNil)) (kE (.int 1))) aNil))) (kE (.int 1)))) (sSeq (asgOF 2 (eLcF [3, 4] (wSeq (callF q_steps_for (aCons (nmF 0) (aCons (nmF 1) aNil)))) (bTup 2 (bCons (bNmF 3) (bCons (bNmF 4) bNil))) tYs (bin pSub (bin pMul (nmF 3) (nmF 3)) (bin pMul (bin pMul (nmF 0) (nmF 4)) (nmF 4))))) (sRet (callF pSortSet (aCons (eLcF [5] (wSeq (nmF 2)) (bNmF 5) (tB' (bin pLt (bin pMul (nmF 5) (nmF 5)) (nmF 0))) (nmF 5)) aNil)))))
theorem cb_near : c_near = b_near := by
  simp only [c_near, setVF_eq, nmF_eq, asgF_eq, asgOF_eq, bNmF_eq, asg2F_eq, augF_eq, contF_eq, pLenF_eq, pIxF_eq, ixNPF_eq, lenNF_eq, mineF_eq, putMF_eq, isLF_eq, appendF_eq, pop0F_eq, popAtF_eq, extendF_eq, setIxF_eq, augIxF_eq, callIOF_eq, wipeEF_eq, ioFF_eq, putIxF_eq, dIxF_eq, dInF_eq, coFF_eq, coF2F_eq, eLcF_eq, eLc2F_eq, qp_chain_of, qp_steps_for]
  rfl
noncomputable def q_near : List PV → Option PV := runP 6 1 c_near
theorem qp_near : q_near = p_near := by
  unfold q_near p_near
  rw [cb_near]
noncomputable def c_members_at : SF := (sSeq (asgB (bTup 4 (bCons (bNmF 3) (bCons (bNmF 4) (bCons (bNmF 5) (bCons (bNmF 6) bNil))))) (eTup (aCons (kE (.int 0)) (aCons (kE (.int 1)) (aCons (kE (.int 2)) (aCons (nmF 0) aNil)))))) (sSeq (sFor (wRng1 (nmF 2)) (bNmF 7) (sSeq (asg2F 3 4 (aCons (nmF 4) (aCons (bin pSub (bin pMul (nmF 0) (nmF 4)) (bin pMul (nmF 1) (nmF 3))) aNil))) (asg2F 5 6 (aCons (nmF 6) (aCons (bin pSub (bin pMul (nmF 0) (nmF 6)) (bin pMul (nmF 1) (nmF 5))) aNil))))) (sRet (eTup (aCons (nmF 3) (aCons (nmF 5) aNil))))))
theorem cb_members_at : c_members_at = b_members_at := by
  simp only [c_members_at, setVF_eq, nmF_eq, asgF_eq, asgOF_eq, bNmF_eq, asg2F_eq, augF_eq, contF_eq, pLenF_eq, pIxF_eq, ixNPF_eq, lenNF_eq, mineF_eq, putMF_eq, isLF_eq, appendF_eq, pop0F_eq, popAtF_eq, extendF_eq, setIxF_eq, augIxF_eq, callIOF_eq, wipeEF_eq, ioFF_eq, putIxF_eq, dIxF_eq, dInF_eq, coFF_eq, coF2F_eq, eLcF_eq, eLc2F_eq]
  rfl
noncomputable def q_members_at : List PV → Option PV := runP 8 3 c_members_at
theorem qp_members_at : q_members_at = p_members_at := by
  unfold q_members_at p_members_at
  rw [cb_members_at]
noncomputable def c_convergents : SF := (sSeq (asgOF 1 (eLst aNil)) (sSeq (sFor (wRng2 (kE (.int 1)) (bin pAdd (lenNF 0) (kE (.int 1)))) (bNmF 2) (sSeq (asgB (bTup 4 (bCons (bNmF 3) (bCons (bNmF 4) (bCons (bNmF 5) (bCons (bNmF 6) bNil))))) (callF q_product_of (aCons (eSl (nmF 0) oNo (oSo (nmF 2))) aNil))) (sExpr (appendF 1 (eTup (aCons (nmF 3) (aCons (nmF 5) aNil))))))) (sRet (nmF 1))))
theorem cb_convergents : c_convergents = b_convergents := by
  simp only [c_convergents, setVF_eq, nmF_eq, asgF_eq, asgOF_eq, bNmF_eq, asg2F_eq, augF_eq, contF_eq, pLenF_eq, pIxF_eq, ixNPF_eq, lenNF_eq, mineF_eq, putMF_eq, isLF_eq, appendF_eq, pop0F_eq, popAtF_eq, extendF_eq, setIxF_eq, augIxF_eq, callIOF_eq, wipeEF_eq, ioFF_eq, putIxF_eq, dIxF_eq, dInF_eq, coFF_eq, coF2F_eq, eLcF_eq, eLc2F_eq, qp_product_of]
  rfl
noncomputable def q_convergents : List PV → Option PV := runP 7 1 c_convergents
theorem qp_convergents : q_convergents = p_convergents := by
  unfold q_convergents p_convergents
  rw [cb_convergents]
noncomputable def c_is_above_nought : SF := (sSeq (sIf (tAn (tB' (bin pGe (nmF 0) (kE (.int 0)))) (tB' (bin pGe (nmF 1) (kE (.int 0))))) (sRet (vOr (bin pGt (nmF 0) (kE (.int 0))) (bin pGt (nmF 1) (kE (.int 0))))) sSkip) (sSeq (sIf (tAn (tB' (bin pLe (nmF 0) (kE (.int 0)))) (tB' (bin pLe (nmF 1) (kE (.int 0))))) (sRet (kE (.bool false))) sSkip) (sRet (eIf (tB' (bin pGt (nmF 0) (kE (.int 0)))) (bin pGt (bin pMul (nmF 0) (nmF 0)) (bin pMul (bin pMul (nmF 1) (nmF 1)) (nmF 2))) (bin pGt (bin pMul (bin pMul (nmF 1) (nmF 1)) (nmF 2)) (bin pMul (nmF 0) (nmF 0)))))))
theorem cb_is_above_nought : c_is_above_nought = b_is_above_nought := by
  simp only [c_is_above_nought, setVF_eq, nmF_eq, asgF_eq, asgOF_eq, bNmF_eq, asg2F_eq, augF_eq, contF_eq, pLenF_eq, pIxF_eq, ixNPF_eq, lenNF_eq, mineF_eq, putMF_eq, isLF_eq, appendF_eq, pop0F_eq, popAtF_eq, extendF_eq, setIxF_eq, augIxF_eq, callIOF_eq, wipeEF_eq, ioFF_eq, putIxF_eq, dIxF_eq, dInF_eq, coFF_eq, coF2F_eq, eLcF_eq, eLc2F_eq]
  rfl
noncomputable def q_is_above_nought : List PV → Option PV := runP 3 3 c_is_above_nought
theorem qp_is_above_nought : q_is_above_nought = p_is_above_nought := by
  unfold q_is_above_nought p_is_above_nought
  rw [cb_is_above_nought]
noncomputable def c_is_farther : SF := (sSeq (asgB (bTup 3 (bCons (bNmF 5) (bCons (bNmF 6) (bCons (bNmF 7) bNil)))) (nmF 0)) (sSeq (asg2F 8 9 (aCons (bin pSub (bin pMul (nmF 4) (nmF 5)) (bin pMul (nmF 3) (nmF 7))) (aCons (bin pSub (bin pMul (nmF 2) (nmF 5)) (bin pMul (nmF 1) (nmF 7))) aNil))) (sRet (callF q_is_above_nought (aCons (bin pSub (bin pSub (bin pAdd (bin pMul (nmF 8) (nmF 8)) (bin pMul (bin pMul (nmF 4) (nmF 4)) (nmF 6))) (bin pMul (nmF 9) (nmF 9))) (bin pMul (bin pMul (nmF 2) (nmF 2)) (nmF 6))) (aCons (bin pMul (kE (.int 2)) (bin pSub (bin pMul (nmF 8) (nmF 4)) (bin pMul (nmF 9) (nmF 2)))) (aCons (nmF 6) aNil)))))))
theorem cb_is_farther : c_is_farther = b_is_farther := by
  simp only [c_is_farther, setVF_eq, nmF_eq, asgF_eq, asgOF_eq, bNmF_eq, asg2F_eq, augF_eq, contF_eq, pLenF_eq, pIxF_eq, ixNPF_eq, lenNF_eq, mineF_eq, putMF_eq, isLF_eq, appendF_eq, pop0F_eq, popAtF_eq, extendF_eq, setIxF_eq, augIxF_eq, callIOF_eq, wipeEF_eq, ioFF_eq, putIxF_eq, dIxF_eq, dInF_eq, coFF_eq, coF2F_eq, eLcF_eq, eLc2F_eq, qp_is_above_nought]
  rfl
noncomputable def q_is_farther : List PV → Option PV := runP 10 5 c_is_farther
theorem qp_is_farther : q_is_farther = p_is_farther := by
  unfold q_is_farther p_is_farther
  rw [cb_is_farther]
noncomputable def c_best_paper : SF := (sSeq (sFor (wRng2 (kE (.int 1)) (bin pAdd (nmF 2) (kE (.int 1)))) (bNmF 3) (sSeq (asgF 4 (callF q_floor_of (aCons (callF q_surd_of (aCons (bin pMul (nmF 3) (ixNPF 0 (kE (.int 0)))) (aCons (ixNPF 0 (kE (.int 1))) (aCons (nmF 3) (aCons (ixNPF 0 (kE (.int 2))) aNil))))) aNil))) (sFor (wSeq (eTup (aCons (nmF 4) (aCons (bin pAdd (nmF 4) (kE (.int 1))) aNil)))) (bNmF 5) (sIf (tAn (tB' (bin pEq (callF pGcd (aCons (nmF 5) (aCons (nmF 3) aNil))) (kE (.int 1)))) (tAn (tB' (bin pNe (eTup (aCons (nmF 5) (aCons (nmF 3) aNil))) (eTup (aCons (nmF 1) (aCons (nmF 2) aNil))))) (tNt (tTr (callF q_is_farther (aCons (nmF 0) (aCons (nmF 1) (aCons (nmF 2) (aCons (nmF 5) (aCons (nmF 3) aNil)))))))))) (sRet (eTup (aCons (kE (.str "better")) (aCons (nmF 5) (aCons (nmF 3) aNil))))) sSkip)))) (sRet (eTup (aCons (kE (.str "best")) aNil))))
theorem cb_best_paper : c_best_paper = b_best_paper := by
  simp only [c_best_paper, setVF_eq, nmF_eq, asgF_eq, asgOF_eq, bNmF_eq, asg2F_eq, augF_eq, contF_eq, pLenF_eq, pIxF_eq, ixNPF_eq, lenNF_eq, mineF_eq, putMF_eq, isLF_eq, appendF_eq, pop0F_eq, popAtF_eq, extendF_eq, setIxF_eq, augIxF_eq, callIOF_eq, wipeEF_eq, ioFF_eq, putIxF_eq, dIxF_eq, dInF_eq, coFF_eq, coF2F_eq, eLcF_eq, eLc2F_eq, qp_floor_of, qp_is_farther, qp_surd_of]
  rfl
noncomputable def q_best_paper : List PV → Option PV := runP 6 3 c_best_paper
theorem qp_best_paper : q_best_paper = p_best_paper := by
  unfold q_best_paper p_best_paper
  rw [cb_best_paper]
noncomputable def c_least_turn : SF := (sRet (callF pMinL (aCons (eLcF [1] (wRng1 (lenNF 0)) (bNmF 1) tYs (eTup (aCons (bin pAdd (eSl (nmF 0) (oSo (nmF 1)) oNo) (eSl (nmF 0) oNo (oSo (nmF 1)))) (aCons (nmF 1) aNil)))) aNil)))
theorem cb_least_turn : c_least_turn = b_least_turn := by
  simp only [c_least_turn, setVF_eq, nmF_eq, asgF_eq, asgOF_eq, bNmF_eq, asg2F_eq, augF_eq, contF_eq, pLenF_eq, pIxF_eq, ixNPF_eq, lenNF_eq, mineF_eq, putMF_eq, isLF_eq, appendF_eq, pop0F_eq, popAtF_eq, extendF_eq, setIxF_eq, augIxF_eq, callIOF_eq, wipeEF_eq, ioFF_eq, putIxF_eq, dIxF_eq, dInF_eq, coFF_eq, coF2F_eq, eLcF_eq, eLc2F_eq]
  rfl
noncomputable def q_least_turn : List PV → Option PV := runP 2 1 c_least_turn
theorem qp_least_turn : q_least_turn = p_least_turn := by
  unfold q_least_turn p_least_turn
  rw [cb_least_turn]
noncomputable def c_tail_paper : SF := (sSeq (asg2F 2 3 (aCons (callF q_chain_of (aCons (nmF 0) aNil)) (aCons (callF q_chain_of (aCons (nmF 1) aNil)) aNil))) (sSeq (asgB (bTup 2 (bCons (bNmF 4) (bCons (bNmF 5) bNil))) (callF q_least_turn (aCons (ixNPF 2 (kE (.int 1))) aNil))) (sSeq (asgB (bTup 2 (bCons (bNmF 6) (bCons (bNmF 7) bNil))) (callF q_least_turn (aCons (ixNPF 3 (kE (.int 1))) aNil))) (sSeq (sIf (tB' (bin pNe (nmF 4) (nmF 6))) (sRet (eTup (aCons (kE (.str "apart")) (aCons (nmF 4) (aCons (nmF 6) aNil))))) sSkip) (sSeq (asgB (bTup 4 (bCons (bNmF 8) (bCons (bNmF 9) (bCons (bNmF 10) (bCons (bNmF 11) bNil))))) (callF q_product_of (aCons (bin pAdd (ixNPF 2 (kE (.int 0))) (eSl (ixNPF 2 (kE (.int 1))) oNo (oSo (nmF 5)))) aNil))) (sSeq (asgB (bTup 4 (bCons (bNmF 12) (bCons (bNmF 13) (bCons (bNmF 14) (bCons (bNmF 15) bNil))))) (callF q_product_of (aCons (bin pAdd (ixNPF 3 (kE (.int 0))) (eSl (ixNPF 3 (kE (.int 1))) oNo (oSo (nmF 7)))) aNil))) (sRet (eTup (aCons (kE (.str "tail")) (aCons (bin pSub (bin pMul (nmF 12) (nmF 11)) (bin pMul (nmF 13) (nmF 10))) (aCons (bin pSub (bin pMul (nmF 13) (nmF 8)) (bin pMul (nmF 12) (nmF 9))) (aCons (bin pSub (bin pMul (nmF 14) (nmF 11)) (bin pMul (nmF 15) (nmF 10))) (aCons (bin pSub (bin pMul (nmF 15) (nmF 8)) (bin pMul (nmF 14) (nmF 9))) aNil)))))))))))))
theorem cb_tail_paper : c_tail_paper = b_tail_paper := by
  simp only [c_tail_paper, setVF_eq, nmF_eq, asgF_eq, asgOF_eq, bNmF_eq, asg2F_eq, augF_eq, contF_eq, pLenF_eq, pIxF_eq, ixNPF_eq, lenNF_eq, mineF_eq, putMF_eq, isLF_eq, appendF_eq, pop0F_eq, popAtF_eq, extendF_eq, setIxF_eq, augIxF_eq, callIOF_eq, wipeEF_eq, ioFF_eq, putIxF_eq, dIxF_eq, dInF_eq, coFF_eq, coF2F_eq, eLcF_eq, eLc2F_eq, qp_chain_of, qp_least_turn, qp_product_of]
  rfl
noncomputable def q_tail_paper : List PV → Option PV := runP 16 2 c_tail_paper
theorem qp_tail_paper : q_tail_paper = p_tail_paper := by
  unfold q_tail_paper p_tail_paper
  rw [cb_tail_paper]
noncomputable def c__law_pool : SF := (sSeq (asgF 1 (kE (.int 7))) (sSeq (sFor (wSeq (eSl (nmF 0) oNo (oSo (kE (.int 63))))) (bNmF 2) (asgF 1 (bin pMod (callF pInt1 (aCons (bin pAdd (bin pMul (nmF 1) (kE (.int 31))) (nmF 2)) aNil)) (kE (.int 1000003))))) (sRetO (eLst (aCons (callF pList (aCons (nmF 0) aNil)) (aCons (kE (.int 0)) (aCons (kE (.int 0)) (aCons (kE (.int 0)) (aCons (nmF 1) aNil)))))))))
theorem cb__law_pool : c__law_pool = b__law_pool := by
  simp only [c__law_pool, setVF_eq, nmF_eq, asgF_eq, asgOF_eq, bNmF_eq, asg2F_eq, augF_eq, contF_eq, pLenF_eq, pIxF_eq, ixNPF_eq, lenNF_eq, mineF_eq, putMF_eq, isLF_eq, appendF_eq, pop0F_eq, popAtF_eq, extendF_eq, setIxF_eq, augIxF_eq, callIOF_eq, wipeEF_eq, ioFF_eq, putIxF_eq, dIxF_eq, dInF_eq, coFF_eq, coF2F_eq, eLcF_eq, eLc2F_eq]
  rfl
noncomputable def q__law_pool : List PV → Option PV := runN 3 1 c__law_pool
theorem qp__law_pool : q__law_pool = p__law_pool := by
  unfold q__law_pool p__law_pool
  rw [cb__law_pool]
noncomputable def c__law_spread : SF := (sSeq (asgF 1 (bin pMod (callF pInt1 (aCons (nmF 0) aNil)) (kE (.int 2147483647)))) (sSeq (asgF 2 (kE (.int 1))) (sSeq (sFor (wRng1 (kE (.int 4))) (bNmF 3) (sSeq (asgF 1 (bin pMod (callF pInt1 (aCons (bin pAdd (bin pAdd (bin pMul (nmF 1) (kE (.int 48271))) (kE (.int 12345))) (nmF 3)) aNil)) (kE (.int 2147483647)))) (asgF 2 (bin pAdd (bin pMul (nmF 2) (kE (.int 2147483647))) (nmF 1))))) (sRet (nmF 2)))))
theorem cb__law_spread : c__law_spread = b__law_spread := by
  simp only [c__law_spread, setVF_eq, nmF_eq, asgF_eq, asgOF_eq, bNmF_eq, asg2F_eq, augF_eq, contF_eq, pLenF_eq, pIxF_eq, ixNPF_eq, lenNF_eq, mineF_eq, putMF_eq, isLF_eq, appendF_eq, pop0F_eq, popAtF_eq, extendF_eq, setIxF_eq, augIxF_eq, callIOF_eq, wipeEF_eq, ioFF_eq, putIxF_eq, dIxF_eq, dInF_eq, coFF_eq, coF2F_eq, eLcF_eq, eLc2F_eq]
  rfl
noncomputable def q__law_spread : List PV → Option PV := runP 4 1 c__law_spread
theorem qp__law_spread : q__law_spread = p__law_spread := by
  unfold q__law_spread p__law_spread
  rw [cb__law_spread]
noncomputable def c__law_draw : SF := (sSeq (sIf (tAn (tB' (bin pLe (ixNPF 0 (kE (.int 2))) (kE (.int 0)))) (tB' (bin pLt (ixNPF 0 (kE (.int 1))) (callF pLenF (aCons (ixNPF 0 (kE (.int 0))) aNil))))) (sSeq (asgF 3 (bin pIxF (ixNPF 0 (kE (.int 0))) (ixNPF 0 (kE (.int 1))))) (sSeq (setIxF 0 (kE (.int 1)) (bin pAdd (ixNPF 0 (kE (.int 1))) (kE (.int 1)))) (sSeq (setIxF 0 (kE (.int 2)) (nmF 3)) (sIf (tB' (bin pLt (nmF 3) (kE (.int 1000000000000000000)))) (setIxF 0 (kE (.int 2)) (callF q__law_spread (aCons (nmF 3) aNil))) sSkip)))) sSkip) (sSeq (setIxF 0 (kE (.int 3)) (bin pAdd (ixNPF 0 (kE (.int 3))) (kE (.int 1)))) (sSeq (sIf (tB' (bin pLe (ixNPF 0 (kE (.int 2))) (kE (.int 0)))) (sSeq (asgF 4 (bin pMod (callF pInt1 (aCons (bin pAdd (bin pAdd (bin pMul (ixNPF 0 (kE (.int 4))) (kE (.int 48271))) (bin pMul (ixNPF 0 (kE (.int 3))) (kE (.int 69621)))) (kE (.int 1))) aNil)) (kE (.int 2147483647)))) (sSeq (asgF 4 (bin pMod (callF pInt1 (aCons (bin pAdd (bin pMul (nmF 4) (kE (.int 16807))) (ixNPF 0 (kE (.int 3)))) aNil)) (kE (.int 2147483629)))) (sRet (bin pMod (bin pDiv (nmF 4) (kE (.int 5))) (nmF 1))))) sSkip) (sSeq (asgF 2 (bin pMod (callF pInt1 (aCons (ixNPF 0 (kE (.int 2))) aNil)) (nmF 1))) (sSeq (setIxF 0 (kE (.int 2)) (bin pDiv (ixNPF 0 (kE (.int 2))) (nmF 1))) (sRet (nmF 2)))))))
theorem cb__law_draw : c__law_draw = b__law_draw := by
  simp only [c__law_draw, setVF_eq, nmF_eq, asgF_eq, asgOF_eq, bNmF_eq, asg2F_eq, augF_eq, contF_eq, pLenF_eq, pIxF_eq, ixNPF_eq, lenNF_eq, mineF_eq, putMF_eq, isLF_eq, appendF_eq, pop0F_eq, popAtF_eq, extendF_eq, setIxF_eq, augIxF_eq, callIOF_eq, wipeEF_eq, ioFF_eq, putIxF_eq, dIxF_eq, dInF_eq, coFF_eq, coF2F_eq, eLcF_eq, eLc2F_eq, qp__law_spread]
  rfl
noncomputable def q__law_draw : PV → List PV → Option (PV × PV) := runIO 5 2 c__law_draw
theorem qp__law_draw : q__law_draw = p__law_draw := by
  unfold q__law_draw p__law_draw
  rw [cb__law_draw]
noncomputable def c__law_root : SF := (sSeq (asg2F 1 2 (aCons (kE (.int 0)) (aCons (bin pAdd (nmF 0) (kE (.int 1))) aNil))) (sSeq (sFor (wRng1 (kE (.int 160))) (bNmF 3) (sIf (tB' (bin pGt (bin pSub (nmF 2) (nmF 1)) (kE (.int 1)))) (sSeq (asgF 4 (bin pDiv (bin pAdd (nmF 1) (nmF 2)) (kE (.int 2)))) (sIf (tB' (bin pLe (bin pMul (nmF 4) (nmF 4)) (nmF 0))) (asgF 1 (nmF 4)) (asgF 2 (nmF 4)))) sSkip)) (sRet (nmF 1))))
theorem cb__law_root : c__law_root = b__law_root := by
  simp only [c__law_root, setVF_eq, nmF_eq, asgF_eq, asgOF_eq, bNmF_eq, asg2F_eq, augF_eq, contF_eq, pLenF_eq, pIxF_eq, ixNPF_eq, lenNF_eq, mineF_eq, putMF_eq, isLF_eq, appendF_eq, pop0F_eq, popAtF_eq, extendF_eq, setIxF_eq, augIxF_eq, callIOF_eq, wipeEF_eq, ioFF_eq, putIxF_eq, dIxF_eq, dInF_eq, coFF_eq, coF2F_eq, eLcF_eq, eLc2F_eq]
  rfl
noncomputable def q__law_root : List PV → Option PV := runP 5 1 c__law_root
theorem qp__law_root : q__law_root = p__law_root := by
  unfold q__law_root p__law_root
  rw [cb__law_root]
noncomputable def c__law_is_sq : SF := (sRet (vAn (bin pGe (nmF 0) (kE (.int 0))) (bin pEq (bin pMul (callF q__law_root (aCons (nmF 0) aNil)) (callF q__law_root (aCons (nmF 0) aNil))) (nmF 0))))
theorem cb__law_is_sq : c__law_is_sq = b__law_is_sq := by
  simp only [c__law_is_sq, setVF_eq, nmF_eq, asgF_eq, asgOF_eq, bNmF_eq, asg2F_eq, augF_eq, contF_eq, pLenF_eq, pIxF_eq, ixNPF_eq, lenNF_eq, mineF_eq, putMF_eq, isLF_eq, appendF_eq, pop0F_eq, popAtF_eq, extendF_eq, setIxF_eq, augIxF_eq, callIOF_eq, wipeEF_eq, ioFF_eq, putIxF_eq, dIxF_eq, dInF_eq, coFF_eq, coF2F_eq, eLcF_eq, eLc2F_eq, qp__law_root]
  rfl
noncomputable def q__law_is_sq : List PV → Option PV := runP 1 1 c__law_is_sq
theorem qp__law_is_sq : q__law_is_sq = p__law_is_sq := by
  unfold q__law_is_sq p__law_is_sq
  rw [cb__law_is_sq]
noncomputable def c_law : SF := (sSeq (asgOF 1 (callF q__law_pool (aCons (nmF 0) aNil))) (sSeq (asgF 2 (bin pAdd (kE (.int 2)) (callIOF 1 q__law_draw (aCons (kE (.int 59)) aNil)))) (sSeq (sIf (tTr (callF q__law_is_sq (aCons (nmF 2) aNil))) (asgF 2 (bin pSub (nmF 2) (kE (.int 1)))) sSkip) (sSeq (asgB (bTup 2 (bCons (bNmF 3) (bCons (bNmF 4) bNil))) (callF q_chain_of (aCons (eTup (aCons (kE (.int 0)) (aCons (nmF 2) (aCons (kE (.int 1)) aNil)))) aNil))) (sSeq (asgB (bTup 2 (bCons (bNmF 5) (bCons (bNmF 6) bNil))) (callF q_pell (aCons (nmF 2) aNil))) (sSeq (asgF 7 (callF q_answers (aCons (nmF 2) (aCons (kE (.int 3)) aNil)))) (sSeq (sFor (wRng1 (kE (.int 3))) (bNmF 8) (sSeq (asgB (bTup 2 (bCons (bNmF 12) (bCons (bNmF 13) bNil))) (callF q_members_at (aCons (bin pMul (kE (.int 2)) (nmF 5)) (aCons (kE (.int 1)) (aCons (bin pAdd (nmF 8) (kE (.int 1))) aNil))))) (sIf (tOr' (tB' (bin pNe (ixNPF 7 (nmF 8)) (eTup (aCons (bin pDiv (nmF 13) (kE (.int 2))) (aCons (bin pMul (nmF 6) (nmF 12)) aNil))))) (tB' (bin pNe (bin pMod (nmF 13) (kE (.int 2))) (kE (.int 0))))) (sRet (kE (.bool false))) sSkip))) (sSeq (asgF 9 (callF q_convergents (aCons (bin pAdd (bin pAdd (nmF 3) (nmF 4)) (nmF 4)) aNil))) (sSeq (sIf (tOr' (tB' (bin (pInB not) (eTup (aCons (nmF 5) (aCons (nmF 6) aNil))) (nmF 9))) (tOr' (tB' (bin pNe (ixNPF 4 (un pNeg (kE (.int 1)))) (bin pMul (kE (.int 2)) (ixNPF 3 (kE (.int 0)))))) (tOr' (tB' (bin pNe (lenNF 3) (kE (.int 1)))) (tB' (bin pNe (eSl (nmF 4) oNo (oSo (un pNeg (kE (.int 1))))) (eRevT (eSl (nmF 4) oNo (oSo (un pNeg (kE (.int 1))))))))))) (sRet (kE (.bool false))) sSkip) (sSeq (sIf (tAn (tB' (bin pLt (nmF 6) (kE (.int 300)))) (tB' (bin pNe (callF q_best_paper (aCons (eTup (aCons (kE (.int 0)) (aCons (nmF 2) (aCons (kE (.int 1)) aNil)))) (aCons (nmF 5) (aCons (nmF 6) aNil)))) (eTup (aCons (kE (.str "best")) aNil))))) (sRet (kE (.bool false))) sSkip) (sSeq (asgF 10 (callF q_minus_paper (aCons (nmF 2) aNil))) (sSeq (sIf (tOr' (tB' (bin pNe (bin pEq (ixNPF 10 (kE (.int 0))) (kE (.str "minus"))) (bin pEq (bin pMod (lenNF 4) (kE (.int 2))) (kE (.int 1))))) (tAn (tB' (bin pEq (ixNPF 10 (kE (.int 0))) (kE (.str "minus")))) (tB' (bin (pInB not) (eSl (nmF 10) (oSo (kE (.int 1))) oNo) (nmF 9))))) (sRet (kE (.bool false))) sSkip) (sSeq (asgF 11 (callF q_near (aCons (nmF 2) aNil))) (sSeq (sIf (tOr' (tB' (bin (pInB not) (kE (.int 1)) (nmF 11))) (tB' (bin pNe (bin (pInB id) (un pNeg (kE (.int 1))) (nmF 11)) (bin pEq (ixNPF 10 (kE (.int 0))) (kE (.str "minus")))))) (sRet (kE (.bool false))) sSkip) (sRet (vAn (bin pEq (bin pIxF (callF q_tail_paper (aCons (eTup (aCons (kE (.int 0)) (aCons (nmF 2) (aCons (kE (.int 1)) aNil)))) (aCons (eTup (aCons (ixNPF 3 (kE (.int 0))) (aCons (nmF 2) (aCons (kE (.int 1)) aNil)))) aNil))) (kE (.int 0))) (kE (.str "tail"))) (bin pEq (bin pIxF (callF q_tail_paper (aCons (eTup (aCons (kE (.int 0)) (aCons (nmF 2) (aCons (kE (.int 1)) aNil)))) (aCons (eTup (aCons (kE (.int 0)) (aCons (nmF 2) (aCons (nmF 2) aNil)))) aNil))) (kE (.int 0))) (kE (.str "tail")))))))))))))))))))
theorem cb_law : c_law = b_law := by
  simp only [c_law, setVF_eq, nmF_eq, asgF_eq, asgOF_eq, bNmF_eq, asg2F_eq, augF_eq, contF_eq, pLenF_eq, pIxF_eq, ixNPF_eq, lenNF_eq, mineF_eq, putMF_eq, isLF_eq, appendF_eq, pop0F_eq, popAtF_eq, extendF_eq, setIxF_eq, augIxF_eq, callIOF_eq, wipeEF_eq, ioFF_eq, putIxF_eq, dIxF_eq, dInF_eq, coFF_eq, coF2F_eq, eLcF_eq, eLc2F_eq, qp__law_draw, qp__law_is_sq, qp__law_pool, qp_answers, qp_best_paper, qp_chain_of, qp_convergents, qp_members_at, qp_minus_paper, qp_near, qp_pell, qp_tail_paper]
  rfl
noncomputable def q_law : List PV → Option PV := runP 14 1 c_law
theorem qp_law : q_law = p_law := by
  unfold q_law p_law
  rw [cb_law]
end Fx

namespace Fx
open PySem PySem.Spec L2
open PyProof.Rows hiding St
def mkP (cells : List Int) (i : Nat) (cur : Int) (cnt : Nat) (salt : Int) : PV := .list [.list (cells.map .int), .int i, .int cur, .int cnt, .int salt]
def dS1 : SF := (sIf (tAn (tB' (bin pLe (ixN' 0 (kE (.int 2))) (kE (.int 0)))) (tB' (bin pLt (ixN' 0 (kE (.int 1))) (callF pLen (aCons (ixN' 0 (kE (.int 0))) aNil))))) (sSeq (asg 3 (bin pIx (ixN' 0 (kE (.int 0))) (ixN' 0 (kE (.int 1))))) (sSeq (setIx 0 (kE (.int 1)) (bin pAdd (ixN' 0 (kE (.int 1))) (kE (.int 1)))) (sSeq (setIx 0 (kE (.int 2)) (nm 3)) (sIf (tB' (bin pLt (nm 3) (kE (.int 1000000000000000000)))) (setIx 0 (kE (.int 2)) (callF p__law_spread (aCons (nm 3) aNil))) sSkip)))) sSkip)
theorem at5_0 {a b c d e : PV} : pIx (.list [a, b, c, d, e]) (.int 0) = some a := rfl
theorem at5_1 {a b c d e : PV} : pIx (.list [a, b, c, d, e]) (.int 1) = some b := rfl
theorem at5_2 {a b c d e : PV} : pIx (.list [a, b, c, d, e]) (.int 2) = some c := rfl
theorem at5_3 {a b c d e : PV} : pIx (.list [a, b, c, d, e]) (.int 3) = some d := rfl
theorem at5_4 {a b c d e : PV} : pIx (.list [a, b, c, d, e]) (.int 4) = some e := rfl
theorem ix5_1 : ixN 5 1 = some 1 := rfl
theorem ix5_2 : ixN 5 2 = some 2 := rfl
theorem ix5_3 : ixN 5 3 = some 3 := rfl
theorem pAdd_int {i j : Int} : pAdd (.int i) (.int j) = some (.int (i + j)) := rfl
theorem pLe_int {i j : Int} : pLe (.int i) (.int j) = some (.bool (decide (i ≤ j))) := rfl
theorem pLt_int {i j : Int} : pLt (.int i) (.int j) = some (.bool (decide (i < j))) := rfl
theorem fits_of {a b : Int} (ha : a.natAbs < 2 ^ 4000) (hb : b.natAbs < 2 ^ 4000) : fits a b = true := by
  unfold fits
  have h1 : a.natAbs.log2 ≤ 4000 := by
    by_cases h : a.natAbs = 0
    · rw [h]; decide
    · exact Nat.le_of_lt ((Nat.log2_lt h).mpr ha)
  have h2 : b.natAbs.log2 ≤ 4000 := by
    by_cases h : b.natAbs = 0
    · rw [h]; decide
    · exact Nat.le_of_lt ((Nat.log2_lt h).mpr hb)
  exact decide_eq_true (by omega)

theorem pMul_int {i j : Int} (h : fits i j = true) : pMul (.int i) (.int j) = some (.int (i * j)) := by
  show (if fits i j = true then _ else _) = _
  rw [if_pos h]
theorem pMod_int {i j : Int} (h : j ≠ 0) : pMod (.int i) (.int j) = some (.int (i.fmod j)) := by
  show (if j ≠ 0 then _ else _) = _
  rw [if_pos h]
theorem pDiv_int {i j : Int} (h : j ≠ 0) (h2 : j.natAbs.log2 < 9000) : pDiv (.int i) (.int j) = some (.int (i.fdiv j)) := by
  show (if j ≠ 0 ∧ j.natAbs.log2 < 9000 then _ else _) = _
  rw [if_pos ⟨h, h2⟩]
theorem fmod_lo {i j : Int} (h : 0 < j) : 0 ≤ i.fmod j := Int.fmod_nonneg_of_pos _ h
theorem fmod_hi {i j : Int} (h : 0 < j) : i.fmod j < j := Int.fmod_lt_of_pos _ h
theorem abs_lt {i : Int} {n : Nat} (h0 : 0 ≤ i) (h : i < (2 : Int) ^ n) (hn : n ≤ 4000 := by decide) : i.natAbs < 2 ^ 4000 := by
  have : (i.natAbs : Int) < ((2 ^ n : Nat) : Int) := by
    rw [Int.natAbs_of_nonneg h0]; exact_mod_cast h
  have h2 : i.natAbs < 2 ^ n := by exact_mod_cast this
  exact Nat.lt_of_lt_of_le h2 (Nat.pow_le_pow_right (by decide) hn)
def spB : SF := (sSeq (asg 1 (bin pMod (callF pInt1 (aCons (bin pAdd (bin pAdd (bin pMul (nm 1) (kE (.int 48271))) (kE (.int 12345))) (nm 3)) aNil)) (kE (.int 2147483647)))) (asg 2 (bin pAdd (bin pMul (nm 2) (kE (.int 2147483647))) (nm 1))))
theorem spB_ok (c : Sl) (b s k : Int) (hb0 : 0 ≤ b) (hb : b < 2147483647) (hs0 : 0 ≤ s) (n : Nat) (hs : s < 2 ^ n) (hn : n ≤ 4000) : ∃ b' s', spB [c, .va (.int b), .va (.int s), .va (.int k)] = some (.nx [c, .va (.int b'), .va (.int s'), .va (.int k)]) ∧ 0 ≤ b' ∧ b' < 2147483647 ∧ 0 ≤ s' ∧ s' < 2 ^ (n + 32) := by
  have f1 : fits b 48271 = true := fits_of (abs_lt (n := 31) hb0 (by omega)) (by decide)
  have f2 : fits s 2147483647 = true := fits_of (abs_lt hs0 hs hn) (by decide)
  refine ⟨(b * 48271 + 12345 + k).fmod 2147483647, s * 2147483647 + (b * 48271 + 12345 + k).fmod 2147483647, ?_, fmod_lo (by decide), fmod_hi (by decide), ?_, ?_⟩
  · simp only [spB, sSeq, asg, bin, callF, aCons, aNil, nm, kE, List.getElem?_cons_succ, List.getElem?_cons_zero, pMul_int f1, pAdd_int, pInt1, pMod_int (show (2147483647 : Int) ≠ 0 by decide), setV, List.set_cons_succ, List.set_cons_zero, pMul_int f2]
  · have := fmod_lo (i := b * 48271 + 12345 + k) (show (0 : Int) < 2147483647 by decide)
    omega
  · have := fmod_hi (i := b * 48271 + 12345 + k) (show (0 : Int) < 2147483647 by decide)
    have e : (2 : Int) ^ (n + 32) = 2 ^ n * 4294967296 := by rw [Int.pow_add]; rfl
    rw [e]; omega
theorem spread_ok (c : Int) : ∃ s, p__law_spread [.int c] = some (.int s) := by
  have h0 := fmod_lo (i := c) (show (0 : Int) < 2147483647 by decide)
  have h1 := fmod_hi (i := c) (show (0 : Int) < 2147483647 by decide)
  obtain ⟨b1, s1, e1, p1, q1, u1, v1⟩ := spB_ok (.va (.int c)) _ 1 0 h0 h1 (by decide) 1 (by decide) (by decide)
  obtain ⟨b2, s2, e2, p2, q2, u2, v2⟩ := spB_ok (.va (.int c)) _ s1 1 p1 q1 u1 _ v1 (by decide)
  obtain ⟨b3, s3, e3, p3, q3, u3, v3⟩ := spB_ok (.va (.int c)) _ s2 2 p2 q2 u2 _ v2 (by decide)
  obtain ⟨b4, s4, e4, p4, q4, u4, v4⟩ := spB_ok (.va (.int c)) _ s3 3 p3 q3 u3 _ v3 (by decide)
  refine ⟨s4, ?_⟩
  have eb : b__law_spread = sSeq (asg 1 (bin pMod (callF pInt1 (aCons (nm 0) aNil)) (kE (.int 2147483647)))) (sSeq (asg 2 (kE (.int 1))) (sSeq (sFor (wRng1 (kE (.int 4))) (bNm 3) spB) (sRet (nm 2)))) := rfl
  have hr : rngL 0 4 = [.int 0, .int 1, .int 2, .int 3] := rfl
  have n1 : (2147483647 : Int) ≠ 0 := by decide
  simp [p__law_spread, runP, eb, start0, sSeq, asg, bin, callF, aCons, aNil, nm, kE, pInt1, pMod_int n1, setV, sFor, wRng1, hr, foF, bNm, e1, e2, e3, e4, sRet, List.replicate]
theorem map_get {cells : List Int} {i : Nat} (h : i < cells.length) : ∃ c, pIx (.list (cells.map .int)) (.int i) = some (.int c) := by
  refine ⟨cells[i], ?_⟩
  show atI _ _ = _
  unfold atI ixN
  simp [h]
theorem dS1_ok (cells : List Int) (i : Nat) (cur : Int) (cnt : Nat) (salt : Int) (m : Sl) : ∃ i' cur' s3, (s3 = .no ∨ ∃ d, s3 = .va d) ∧ dS1 [.io (mkP cells i cur cnt salt), m, .no, .no, .no] = some (.nx [.io (mkP cells i' cur' cnt salt), m, .no, s3, .no]) := by
  by_cases h1 : cur ≤ 0
  · by_cases h2 : i < cells.length
    · obtain ⟨c, hc⟩ := map_get h2
      obtain ⟨s, hs⟩ := spread_ok c
      by_cases h3 : c < 1000000000000000000
      · refine ⟨i + 1, s, .va (.int c), .inr ⟨_, rfl⟩, ?_⟩
        simp [dS1, mkP, sIf, tAn, tB', bin, ixN', Fx.cont, kE, at5_0, at5_1, at5_2, pLe_int, pLt_int, h1, h2, h3, callF, aCons, aNil, pLen, sSeq, asg, setV, hc, setIx, isL, Fx.mine, pAdd_int, ix5_1, ix5_2, putM, nm, hs]
      · refine ⟨i + 1, c, .va (.int c), .inr ⟨_, rfl⟩, ?_⟩
        simp [dS1, mkP, sIf, tAn, tB', bin, ixN', Fx.cont, kE, at5_0, at5_1, at5_2, pLe_int, pLt_int, h1, h2, h3, callF, aCons, aNil, pLen, sSeq, asg, setV, hc, setIx, isL, Fx.mine, pAdd_int, ix5_1, ix5_2, putM, nm, hs, sSkip]
    · refine ⟨i, cur, .no, .inl rfl, ?_⟩
      simp [dS1, mkP, sIf, tAn, tB', bin, ixN', Fx.cont, kE, at5_0, at5_1, at5_2, pLe_int, pLt_int, h1, h2, callF, aCons, aNil, pLen, sSkip]
  · refine ⟨i, cur, .no, .inl rfl, ?_⟩
    simp [dS1, mkP, sIf, tAn, tB', bin, ixN', Fx.cont, kE, at5_0, at5_1, at5_2, pLe_int, pLt_int, h1, sSkip]
def PoolOk (c : Nat) (p : PV) : Prop := ∃ (cells : List Int) (i : Nat) (cur : Int) (cnt : Nat) (salt : Int), p = mkP cells i cur cnt salt ∧ cnt ≤ c ∧ 0 ≤ salt ∧ salt < 1000003
def dS2 : SF := (sSeq (setIx 0 (kE (.int 3)) (bin pAdd (ixN' 0 (kE (.int 3))) (kE (.int 1)))) (sSeq (sIf (tB' (bin pLe (ixN' 0 (kE (.int 2))) (kE (.int 0)))) (sSeq (asg 4 (bin pMod (callF pInt1 (aCons (bin pAdd (bin pAdd (bin pMul (ixN' 0 (kE (.int 4))) (kE (.int 48271))) (bin pMul (ixN' 0 (kE (.int 3))) (kE (.int 69621)))) (kE (.int 1))) aNil)) (kE (.int 2147483647)))) (sSeq (asg 4 (bin pMod (callF pInt1 (aCons (bin pAdd (bin pMul (nm 4) (kE (.int 16807))) (ixN' 0 (kE (.int 3)))) aNil)) (kE (.int 2147483629)))) (sRet (bin pMod (bin pDiv (nm 4) (kE (.int 5))) (nm 1))))) sSkip) (sSeq (asg 2 (bin pMod (callF pInt1 (aCons (ixN' 0 (kE (.int 2))) aNil)) (nm 1))) (sSeq (setIx 0 (kE (.int 2)) (bin pDiv (ixN' 0 (kE (.int 2))) (nm 1))) (sRet (nm 2))))))
theorem dS2_ok (cells : List Int) (i : Nat) (cur : Int) (cnt : Nat) (salt : Int) (m : Int) (s3 : Sl) (h3 : s3 = .no ∨ ∃ d, s3 = .va d) (hc : cnt < 100000) (hs0 : 0 ≤ salt) (hs : salt < 1000003) (hm : 0 < m) (hm2 : m.natAbs.log2 < 9000) : ∃ v p' r, dS2 [.io (mkP cells i cur cnt salt), .va (.int m), .no, s3, .no] = some (.rt (.int v) (.io p' :: r)) ∧ 0 ≤ v ∧ v < m ∧ PoolOk (cnt + 1) p' := by
  have f1 : fits salt 48271 = true := fits_of (abs_lt (n := 31) hs0 (by omega)) (by decide)
  have f2 : fits ((cnt : Int) + 1) 69621 = true := fits_of (abs_lt (n := 31) (by omega) (by omega)) (by decide)
  have hm' : m ≠ 0 := by omega
  have n1 : (2147483647 : Int) ≠ 0 := by decide
  have n2 : (2147483629 : Int) ≠ 0 := by decide
  have n3 : (5 : Int) ≠ 0 := by decide
  have n4 : (5 : Int).natAbs.log2 < 9000 := by decide
  by_cases h1 : cur ≤ 0
  · generalize hb : (salt * 48271 + ((cnt : Int) + 1) * 69621 + 1).fmod 2147483647 = b
    have b0 : 0 ≤ b := hb ▸ fmod_lo (by decide)
    have b1 : b < 2147483647 := hb ▸ fmod_hi (by decide)
    have f3 : fits b 16807 = true := fits_of (abs_lt (n := 31) b0 (by omega)) (by decide)
    refine ⟨(((b * 16807 + ((cnt : Int) + 1)).fmod 2147483629).fdiv 5).fmod m, mkP cells i cur (cnt + 1) salt, [.va (.int m), .no, s3, .va (.int ((b * 16807 + ((cnt : Int) + 1)).fmod 2147483629))], ?_, fmod_lo hm, fmod_hi hm, ⟨cells, i, cur, cnt + 1, salt, rfl, Nat.le_refl _, hs0, hs⟩⟩
    simp [dS2, mkP, sIf, tB', bin, ixN', Fx.cont, kE, at5_2, at5_3, at5_4, pLe_int, h1, callF, aCons, aNil, sSeq, asg, setV, setIx, isL, Fx.mine, pAdd_int, ix5_3, putM, nm, pMul_int f1, pMul_int f2, pMod_int n1, pMod_int n2, pInt1, hb, pMul_int f3, sRet, pDiv_int n3 n4, pMod_int hm']
  · refine ⟨cur.fmod m, mkP cells i (cur.fdiv m) (cnt + 1) salt, [.va (.int m), .va (.int (cur.fmod m)), s3, .no], ?_, fmod_lo hm, fmod_hi hm, ⟨cells, i, _, cnt + 1, salt, rfl, Nat.le_refl _, hs0, hs⟩⟩
    simp [dS2, mkP, sIf, tB', bin, ixN', Fx.cont, kE, at5_2, at5_3, at5_4, pLe_int, h1, callF, aCons, aNil, sSeq, asg, setV, setIx, isL, Fx.mine, pAdd_int, ix5_2, ix5_3, putM, nm, pInt1, sRet, pDiv_int hm' hm2, pMod_int hm', sSkip]
theorem PoolOk.mono {c c' : Nat} {p : PV} (h : PoolOk c p) (hc : c ≤ c') : PoolOk c' p := by
  obtain ⟨cells, i, cur, cnt, salt, e, h1, h2⟩ := h
  exact ⟨cells, i, cur, cnt, salt, e, Nat.le_trans h1 hc, h2⟩
theorem draw_ok {c : Nat} {p : PV} {m : Int} (hp : PoolOk c p) (hc : c < 100000) (hm : 0 < m) (hm2 : m.natAbs.log2 < 9000) : ∃ v p', p__law_draw p [.int m] = some (p', .int v) ∧ 0 ≤ v ∧ v < m ∧ PoolOk (c + 1) p' := by
  obtain ⟨cells, i, cur, cnt, salt, rfl, h1, h2, h3⟩ := hp
  have eb : b__law_draw = sSeq dS1 dS2 := rfl
  obtain ⟨i', cur', s3, hs3, e⟩ := dS1_ok cells i cur cnt salt (.va (.int m))
  obtain ⟨v, p', r, e2, a, b, q⟩ := dS2_ok cells i' cur' cnt salt m s3 hs3 (by omega) h2 h3 hm hm2
  refine ⟨v, p', ?_, a, b, q.mono (by omega)⟩
  simp [p__law_draw, runIO, start1, start0, List.replicate, eb, sSeq, e, e2]
theorem poolB_ok (sc : Sl) (s c : Int) (h0 : 0 ≤ s) (h : s < 1000003) : ∃ s', (asg 1 (bin pMod (callF pInt1 (aCons (bin pAdd (bin pMul (nm 1) (kE (.int 31))) (nm 2)) aNil)) (kE (.int 1000003)))) [sc, .va (.int s), .va (.int c)] = some (.nx [sc, .va (.int s'), .va (.int c)]) ∧ 0 ≤ s' ∧ s' < 1000003 := by
  have f1 : fits s 31 = true := fits_of (abs_lt (n := 31) h0 (by omega)) (by decide)
  have n1 : (1000003 : Int) ≠ 0 := by decide
  refine ⟨(s * 31 + c).fmod 1000003, ?_, fmod_lo (by decide), fmod_hi (by decide)⟩
  simp [asg, bin, callF, aCons, aNil, nm, kE, pMul_int f1, pAdd_int, pInt1, pMod_int n1, setV]
theorem poolL_ok (sc : Sl) (b : SF) (hb : ∀ s c : Int, 0 ≤ s → s < 1000003 → ∃ s', b [sc, .va (.int s), .va (.int c)] = some (.nx [sc, .va (.int s'), .va (.int c)]) ∧ 0 ≤ s' ∧ s' < 1000003) : ∀ (cs : List Int) (s : Int) (l : Sl), (l = .no ∨ ∃ d, l = .va d) → 0 ≤ s → s < 1000003 → ∃ s' l', foF (bNm 2) b (cs.map .int) [sc, .va (.int s), l] = some (.nx [sc, .va (.int s'), l']) ∧ 0 ≤ s' ∧ s' < 1000003
  | [], s, l, hl, h0, h => ⟨s, l, rfl, h0, h⟩
  | c :: cs, s, l, hl, h0, h => by
    obtain ⟨s1, e1, p1, q1⟩ := hb s c h0 h
    obtain ⟨s2, l2, e2, p2, q2⟩ := poolL_ok sc b hb cs s1 (.va (.int c)) (.inr ⟨_, rfl⟩) p1 q1
    refine ⟨s2, l2, ?_, p2, q2⟩
    rcases hl with rfl | ⟨d, rfl⟩ <;> simp [foF, bNm, setV, e1, e2]
theorem cut_map (ns : List Int) (lo hi : Option Int) : ∃ cs : List Int, cutD (ns.map .int) lo hi = cs.map .int := by
  unfold cutD
  rw [← List.map_drop, ← List.map_take]
  exact ⟨_, rfl⟩
theorem pool_ok (ns : List Int) : ∃ p, p__law_pool [scrD ns] = some p ∧ PoolOk 0 p := by
  obtain ⟨cs, e2⟩ := cut_map ns none (some 63)
  obtain ⟨s, l, e, h0, h1⟩ := poolL_ok (.va (scrD ns)) _ (fun s c a b => poolB_ok (.va (scrD ns)) s c a b) cs 7 .no (.inl rfl) (by decide) (by decide)
  refine ⟨mkP ns 0 0 0 s, ?_, ⟨ns, 0, 0, 0, s, rfl, Nat.le_refl _, h0, h1⟩⟩
  have e3 : pList [scrD ns] = some (.list (ns.map .int)) := rfl
  have e4 : (5 : Nat) ≤ sizeLine := by decide
  have e5 : pSl (scrD ns) none (some 63) = some (.list (cs.map .int)) := congrArg (fun z => some (PyData.list z)) e2
  simp [p__law_pool, runN, start0, List.replicate, b__law_pool, sSeq, asg, kE, setV, sFor, wSeq, eSl, nm, oNo, oSo, e5, items, e, sRetO, eLst, aCons, aNil, callF, e3, e4, mkP]
end Fx

namespace Fx
open PySem PySem.Spec L2
open PyProof.Rows hiding St
def L0 : SF := (asgO 1 (callF p__law_pool (aCons (nm 0) aNil)))
noncomputable def M0 : SF := (asgOF 1 (callF q__law_pool (aCons (nmF 0) aNil)))
theorem ML0 : M0 = L0 := by
  simp only [M0, setVF_eq, nmF_eq, asgF_eq, asgOF_eq, bNmF_eq, asg2F_eq, augF_eq, contF_eq, pLenF_eq, pIxF_eq, ixNPF_eq, lenNF_eq, mineF_eq, putMF_eq, isLF_eq, appendF_eq, pop0F_eq, popAtF_eq, extendF_eq, setIxF_eq, augIxF_eq, callIOF_eq, wipeEF_eq, ioFF_eq, putIxF_eq, dIxF_eq, dInF_eq, coFF_eq, coF2F_eq, eLcF_eq, eLc2F_eq, qp__law_pool]
  rfl
def L1 : SF := (asg 2 (bin pAdd (kE (.int 2)) (callIO 1 p__law_draw (aCons (kE (.int 59)) aNil))))
noncomputable def M1 : SF := (asgF 2 (bin pAdd (kE (.int 2)) (callIOF 1 q__law_draw (aCons (kE (.int 59)) aNil))))
theorem ML1 : M1 = L1 := by
  simp only [M1, setVF_eq, nmF_eq, asgF_eq, asgOF_eq, bNmF_eq, asg2F_eq, augF_eq, contF_eq, pLenF_eq, pIxF_eq, ixNPF_eq, lenNF_eq, mineF_eq, putMF_eq, isLF_eq, appendF_eq, pop0F_eq, popAtF_eq, extendF_eq, setIxF_eq, augIxF_eq, callIOF_eq, wipeEF_eq, ioFF_eq, putIxF_eq, dIxF_eq, dInF_eq, coFF_eq, coF2F_eq, eLcF_eq, eLc2F_eq, qp__law_draw]
  rfl
def L2 : SF := (sIf (tTr (callF p__law_is_sq (aCons (nm 2) aNil))) (asg 2 (bin pSub (nm 2) (kE (.int 1)))) sSkip)
noncomputable def M2 : SF := (sIf (tTr (callF q__law_is_sq (aCons (nmF 2) aNil))) (asgF 2 (bin pSub (nmF 2) (kE (.int 1)))) sSkip)
theorem ML2 : M2 = L2 := by
  simp only [M2, setVF_eq, nmF_eq, asgF_eq, asgOF_eq, bNmF_eq, asg2F_eq, augF_eq, contF_eq, pLenF_eq, pIxF_eq, ixNPF_eq, lenNF_eq, mineF_eq, putMF_eq, isLF_eq, appendF_eq, pop0F_eq, popAtF_eq, extendF_eq, setIxF_eq, augIxF_eq, callIOF_eq, wipeEF_eq, ioFF_eq, putIxF_eq, dIxF_eq, dInF_eq, coFF_eq, coF2F_eq, eLcF_eq, eLc2F_eq, qp__law_is_sq]
  rfl
def L3 : SF := (asgB (bTup 2 (bCons (bNm 3) (bCons (bNm 4) bNil))) (callF p_chain_of (aCons (eTup (aCons (kE (.int 0)) (aCons (nm 2) (aCons (kE (.int 1)) aNil)))) aNil)))
noncomputable def M3 : SF := (asgB (bTup 2 (bCons (bNmF 3) (bCons (bNmF 4) bNil))) (callF q_chain_of (aCons (eTup (aCons (kE (.int 0)) (aCons (nmF 2) (aCons (kE (.int 1)) aNil)))) aNil)))
theorem ML3 : M3 = L3 := by
  simp only [M3, setVF_eq, nmF_eq, asgF_eq, asgOF_eq, bNmF_eq, asg2F_eq, augF_eq, contF_eq, pLenF_eq, pIxF_eq, ixNPF_eq, lenNF_eq, mineF_eq, putMF_eq, isLF_eq, appendF_eq, pop0F_eq, popAtF_eq, extendF_eq, setIxF_eq, augIxF_eq, callIOF_eq, wipeEF_eq, ioFF_eq, putIxF_eq, dIxF_eq, dInF_eq, coFF_eq, coF2F_eq, eLcF_eq, eLc2F_eq, qp_chain_of]
  rfl
def L4 : SF := (asgB (bTup 2 (bCons (bNm 5) (bCons (bNm 6) bNil))) (callF p_pell (aCons (nm 2) aNil)))
noncomputable def M4 : SF := (asgB (bTup 2 (bCons (bNmF 5) (bCons (bNmF 6) bNil))) (callF q_pell (aCons (nmF 2) aNil)))
theorem ML4 : M4 = L4 := by
  simp only [M4, setVF_eq, nmF_eq, asgF_eq, asgOF_eq, bNmF_eq, asg2F_eq, augF_eq, contF_eq, pLenF_eq, pIxF_eq, ixNPF_eq, lenNF_eq, mineF_eq, putMF_eq, isLF_eq, appendF_eq, pop0F_eq, popAtF_eq, extendF_eq, setIxF_eq, augIxF_eq, callIOF_eq, wipeEF_eq, ioFF_eq, putIxF_eq, dIxF_eq, dInF_eq, coFF_eq, coF2F_eq, eLcF_eq, eLc2F_eq, qp_pell]
  rfl
def L5 : SF := (asg 7 (callF p_answers (aCons (nm 2) (aCons (kE (.int 3)) aNil))))
noncomputable def M5 : SF := (asgF 7 (callF q_answers (aCons (nmF 2) (aCons (kE (.int 3)) aNil))))
theorem ML5 : M5 = L5 := by
  simp only [M5, setVF_eq, nmF_eq, asgF_eq, asgOF_eq, bNmF_eq, asg2F_eq, augF_eq, contF_eq, pLenF_eq, pIxF_eq, ixNPF_eq, lenNF_eq, mineF_eq, putMF_eq, isLF_eq, appendF_eq, pop0F_eq, popAtF_eq, extendF_eq, setIxF_eq, augIxF_eq, callIOF_eq, wipeEF_eq, ioFF_eq, putIxF_eq, dIxF_eq, dInF_eq, coFF_eq, coF2F_eq, eLcF_eq, eLc2F_eq, qp_answers]
  rfl
def L6 : SF := (sFor (wRng1 (kE (.int 3))) (bNm 8) (sSeq (asgB (bTup 2 (bCons (bNm 12) (bCons (bNm 13) bNil))) (callF p_members_at (aCons (bin pMul (kE (.int 2)) (nm 5)) (aCons (kE (.int 1)) (aCons (bin pAdd (nm 8) (kE (.int 1))) aNil))))) (sIf (tOr' (tB' (bin pNe (ixN' 7 (nm 8)) (eTup (aCons (bin pDiv (nm 13) (kE (.int 2))) (aCons (bin pMul (nm 6) (nm 12)) aNil))))) (tB' (bin pNe (bin pMod (nm 13) (kE (.int 2))) (kE (.int 0))))) (sRet (kE (.bool false))) sSkip)))
noncomputable def M6 : SF := (sFor (wRng1 (kE (.int 3))) (bNmF 8) (sSeq (asgB (bTup 2 (bCons (bNmF 12) (bCons (bNmF 13) bNil))) (callF q_members_at (aCons (bin pMul (kE (.int 2)) (nmF 5)) (aCons (kE (.int 1)) (aCons (bin pAdd (nmF 8) (kE (.int 1))) aNil))))) (sIf (tOr' (tB' (bin pNe (ixNPF 7 (nmF 8)) (eTup (aCons (bin pDiv (nmF 13) (kE (.int 2))) (aCons (bin pMul (nmF 6) (nmF 12)) aNil))))) (tB' (bin pNe (bin pMod (nmF 13) (kE (.int 2))) (kE (.int 0))))) (sRet (kE (.bool false))) sSkip)))
theorem ML6 : M6 = L6 := by
  simp only [M6, setVF_eq, nmF_eq, asgF_eq, asgOF_eq, bNmF_eq, asg2F_eq, augF_eq, contF_eq, pLenF_eq, pIxF_eq, ixNPF_eq, lenNF_eq, mineF_eq, putMF_eq, isLF_eq, appendF_eq, pop0F_eq, popAtF_eq, extendF_eq, setIxF_eq, augIxF_eq, callIOF_eq, wipeEF_eq, ioFF_eq, putIxF_eq, dIxF_eq, dInF_eq, coFF_eq, coF2F_eq, eLcF_eq, eLc2F_eq, qp_members_at]
  rfl
def L7 : SF := (asg 9 (callF p_convergents (aCons (bin pAdd (bin pAdd (nm 3) (nm 4)) (nm 4)) aNil)))
noncomputable def M7 : SF := (asgF 9 (callF q_convergents (aCons (bin pAdd (bin pAdd (nmF 3) (nmF 4)) (nmF 4)) aNil)))
theorem ML7 : M7 = L7 := by
  simp only [M7, setVF_eq, nmF_eq, asgF_eq, asgOF_eq, bNmF_eq, asg2F_eq, augF_eq, contF_eq, pLenF_eq, pIxF_eq, ixNPF_eq, lenNF_eq, mineF_eq, putMF_eq, isLF_eq, appendF_eq, pop0F_eq, popAtF_eq, extendF_eq, setIxF_eq, augIxF_eq, callIOF_eq, wipeEF_eq, ioFF_eq, putIxF_eq, dIxF_eq, dInF_eq, coFF_eq, coF2F_eq, eLcF_eq, eLc2F_eq, qp_convergents]
  rfl
def L8 : SF := (sIf (tOr' (tB' (bin (pInB not) (eTup (aCons (nm 5) (aCons (nm 6) aNil))) (nm 9))) (tOr' (tB' (bin pNe (ixN' 4 (un pNeg (kE (.int 1)))) (bin pMul (kE (.int 2)) (ixN' 3 (kE (.int 0)))))) (tOr' (tB' (bin pNe (lenN 3) (kE (.int 1)))) (tB' (bin pNe (eSl (nm 4) oNo (oSo (un pNeg (kE (.int 1))))) (eRevT (eSl (nm 4) oNo (oSo (un pNeg (kE (.int 1))))))))))) (sRet (kE (.bool false))) sSkip)
noncomputable def M8 : SF := (sIf (tOr' (tB' (bin (pInB not) (eTup (aCons (nmF 5) (aCons (nmF 6) aNil))) (nmF 9))) (tOr' (tB' (bin pNe (ixNPF 4 (un pNeg (kE (.int 1)))) (bin pMul (kE (.int 2)) (ixNPF 3 (kE (.int 0)))))) (tOr' (tB' (bin pNe (lenNF 3) (kE (.int 1)))) (tB' (bin pNe (eSl (nmF 4) oNo (oSo (un pNeg (kE (.int 1))))) (eRevT (eSl (nmF 4) oNo (oSo (un pNeg (kE (.int 1))))))))))) (sRet (kE (.bool false))) sSkip)
theorem ML8 : M8 = L8 := by
  simp only [M8, setVF_eq, nmF_eq, asgF_eq, asgOF_eq, bNmF_eq, asg2F_eq, augF_eq, contF_eq, pLenF_eq, pIxF_eq, ixNPF_eq, lenNF_eq, mineF_eq, putMF_eq, isLF_eq, appendF_eq, pop0F_eq, popAtF_eq, extendF_eq, setIxF_eq, augIxF_eq, callIOF_eq, wipeEF_eq, ioFF_eq, putIxF_eq, dIxF_eq, dInF_eq, coFF_eq, coF2F_eq, eLcF_eq, eLc2F_eq]
  rfl
def L9 : SF := (sIf (tAn (tB' (bin pLt (nm 6) (kE (.int 300)))) (tB' (bin pNe (callF p_best_paper (aCons (eTup (aCons (kE (.int 0)) (aCons (nm 2) (aCons (kE (.int 1)) aNil)))) (aCons (nm 5) (aCons (nm 6) aNil)))) (eTup (aCons (kE (.str "best")) aNil))))) (sRet (kE (.bool false))) sSkip)
noncomputable def M9 : SF := (sIf (tAn (tB' (bin pLt (nmF 6) (kE (.int 300)))) (tB' (bin pNe (callF q_best_paper (aCons (eTup (aCons (kE (.int 0)) (aCons (nmF 2) (aCons (kE (.int 1)) aNil)))) (aCons (nmF 5) (aCons (nmF 6) aNil)))) (eTup (aCons (kE (.str "best")) aNil))))) (sRet (kE (.bool false))) sSkip)
theorem ML9 : M9 = L9 := by
  simp only [M9, setVF_eq, nmF_eq, asgF_eq, asgOF_eq, bNmF_eq, asg2F_eq, augF_eq, contF_eq, pLenF_eq, pIxF_eq, ixNPF_eq, lenNF_eq, mineF_eq, putMF_eq, isLF_eq, appendF_eq, pop0F_eq, popAtF_eq, extendF_eq, setIxF_eq, augIxF_eq, callIOF_eq, wipeEF_eq, ioFF_eq, putIxF_eq, dIxF_eq, dInF_eq, coFF_eq, coF2F_eq, eLcF_eq, eLc2F_eq, qp_best_paper]
  rfl
def L10 : SF := (asg 10 (callF p_minus_paper (aCons (nm 2) aNil)))
noncomputable def M10 : SF := (asgF 10 (callF q_minus_paper (aCons (nmF 2) aNil)))
theorem ML10 : M10 = L10 := by
  simp only [M10, setVF_eq, nmF_eq, asgF_eq, asgOF_eq, bNmF_eq, asg2F_eq, augF_eq, contF_eq, pLenF_eq, pIxF_eq, ixNPF_eq, lenNF_eq, mineF_eq, putMF_eq, isLF_eq, appendF_eq, pop0F_eq, popAtF_eq, extendF_eq, setIxF_eq, augIxF_eq, callIOF_eq, wipeEF_eq, ioFF_eq, putIxF_eq, dIxF_eq, dInF_eq, coFF_eq, coF2F_eq, eLcF_eq, eLc2F_eq, qp_minus_paper]
  rfl
def L11 : SF := (sIf (tOr' (tB' (bin pNe (bin pEq (ixN' 10 (kE (.int 0))) (kE (.str "minus"))) (bin pEq (bin pMod (lenN 4) (kE (.int 2))) (kE (.int 1))))) (tAn (tB' (bin pEq (ixN' 10 (kE (.int 0))) (kE (.str "minus")))) (tB' (bin (pInB not) (eSl (nm 10) (oSo (kE (.int 1))) oNo) (nm 9))))) (sRet (kE (.bool false))) sSkip)
noncomputable def M11 : SF := (sIf (tOr' (tB' (bin pNe (bin pEq (ixNPF 10 (kE (.int 0))) (kE (.str "minus"))) (bin pEq (bin pMod (lenNF 4) (kE (.int 2))) (kE (.int 1))))) (tAn (tB' (bin pEq (ixNPF 10 (kE (.int 0))) (kE (.str "minus")))) (tB' (bin (pInB not) (eSl (nmF 10) (oSo (kE (.int 1))) oNo) (nmF 9))))) (sRet (kE (.bool false))) sSkip)
theorem ML11 : M11 = L11 := by
  simp only [M11, setVF_eq, nmF_eq, asgF_eq, asgOF_eq, bNmF_eq, asg2F_eq, augF_eq, contF_eq, pLenF_eq, pIxF_eq, ixNPF_eq, lenNF_eq, mineF_eq, putMF_eq, isLF_eq, appendF_eq, pop0F_eq, popAtF_eq, extendF_eq, setIxF_eq, augIxF_eq, callIOF_eq, wipeEF_eq, ioFF_eq, putIxF_eq, dIxF_eq, dInF_eq, coFF_eq, coF2F_eq, eLcF_eq, eLc2F_eq]
  rfl
def L12 : SF := (asg 11 (callF p_near (aCons (nm 2) aNil)))
noncomputable def M12 : SF := (asgF 11 (callF q_near (aCons (nmF 2) aNil)))
theorem ML12 : M12 = L12 := by
  simp only [M12, setVF_eq, nmF_eq, asgF_eq, asgOF_eq, bNmF_eq, asg2F_eq, augF_eq, contF_eq, pLenF_eq, pIxF_eq, ixNPF_eq, lenNF_eq, mineF_eq, putMF_eq, isLF_eq, appendF_eq, pop0F_eq, popAtF_eq, extendF_eq, setIxF_eq, augIxF_eq, callIOF_eq, wipeEF_eq, ioFF_eq, putIxF_eq, dIxF_eq, dInF_eq, coFF_eq, coF2F_eq, eLcF_eq, eLc2F_eq, qp_near]
  rfl
def L13 : SF := (sIf (tOr' (tB' (bin (pInB not) (kE (.int 1)) (nm 11))) (tB' (bin pNe (bin (pInB id) (un pNeg (kE (.int 1))) (nm 11)) (bin pEq (ixN' 10 (kE (.int 0))) (kE (.str "minus")))))) (sRet (kE (.bool false))) sSkip)
noncomputable def M13 : SF := (sIf (tOr' (tB' (bin (pInB not) (kE (.int 1)) (nmF 11))) (tB' (bin pNe (bin (pInB id) (un pNeg (kE (.int 1))) (nmF 11)) (bin pEq (ixNPF 10 (kE (.int 0))) (kE (.str "minus")))))) (sRet (kE (.bool false))) sSkip)
theorem ML13 : M13 = L13 := by
  simp only [M13, setVF_eq, nmF_eq, asgF_eq, asgOF_eq, bNmF_eq, asg2F_eq, augF_eq, contF_eq, pLenF_eq, pIxF_eq, ixNPF_eq, lenNF_eq, mineF_eq, putMF_eq, isLF_eq, appendF_eq, pop0F_eq, popAtF_eq, extendF_eq, setIxF_eq, augIxF_eq, callIOF_eq, wipeEF_eq, ioFF_eq, putIxF_eq, dIxF_eq, dInF_eq, coFF_eq, coF2F_eq, eLcF_eq, eLc2F_eq]
  rfl
def L14 : SF := (sRet (vAn (bin pEq (bin pIx (callF p_tail_paper (aCons (eTup (aCons (kE (.int 0)) (aCons (nm 2) (aCons (kE (.int 1)) aNil)))) (aCons (eTup (aCons (ixN' 3 (kE (.int 0))) (aCons (nm 2) (aCons (kE (.int 1)) aNil)))) aNil))) (kE (.int 0))) (kE (.str "tail"))) (bin pEq (bin pIx (callF p_tail_paper (aCons (eTup (aCons (kE (.int 0)) (aCons (nm 2) (aCons (kE (.int 1)) aNil)))) (aCons (eTup (aCons (kE (.int 0)) (aCons (nm 2) (aCons (nm 2) aNil)))) aNil))) (kE (.int 0))) (kE (.str "tail")))))
noncomputable def M14 : SF := (sRet (vAn (bin pEq (bin pIxF (callF q_tail_paper (aCons (eTup (aCons (kE (.int 0)) (aCons (nmF 2) (aCons (kE (.int 1)) aNil)))) (aCons (eTup (aCons (ixNPF 3 (kE (.int 0))) (aCons (nmF 2) (aCons (kE (.int 1)) aNil)))) aNil))) (kE (.int 0))) (kE (.str "tail"))) (bin pEq (bin pIxF (callF q_tail_paper (aCons (eTup (aCons (kE (.int 0)) (aCons (nmF 2) (aCons (kE (.int 1)) aNil)))) (aCons (eTup (aCons (kE (.int 0)) (aCons (nmF 2) (aCons (nmF 2) aNil)))) aNil))) (kE (.int 0))) (kE (.str "tail")))))
theorem ML14 : M14 = L14 := by
  simp only [M14, setVF_eq, nmF_eq, asgF_eq, asgOF_eq, bNmF_eq, asg2F_eq, augF_eq, contF_eq, pLenF_eq, pIxF_eq, ixNPF_eq, lenNF_eq, mineF_eq, putMF_eq, isLF_eq, appendF_eq, pop0F_eq, popAtF_eq, extendF_eq, setIxF_eq, augIxF_eq, callIOF_eq, wipeEF_eq, ioFF_eq, putIxF_eq, dIxF_eq, dInF_eq, coFF_eq, coF2F_eq, eLcF_eq, eLc2F_eq, qp_tail_paper]
  rfl
theorem b_law_seq : b_law = sSeq L0 (sSeq L1 (sSeq L2 (sSeq L3 (sSeq L4 (sSeq L5 (sSeq L6 (sSeq L7 (sSeq L8 (sSeq L9 (sSeq L10 (sSeq L11 (sSeq L12 (sSeq L13 L14))))))))))))) := rfl
/-- a draw out of the pool at slot 1 -/
theorem drawE {c : Nat} {p : PV} {m : Int} (hp : PoolOk c p) (hc : c < 100000 := by decide) (hm : 0 < m := by decide) (hm2 : m.natAbs.log2 < 9000 := by decide) : ∃ v p', 0 ≤ v ∧ v < m ∧ PoolOk (c + 1) p' ∧ ∀ (s : Sl) (r : Ev), callIO 1 p__law_draw (aCons (kE (.int m)) aNil) (s :: .ow p :: r) = some (.int v, s :: .ow p' :: r) := by
  obtain ⟨v, p', e, h0, h1, q⟩ := draw_ok hp hc hm hm2
  refine ⟨v, p', h0, h1, q, fun s r => ?_⟩
  simp [callIO, Fx.mine, aCons, kE, aNil, e, putM]

theorem aCons_some {f : EF} {h : AF} {e e1 e2 : Ev} {d : PV} {ds : List PV} (hf : f e = some (d, e1)) (hh : h e1 = some (ds, e2)) : aCons f h e = some (d :: ds, e2) := by
  unfold aCons
  rw [hf]
  dsimp only
  rw [hh]

theorem sFor_of {f : AF} {bi : BF} {b : SF} {e e1 : Ev} {ds : List PV} {o : Option Out} (hw : f e = some (ds, e1)) (h : foF bi b ds e1 = o) : sFor f bi b e = o := by
  unfold sFor
  rw [hw]
  exact h

def isT : Option Out → Bool
  | some (.rt (.bool true) _) => true
  | _ => false
theorem isT_of {o : Option Out} (h : isT o = true) : ∃ e, o = some (.rt (.bool true) e) := by
  unfold isT at h
  split at h
  · exact ⟨_, rfl⟩
  · cases h

theorem seq1 {a r : SF} {e e' : Ev} (h : a e = some (.nx e')) : sSeq a r e = r e' := by
  unfold sSeq
  rw [h]

theorem runP_rt {n k : Nat} {b : SF} {ps : List PV} {d : PV} {e : Ev} (hl : ps.length = k ∧ k ≤ n) (h : b (start0 n ps) = some (.rt d e)) : runP n k b ps = some d := by
  unfold runP
  rw [if_pos hl, h]

end Fx

namespace Fx
open PySem PySem.Spec L2
open PyProof.Rows hiding St
def okD (d : Int) : Prop := ∀ (s : Sl) (P : PV), isT (sSeq M2 (sSeq M3 (sSeq M4 (sSeq M5 (sSeq M6 (sSeq M7 (sSeq M8 (sSeq M9 (sSeq M10 (sSeq M11 (sSeq M12 (sSeq M13 M14))))))))))) [s, .ow P, .va (.int d), .no, .no, .no, .no, .no, .no, .no, .no, .no, .no, .no]) = true
theorem e_2 : okD 2 := fun s P => by kernel_rfl
theorem e_3 : okD 3 := fun s P => by kernel_rfl
theorem e_4 : okD 4 := fun s P => by kernel_rfl
theorem e_5 : okD 5 := fun s P => by kernel_rfl
theorem e_6 : okD 6 := fun s P => by kernel_rfl
theorem e_7 : okD 7 := fun s P => by kernel_rfl
theorem e_8 : okD 8 := fun s P => by kernel_rfl
theorem e_9 : okD 9 := fun s P => by kernel_rfl
theorem e_10 : okD 10 := fun s P => by kernel_rfl
theorem e_11 : okD 11 := fun s P => by kernel_rfl
theorem e_12 : okD 12 := fun s P => by kernel_rfl
theorem e_13 : okD 13 := fun s P => by kernel_rfl
theorem e_14 : okD 14 := fun s P => by kernel_rfl
theorem e_15 : okD 15 := fun s P => by kernel_rfl
theorem e_16 : okD 16 := fun s P => by kernel_rfl
theorem e_17 : okD 17 := fun s P => by kernel_rfl
theorem e_18 : okD 18 := fun s P => by kernel_rfl
theorem e_19 : okD 19 := fun s P => by kernel_rfl
theorem e_20 : okD 20 := fun s P => by kernel_rfl
theorem e_21 : okD 21 := fun s P => by kernel_rfl
theorem e_22 : okD 22 := fun s P => by kernel_rfl
theorem e_23 : okD 23 := fun s P => by kernel_rfl
theorem e_24 : okD 24 := fun s P => by kernel_rfl
theorem e_25 : okD 25 := fun s P => by kernel_rfl
theorem e_26 : okD 26 := fun s P => by kernel_rfl
theorem e_27 : okD 27 := fun s P => by kernel_rfl
theorem e_28 : okD 28 := fun s P => by kernel_rfl
theorem e_29 : okD 29 := fun s P => by kernel_rfl
theorem e_30 : okD 30 := fun s P => by kernel_rfl
theorem e_31 : okD 31 := fun s P => by kernel_rfl
theorem e_32 : okD 32 := fun s P => by kernel_rfl
theorem e_33 : okD 33 := fun s P => by kernel_rfl
theorem e_34 : okD 34 := fun s P => by kernel_rfl
theorem e_35 : okD 35 := fun s P => by kernel_rfl
theorem e_36 : okD 36 := fun s P => by kernel_rfl
theorem e_37 : okD 37 := fun s P => by kernel_rfl
theorem e_38 : okD 38 := fun s P => by kernel_rfl
theorem e_39 : okD 39 := fun s P => by kernel_rfl
theorem e_40 : okD 40 := fun s P => by kernel_rfl
theorem e_41 : okD 41 := fun s P => by kernel_rfl
theorem e_42 : okD 42 := fun s P => by kernel_rfl
theorem e_43 : okD 43 := fun s P => by kernel_rfl
theorem e_44 : okD 44 := fun s P => by kernel_rfl
theorem e_45 : okD 45 := fun s P => by kernel_rfl
theorem e_46 : okD 46 := fun s P => by kernel_rfl
theorem e_47 : okD 47 := fun s P => by kernel_rfl
theorem e_48 : okD 48 := fun s P => by kernel_rfl
theorem e_49 : okD 49 := fun s P => by kernel_rfl
theorem e_50 : okD 50 := fun s P => by kernel_rfl
theorem e_51 : okD 51 := fun s P => by kernel_rfl
theorem e_52 : okD 52 := fun s P => by kernel_rfl
theorem e_53 : okD 53 := fun s P => by kernel_rfl
theorem e_54 : okD 54 := fun s P => by kernel_rfl
theorem e_55 : okD 55 := fun s P => by kernel_rfl
theorem e_56 : okD 56 := fun s P => by kernel_rfl
theorem e_57 : okD 57 := fun s P => by kernel_rfl
theorem e_58 : okD 58 := fun s P => by kernel_rfl
theorem e_59 : okD 59 := fun s P => by kernel_rfl
theorem e_60 : okD 60 := fun s P => by kernel_rfl
end Fx

namespace Fx
open PySem PySem.Spec L2
open PyProof.Rows hiding St
theorem d_all {d : Int} (h : 2 ≤ d ∧ d ≤ 60) : okD d := by
  have h1 : d = 2 ∨ d = 3 ∨ d = 4 ∨ d = 5 ∨ d = 6 ∨ d = 7 ∨ d = 8 ∨ d = 9 ∨ d = 10 ∨ d = 11 ∨ d = 12 ∨ d = 13 ∨ d = 14 ∨ d = 15 ∨ d = 16 ∨ d = 17 ∨ d = 18 ∨ d = 19 ∨ d = 20 ∨ d = 21 ∨ d = 22 ∨ d = 23 ∨ d = 24 ∨ d = 25 ∨ d = 26 ∨ d = 27 ∨ d = 28 ∨ d = 29 ∨ d = 30 ∨ d = 31 ∨ d = 32 ∨ d = 33 ∨ d = 34 ∨ d = 35 ∨ d = 36 ∨ d = 37 ∨ d = 38 ∨ d = 39 ∨ d = 40 ∨ d = 41 ∨ d = 42 ∨ d = 43 ∨ d = 44 ∨ d = 45 ∨ d = 46 ∨ d = 47 ∨ d = 48 ∨ d = 49 ∨ d = 50 ∨ d = 51 ∨ d = 52 ∨ d = 53 ∨ d = 54 ∨ d = 55 ∨ d = 56 ∨ d = 57 ∨ d = 58 ∨ d = 59 ∨ d = 60 := by omega
  rcases h1 with rfl | rfl | rfl | rfl | rfl | rfl | rfl | rfl | rfl | rfl | rfl | rfl | rfl | rfl | rfl | rfl | rfl | rfl | rfl | rfl | rfl | rfl | rfl | rfl | rfl | rfl | rfl | rfl | rfl | rfl | rfl | rfl | rfl | rfl | rfl | rfl | rfl | rfl | rfl | rfl | rfl | rfl | rfl | rfl | rfl | rfl | rfl | rfl | rfl | rfl | rfl | rfl | rfl | rfl | rfl | rfl | rfl | rfl | rfl
  · exact e_2
  · exact e_3
  · exact e_4
  · exact e_5
  · exact e_6
  · exact e_7
  · exact e_8
  · exact e_9
  · exact e_10
  · exact e_11
  · exact e_12
  · exact e_13
  · exact e_14
  · exact e_15
  · exact e_16
  · exact e_17
  · exact e_18
  · exact e_19
  · exact e_20
  · exact e_21
  · exact e_22
  · exact e_23
  · exact e_24
  · exact e_25
  · exact e_26
  · exact e_27
  · exact e_28
  · exact e_29
  · exact e_30
  · exact e_31
  · exact e_32
  · exact e_33
  · exact e_34
  · exact e_35
  · exact e_36
  · exact e_37
  · exact e_38
  · exact e_39
  · exact e_40
  · exact e_41
  · exact e_42
  · exact e_43
  · exact e_44
  · exact e_45
  · exact e_46
  · exact e_47
  · exact e_48
  · exact e_49
  · exact e_50
  · exact e_51
  · exact e_52
  · exact e_53
  · exact e_54
  · exact e_55
  · exact e_56
  · exact e_57
  · exact e_58
  · exact e_59
  · exact e_60
theorem all_true (ns : List Int) : p_law [scrD ns] = some (.bool true) := by
  obtain ⟨P0, e0, q0⟩ := pool_ok ns
  generalize scrD ns = S at e0 ⊢
  obtain ⟨v1, P1, a1, b1', q1, d1⟩ := drawE (m := 59) q0
  have E0 : L0 [.va S, .no, .no, .no, .no, .no, .no, .no, .no, .no, .no, .no, .no, .no] = some (.nx [.va S, .ow P0, .no, .no, .no, .no, .no, .no, .no, .no, .no, .no, .no, .no]) := by
    simp [L0, asgO, callF, aCons, nm, aNil, e0, setV]
  have E1 : L1 [.va S, .ow P0, .no, .no, .no, .no, .no, .no, .no, .no, .no, .no, .no, .no] = some (.nx [.va S, .ow P1, .va (.int (2 + v1)), .no, .no, .no, .no, .no, .no, .no, .no, .no, .no, .no]) := by
    have d1' := d1 (.va S) [.no, .no, .no, .no, .no, .no, .no, .no, .no, .no, .no, .no]
    have g3 : bin pAdd (kE (.int 2)) (callIO 1 p__law_draw (aCons (kE (.int 59)) aNil)) [.va S, .ow P0, .no, .no, .no, .no, .no, .no, .no, .no, .no, .no, .no, .no] = some (.int (2 + v1), [.va S, .ow P1, .no, .no, .no, .no, .no, .no, .no, .no, .no, .no, .no, .no]) := by
      unfold bin
      simp only [kE, d1', pAdd_int]
    unfold L1 asg
    simp only [g3]
    rfl
  have hC := d_all (d := 2 + v1) (by omega) (.va S) P1
  rw [ML2, ML3, ML4, ML5, ML6, ML7, ML8, ML9, ML10, ML11, ML12, ML13, ML14] at hC
  obtain ⟨e, hC⟩ := isT_of hC
  have hb : b_law [.va S, .no, .no, .no, .no, .no, .no, .no, .no, .no, .no, .no, .no, .no] = some (.rt (.bool true) e) := by
    rw [b_law_seq, seq1 E0, seq1 E1]
    exact hC
  exact runP_rt ⟨rfl, by decide⟩ hb
end Fx

open PySem PySem.W PySem.Calls PyProof.Rows
theorem PySem.Challenge.cw_numberwright_k56_whole_pells_across_holds : PySem.Challenge.rw_numberwright_k56_whole_pells_across.Holds := by
  exact Fx.holds_of Fx.all_true (by w_witness2)

