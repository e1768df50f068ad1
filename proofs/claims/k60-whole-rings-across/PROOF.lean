import PyProof.Rows.All
import Wide.All
import OpenK.AllK
import Wide.FinOn
import HandS.ForMost
import HandS.Wide
import HandS.WideMore
import HandS.Gcd
import HandS.SortInts
import HandS.EndTab
import HandS.AnyAll
import HandS.IsInst
import HandS.Rev
import HandS.Star
import KE.GoesEnum
import HandS.Head0
import HandS.Head1
import HandS.Head2
import HandS.Head3
import HandS.HeadEnd
import HandS.HeadHook1
import HandS.HeadHook2
import KE.KStateDown
import Lean
import PySem.Challenge.RW_numberwright_k60_whole_rings_across
set_option Elab.async false
set_option linter.all false
set_option maxRecDepth 100000
set_option maxHeartbeats 0
namespace Fx
open PySem PySem.Spec L2
open PyProof.Rows hiding St

abbrev PV := PyData
abbrev St := L2.St
/-- a key as a value -/
def kD : Key → PV
  | .inl i => .int i
  | .inr x => .str x
mutual
/-- the value v stands, in the frozen part F, for the plain value d -/
inductive Rep (K : PySem.W.Frag) (F : Hp) : V → PV → Prop
  | non : Rep K F .non .none
  | bl (b : Bool) : Rep K F (.bl b) (.bool b)
  | int (i : Int) : Rep K F (.int i) (.int i)
  | str (x : Str) : Rep K F (.str x) (.str x)
  | lst {a : Addr} {xs : List V} {ds : List PV} : F a = some (.lst xs) → Reps K F xs ds → Rep K F (.ref a) (.list ds)
  | tup {a : Addr} {xs : List V} {ds : List PV} : SqT K F a xs → Reps K F xs ds → Rep K F (.ref a) (.tuple ds)
  | dk {a : Addr} {kvs : List (Key × V)} {ds : List (PV × PV)} : F a = some (.dK kvs) → RepK K F kvs ds → Rep K F (.ref a) (.dict ds)
  | dt {a : Addr} {kvs : List (List Key × V)} {ds : List (PV × PV)} : F a = some (.dT kvs) → RepT K F kvs ds → Rep K F (.ref a) (.dict ((.none, .none) :: ds))
  | lk {a : Addr} {xs : List V} {ds : List PV} : SqL K F a xs → Reps K F xs ds → Rep K F (.ref a) (.dict [(.bool true, .list ds)])
inductive Reps (K : PySem.W.Frag) (F : Hp) : List V → List PV → Prop
  | nil : Reps K F [] []
  | cons {v : V} {vs : List V} {d : PV} {ds : List PV} : Rep K F v d → Reps K F vs ds → Reps K F (v :: vs) (d :: ds)
inductive RepK (K : PySem.W.Frag) (F : Hp) : List (Key × V) → List (PV × PV) → Prop
  | nil : RepK K F [] []
  | cons {k : Key} {v : V} {vs : List (Key × V)} {d : PV} {ds : List (PV × PV)} : Rep K F v d → RepK K F vs ds → RepK K F ((k, v) :: vs) ((kD k, d) :: ds)
inductive RepT (K : PySem.W.Frag) (F : Hp) : List (List Key × V) → List (PV × PV) → Prop
  | nil : RepT K F [] []
  | cons {k : List Key} {v : V} {vs : List (List Key × V)} {d : PV} {ds : List (PV × PV)} : Rep K F v d → RepT K F vs ds → RepT K F ((k, v) :: vs) ((.tuple (k.map kD), d) :: ds)
end

section
variable {K : PySem.W.Frag} {F F' : Hp}
theorem SqL.mono {a : Addr} {xs : List V} (e : Same F F') (h : SqL K F a xs) : SqL K F' a xs := e.seq h
theorem SqT.mono {a : Addr} {xs : List V} (e : Same F F') (h : SqT K F a xs) : SqT K F' a xs := by
  rcases h with (h | ⟨o, h⟩) | h
  · exact .inl (.inl (e _ _ h))
  · exact .inl (.inr ⟨o, e _ _ h⟩)
  · exact .inr h
mutual
theorem Rep.mono (e : Same F F') : ∀ {v : V} {d : PV}, Rep K F v d → Rep K F' v d
  | _, _, .non => .non
  | _, _, .bl b => .bl b
  | _, _, .int i => .int i
  | _, _, .str x => .str x
  | _, _, .lst h r => .lst (e _ _ h) (Reps.mono e r)
  | _, _, .tup h r => .tup (SqT.mono e h) (Reps.mono e r)
  | _, _, .dk h r => .dk (e _ _ h) (RepK.mono e r)
  | _, _, .dt h r => .dt (e _ _ h) (RepT.mono e r)
  | _, _, .lk h r => .lk (SqL.mono e h) (Reps.mono e r)
theorem Reps.mono (e : Same F F') : ∀ {v : List V} {d : List PV}, Reps K F v d → Reps K F' v d
  | _, _, .nil => .nil
  | _, _, .cons h r => .cons (Rep.mono e h) (Reps.mono e r)
theorem RepK.mono (e : Same F F') : ∀ {v : List (Key × V)} {d : List (PV × PV)}, RepK K F v d → RepK K F' v d
  | _, _, .nil => .nil
  | _, _, .cons h r => .cons (Rep.mono e h) (RepK.mono e r)
theorem RepT.mono (e : Same F F') : ∀ {v : List (List Key × V)} {d : List (PV × PV)}, RepT K F v d → RepT K F' v d
  | _, _, .nil => .nil
  | _, _, .cons h r => .cons (Rep.mono e h) (RepT.mono e r)
end
theorem Reps.len : ∀ {xs : List V} {ds : List PV}, Reps K F xs ds → xs.length = ds.length
  | _, _, .nil => rfl
  | _, _, .cons _ r => by simp [Reps.len r]
theorem Reps.get : ∀ {xs : List V} {ds : List PV} {i : Nat} {d : PV}, Reps K F xs ds → ds[i]? = some d → ∃ v, xs[i]? = some v ∧ Rep K F v d
  | _, _, _, _, .nil, h => by simp at h
  | _, _, 0, _, .cons r _, h => by simp at h; subst h; exact ⟨_, rfl, r⟩
  | _, _, i + 1, _, .cons _ r, h => by
    obtain ⟨v, h1, h2⟩ := Reps.get (i := i) r (by simpa using h)
    exact ⟨v, by simpa using h1, h2⟩
theorem Reps.append : ∀ {xs ys : List V} {ds es : List PV}, Reps K F xs ds → Reps K F ys es → Reps K F (xs ++ ys) (ds ++ es)
  | _, _, _, _, .nil, s => s
  | _, _, _, _, .cons r t, s => .cons r (Reps.append t s)
theorem Reps.take : ∀ {xs : List V} {ds : List PV} (n : Nat), Reps K F xs ds → Reps K F (xs.take n) (ds.take n)
  | _, _, 0, _ => .nil
  | _, _, _ + 1, .nil => .nil
  | _, _, n + 1, .cons r t => .cons r (Reps.take n t)
theorem Reps.drop : ∀ {xs : List V} {ds : List PV} (n : Nat), Reps K F xs ds → Reps K F (xs.drop n) (ds.drop n)
  | _, _, 0, r => r
  | _, _, _ + 1, .nil => .nil
  | _, _, n + 1, .cons _ t => Reps.drop n t
theorem Reps.set {v : V} {d : PV} (r : Rep K F v d) : ∀ {xs : List V} {ds : List PV} (i : Nat), Reps K F xs ds → Reps K F (xs.set i v) (ds.set i d)
  | _, _, _, .nil => .nil
  | _, _, 0, .cons _ t => .cons r t
  | _, _, i + 1, .cons q t => .cons q (Reps.set r i t)
theorem Reps.one {v : V} {d : PV} (r : Rep K F v d) : Reps K F [v] [d] := .cons r .nil
theorem Reps.reverse : ∀ {xs : List V} {ds : List PV}, Reps K F xs ds → Reps K F xs.reverse ds.reverse
  | _, _, .nil => .nil
  | _, _, .cons r t => by
    rw [List.reverse_cons, List.reverse_cons]
    exact (Reps.reverse t).append (.one r)
end

/-- what a local name holds: nothing; a value; an object of its own (may be changed); the caller's object (may be changed) -/
inductive Sl where
  | no | va (d : PV) | ow (d : PV) | io (d : PV)
abbrev Ev := List Sl

inductive Own (K : PySem.W.Frag) (F H : Hp) : Addr → PV → Prop
  | lst {a : Addr} {xs : List V} {ds : List PV} : H a = some (.lst xs) → Reps K F xs ds → Own K F H a (.list ds)
  | dk {a : Addr} {kvs : List (Key × V)} {ds : List (PV × PV)} : H a = some (.dK kvs) → RepK K F kvs ds → Own K F H a (.dict ds)
  | dt {a : Addr} {kvs : List (List Key × V)} {ds : List (PV × PV)} : H a = some (.dT kvs) → RepT K F kvs ds → Own K F H a (.dict ((.none, .none) :: ds))
theorem Own.mono {K : PySem.W.Frag} {F F' H H' : Hp} {a : Addr} {d : PV} (e : Same F F') (k : H' a = H a) : Own K F H a d → Own K F' H' a d
  | .lst h r => .lst (k.trans h) (r.mono e)
  | .dk h r => .dk (k.trans h) (r.mono e)
  | .dt h r => .dt (k.trans h) (r.mono e)
theorem Own.at_ {K : PySem.W.Frag} {F H : Hp} {a : Addr} {d : PV} : Own K F H a d → ∃ o, H a = some o ∧ ∀ ps, o ≠ .tbl ps
  | .lst h _ => ⟨_, h, fun _ z => nomatch z⟩
  | .dk h _ => ⟨_, h, fun _ z => nomatch z⟩
  | .dt h _ => ⟨_, h, fun _ z => nomatch z⟩

/-- the entry: the heap, its frozen part, the caller's objects that may be changed (slot, address); objects in the making -/
structure Gh where
  H0 : Hp
  F0 : Hp
  io : List (Nat × Addr)
  tmp : List (Addr × HO)

def owns (env : Ev) (i : Nat) : Prop := ∃ d : PV, env[i]? = some (.ow d) ∨ env[i]? = some (.io d)

/-- where a def's run stands -/
structure Rel (T : List Addr) (K : PySem.W.Frag) (g : Gh) (F H : Hp) (σ : St) (env : Ev) : Prop where
  len : env.length = σ.length
  sub : Same F H
  f0 : Same g.F0 F
  new : ∀ (a : Addr) (o : HO), F a = some o → g.F0 a = some o ∨ g.H0 a = none
  keep : ∀ (a : Addr) (o : HO), g.H0 a = some o → a ∉ T → (∀ i : Nat, (i, a) ∉ g.io) → H a = some o
  tab : ∀ P ∈ T, GxR.TabG H P
  nt : ∀ P ∈ T, F P = none
  va : ∀ (i : Nat) (d : PV), env[i]? = some (.va d) → ∃ v, σ[i]? = some (some v) ∧ Rep K F v d
  ow : ∀ (i : Nat) (d : PV), env[i]? = some (.ow d) → ∃ a, σ[i]? = some (some (.ref a)) ∧ F a = none ∧ g.H0 a = none ∧ Own K F H a d
  io : ∀ (i : Nat) (d : PV), env[i]? = some (.io d) → ∃ a, (i, a) ∈ g.io ∧ σ[i]? = some (some (.ref a)) ∧ F a = none ∧ Own K F H a d
  iok : ∀ (i : Nat) (a : Addr), (i, a) ∈ g.io → σ[i]? = some (some (.ref a)) ∧ ∃ d, env[i]? = some (.io d)
  tm : ∀ (a : Addr) (o : HO), (a, o) ∈ g.tmp → H a = some o ∧ F a = none ∧ (∀ ps, o ≠ .tbl ps) ∧ ∀ i : Nat, owns env i → σ[i]? ≠ some (some (.ref a))
  sep : ∀ (i j : Nat) (a : Addr), owns env i → owns env j → σ[i]? = some (some (.ref a)) → σ[j]? = some (some (.ref a)) → i = j

/-- no name owns it, it is not in the making -/
def Alone (g : Gh) (env : Ev) (σ : St) (a : Addr) : Prop := (∀ i, owns env i → σ[i]? ≠ some (some (.ref a))) ∧ ∀ o, (a, o) ∉ g.tmp
section
variable {T : List Addr} {K : PySem.W.Frag} {g : Gh} {F H : Hp} {σ : St} {env : Ev}
theorem Same.upd {H : Hp} {p : Addr} {o : HO} (h : H p = none) : Same H (upd H p o) := fun b x e => by
  rw [upd_ne (ne_of_none e h)]
  exact e
theorem Rel.fresh (R : Rel T K g F H σ env) {p : Addr} (h : H p = none) : g.H0 p = none ∧ p ∉ T ∧ F p = none := by
  have nT : p ∉ T := fun z => by
    obtain ⟨ps, e, _⟩ := R.tab p z
    rw [h] at e; cases e
  refine ⟨?_, nT, R.sub.free h⟩
  cases q : g.H0 p with
  | none => rfl
  | some o =>
    by_cases hio : ∃ i, (i, p) ∈ g.io
    · obtain ⟨i, hi⟩ := hio
      obtain ⟨h1, d, h2⟩ := R.iok i p hi
      obtain ⟨a, _, e1, _, ho⟩ := R.io i d h2
      rw [h1] at e1
      cases e1
      obtain ⟨o', ho', _⟩ := ho.at_
      rw [h] at ho'; cases ho'
    · have := R.keep p o q nT fun i z => hio ⟨i, z⟩
      rw [h] at this; cases this
/-- an object is laid, nothing said of it -/
theorem Rel.laid (R : Rel T K g F H σ env) {p : Addr} {o : HO} (h : H p = none) : Rel T K g F (upd H p o) σ env := by
  obtain ⟨h0, nT, hF⟩ := R.fresh h
  have ne : ∀ {a : Addr} {d : PV}, Own K F H a d → a ≠ p := fun ho z => by
    obtain ⟨o', e, _⟩ := ho.at_
    rw [z, h] at e; cases e
  refine ⟨R.len, R.sub.trans (Same.upd h), R.f0, R.new, fun a o' e n1 n2 => ?_, fun P hP => ?_, R.nt, R.va, fun i d e => ?_, fun i d e => ?_, R.iok, fun a o' e => ?_, R.sep⟩
  · have : a ≠ p := fun z => by rw [z, h0] at e; cases e
    rw [upd_ne this]
    exact R.keep a o' e n1 n2
  · have : P ≠ p := fun z => nT (z ▸ hP)
    obtain ⟨ps, e, t⟩ := R.tab P hP
    exact ⟨ps, by rw [upd_ne this]; exact e, t⟩
  · obtain ⟨a, e1, e2, e3, ho⟩ := R.ow i d e
    exact ⟨a, e1, e2, e3, ho.mono (Same.refl _) (upd_ne (ne ho))⟩
  · obtain ⟨a, e0, e1, e2, ho⟩ := R.io i d e
    exact ⟨a, e0, e1, e2, ho.mono (Same.refl _) (upd_ne (ne ho))⟩
  · obtain ⟨t1, t2, t3, t4⟩ := R.tm a o' e
    exact ⟨by rw [upd_ne (ne_of_none t1 h)]; exact t1, t2, t3, t4⟩
/-- an object that no name owns is frozen -/
theorem Rel.froze (R : Rel T K g F H σ env) {p : Addr} {o : HO} (hF : F p = none) (h : H p = some o) (h0 : g.H0 p = none) (nT : p ∉ T) (no2 : Alone g env σ p) :
    Rel T K g (upd F p o) H σ env ∧ Same F (upd F p o) := by
  have no := no2.1
  have sF : Same F (upd F p o) := Same.upd hF
  refine ⟨⟨R.len, fun a o' e => ?_, R.f0.trans sF, fun a o' e => ?_, R.keep, R.tab, fun P hP => ?_, fun i d e => ?_, fun i d e => ?_, fun i d e => ?_, R.iok, fun a o' e => ?_, R.sep⟩, sF⟩
  · by_cases ha : a = p
    · rw [ha, upd_same] at e
      rw [ha, h]; exact e
    · rw [upd_ne ha] at e
      exact R.sub a o' e
  · by_cases ha : a = p
    · rw [ha]; exact .inr h0
    · rw [upd_ne ha] at e
      exact R.new a o' e
  · rw [upd_ne (fun (z : P = _) => nT (by rw [← z]; exact hP))]
    exact R.nt P hP
  · obtain ⟨v, e1, r⟩ := R.va i d e
    exact ⟨v, e1, r.mono sF⟩
  · obtain ⟨a, e1, e2, e3, ho⟩ := R.ow i d e
    have : a ≠ p := fun z => no i ⟨d, .inl e⟩ (by rw [e1, z])
    exact ⟨a, e1, by rw [upd_ne this]; exact e2, e3, ho.mono sF rfl⟩
  · obtain ⟨a, e0, e1, e2, ho⟩ := R.io i d e
    have : a ≠ p := fun z => no i ⟨d, .inr e⟩ (by rw [e1, z])
    exact ⟨a, e0, e1, by rw [upd_ne this]; exact e2, ho.mono sF rfl⟩
  · obtain ⟨t1, t2, t3, t4⟩ := R.tm a o' e
    exact ⟨t1, by rw [upd_ne (fun (z : a = p) => no2.2 o' (by rw [← z]; exact e))]; exact t2, t3, t4⟩
theorem Rel.own_ne (R : Rel T K g F H σ env) {p : Addr} (h : H p = none) : Alone g env σ p := by
  refine ⟨fun i ⟨d, hd⟩ e => ?_, fun o z => ?_⟩
  · rcases hd with hd | hd
    · obtain ⟨a, e1, _, _, ho⟩ := R.ow i d hd
      obtain ⟨o', q, _⟩ := ho.at_
      rw [e] at e1; cases e1
      rw [h] at q; cases q
    · obtain ⟨a, _, e1, _, ho⟩ := R.io i d hd
      obtain ⟨o', q, _⟩ := ho.at_
      rw [e] at e1; cases e1
      rw [h] at q; cases q
  · have q := (R.tm p o z).1
    rw [h] at q; cases q
/-- a new object is laid and frozen -/
theorem Rel.laidF (R : Rel T K g F H σ env) {p : Addr} {o : HO} (h : H p = none) : Rel T K g (upd F p o) (upd H p o) σ env ∧ Same F (upd F p o) :=
  let ⟨h0, nT, hF⟩ := R.fresh h
  (R.laid h).froze hF upd_same h0 nT (R.own_ne h)
/-- a name's own object is frozen -/
theorem Rel.still (R : Rel T K g F H σ env) {i : Nat} {d : PV} (e : env[i]? = some (.ow d)) :
    ∃ F' v, Rel T K g F' H σ (env.set i (.va d)) ∧ Same F F' ∧ σ[i]? = some (some v) ∧ Rep K F' v d := by
  obtain ⟨a, e1, e2, e3, ho⟩ := R.ow i d e
  obtain ⟨o, hH, hnt⟩ := ho.at_
  have hi : i < env.length := (List.getElem?_eq_some_iff.mp e).1
  have nT : a ∉ T := fun z => by
    obtain ⟨ps, q, _⟩ := R.tab a z
    rw [hH] at q; cases q
    exact hnt ps rfl
  have get : ∀ j s, j ≠ i → (env.set i (.va d))[j]? = some s → env[j]? = some s := fun j s hj q => by
    rw [List.getElem?_set_ne (Ne.symm hj)] at q; exact q
  have own' : ∀ j, owns (env.set i (.va d)) j → j ≠ i ∧ owns env j := fun j ⟨d', hd'⟩ => by
    have hj : j ≠ i := fun z => by
      rw [z, List.getElem?_set_self hi] at hd'
      rcases hd' with q | q <;> cases q
    exact ⟨hj, d', hd'.imp (get j _ hj) (get j _ hj)⟩
  have R1 : Rel T K g F H σ (env.set i (.va d)) → True := fun _ => trivial
  -- first forget the name's own
  have sF : Same F (upd F a o) := Same.upd e2
  have rep : Rep K (upd F a o) (.ref a) d := by
    cases ho with
    | lst h r =>
      rw [h] at hH; cases hH
      exact .lst upd_same (r.mono sF)
    | dk h r =>
      rw [h] at hH; cases hH
      exact .dk upd_same (r.mono sF)
    | dt h r =>
      rw [h] at hH; cases hH
      exact .dt upd_same (r.mono sF)
  have ne : ∀ j b, j ≠ i → owns env j → σ[j]? = some (some (.ref b)) → b ≠ a := fun j b hj oj ej z => by
    subst z
    exact hj (R.sep j i b oj ⟨d, .inl e⟩ ej e1)
  refine ⟨upd F a o, .ref a, ⟨by rw [List.length_set]; exact R.len, fun b o' q => ?_, R.f0.trans sF, fun b o' q => ?_, R.keep, R.tab, fun P hP => ?_, fun j d' q => ?_, fun j d' q => ?_, fun j d' q => ?_, fun j b q => ?_, fun b o' q => ?_, fun j k b q1 q2 => ?_⟩, sF, e1, rep⟩
  · by_cases hb : b = a
    · rw [hb, upd_same] at q
      rw [hb, hH]; exact q
    · rw [upd_ne hb] at q
      exact R.sub b o' q
  · by_cases hb : b = a
    · rw [hb]; exact .inr e3
    · rw [upd_ne hb] at q
      exact R.new b o' q
  · rw [upd_ne (fun (z : P = _) => nT (by rw [← z]; exact hP))]
    exact R.nt P hP
  · by_cases hj : j = i
    · rw [hj, List.getElem?_set_self hi] at q
      cases q
      rw [hj]
      exact ⟨_, e1, rep⟩
    · obtain ⟨v, q1, r⟩ := R.va j d' (get j _ hj q)
      exact ⟨v, q1, r.mono sF⟩
  · have hj : j ≠ i := fun z => by rw [z, List.getElem?_set_self hi] at q; cases q
    obtain ⟨b, q1, q2, q3, ho'⟩ := R.ow j d' (get j _ hj q)
    have : b ≠ a := ne j b hj ⟨d', .inl (get j _ hj q)⟩ q1
    exact ⟨b, q1, by rw [upd_ne this]; exact q2, q3, ho'.mono sF rfl⟩
  · have hj : j ≠ i := fun z => by rw [z, List.getElem?_set_self hi] at q; cases q
    obtain ⟨b, q0, q1, q2, ho'⟩ := R.io j d' (get j _ hj q)
    have : b ≠ a := ne j b hj ⟨d', .inr (get j _ hj q)⟩ q1
    exact ⟨b, q0, q1, by rw [upd_ne this]; exact q2, ho'.mono sF rfl⟩
  · obtain ⟨q1, d', q2⟩ := R.iok j b q
    have hj : j ≠ i := fun z => by rw [z, e] at q2; cases q2
    exact ⟨q1, d', by rw [List.getElem?_set_ne (Ne.symm hj)]; exact q2⟩
  · obtain ⟨t1, t2, t3, t4⟩ := R.tm b o' q
    have hb : b ≠ a := fun z => t4 i ⟨d, .inl e⟩ (by rw [e1, z])
    exact ⟨t1, by rw [upd_ne hb]; exact t2, t3, fun j hj => t4 j (own' j hj).2⟩
  · exact R.sep j k b (own' j q1).2 (own' k q2).2
end
end Fx

namespace Fx
open PySem PySem.Spec L2
open PyProof.Rows hiding St

theorem _root_.L2.PE.weak {X : Cx} {e : Expr} {t t' : TE} (h : PE X e t) (w : ∀ σ H Q, t' σ H Q → t σ H Q) : PE X e t' := ⟨fun pins s σ H Q I q => h.run pins s σ H Q I (w σ H Q q)⟩
theorem _root_.L2.PT.weak {X : Cx} {e : Expr} {t t' : TT} (h : PT X e t) (w : ∀ σ H Q, t' σ H Q → t σ H Q) : PT X e t' := ⟨fun pins s σ H Q I q => h.run pins s σ H Q I (w σ H Q q)⟩
theorem _root_.L2.PW.weak {X : Cx} {e : Expr} {t t' : TT} (h : PW X e t) (w : ∀ σ H Q, t' σ H Q → t σ H Q) : PW X e t' := ⟨fun wh pins s σ H Q I q => h.run wh pins s σ H Q I (w σ H Q q)⟩
theorem _root_.L2.PA.weak {X : Cx} {e : List Expr} {t t' : TA} (h : PA X e t) (w : ∀ σ H Q, t' σ H Q → t σ H Q) : PA X e t' := ⟨fun pos pins s σ H Q I q => h.run pos pins s σ H Q I (w σ H Q q)⟩
theorem _root_.L2.PS.weak {X : Cx} {e : Stmt} {t t' : TS} (h : PS X e t) (w : ∀ D σ H, t' D σ H → t D σ H) : PS X e t' := ⟨fun pins s σ H D I q => h.run pins s σ H D I (w D σ H q)⟩
theorem _root_.L2.PSs.weak {X : Cx} {e : List Stmt} {t t' : TS} (h : PSs X e t) (w : ∀ D σ H, t' D σ H → t D σ H) : PSs X e t' := ⟨fun pins s σ H D I q => h.run pins s σ H D I (w D σ H q)⟩
theorem _root_.L2.PG.weak {X : Cx} {e : Expr} {t t' : TG} (h : PG X e t) (w : ∀ v σ H Q, t' v σ H Q → t v σ H Q) : PG X e t' := ⟨fun pins s σ H v u Q I r q => h.run pins s σ H v u Q I r (w v σ H Q q)⟩
theorem _root_.L2.PGs.weak {X : Cx} {e : List Expr} {t t' : TGs} (h : PGs X e t) (w : ∀ v σ H Q, t' v σ H Q → t v σ H Q) : PGs X e t' := ⟨fun pins s σ H v u Q I r q => h.run pins s σ H v u Q I r (w v σ H Q q)⟩

theorem wipe_get {σ : St} : ∀ {vs : List Nat} {j : Nat}, (wipe σ vs)[j]? = if j ∈ vs ∧ j < σ.length then some none else σ[j]?
  | [], j => by simp [wipe]
  | v :: vs, j => by
    unfold wipe
    by_cases h : v = j
    · subst h
      by_cases hl : v < σ.length
      · rw [List.getElem?_set_self (by rw [wipe_length]; exact hl), if_pos ⟨List.mem_cons_self, hl⟩]
      · rw [List.getElem?_eq_none (by rw [List.length_set, wipe_length]; omega), if_neg (fun z => hl z.2), List.getElem?_eq_none (by omega)]
    · rw [List.getElem?_set_ne h, wipe_get]
      have : (j ∈ v :: vs) ↔ j ∈ vs := by
        rw [List.mem_cons]
        exact ⟨fun z => z.resolve_left (fun z => h z.symm), .inr⟩
      simp only [this]
theorem wipe_set {σ : St} {i : Nat} {x : Option V} {vs : List Nat} (h : i ∈ vs) : wipe (σ.set i x) vs = wipe σ vs := by
  apply List.ext_getElem?
  intro j
  rw [wipe_get, wipe_get, List.length_set]
  by_cases hj : j = i
  · subst hj
    by_cases hl : j < σ.length
    · rw [if_pos ⟨h, hl⟩, if_pos ⟨h, hl⟩]
    · rw [if_neg (fun z => hl z.2), if_neg (fun z => hl z.2), List.getElem?_eq_none (by rw [List.length_set]; omega), List.getElem?_eq_none (by omega)]
  · rw [List.getElem?_set_ne (Ne.symm hj)]

abbrev EF := Ev → Option (PV × Ev)
abbrev AF := Ev → Option (List PV × Ev)
abbrev TF := Ev → Option (Bool × Ev)
abbrev BF := PV → Ev → Option Ev
inductive Out where
  | nx (e : Ev) | rt (d : PV) (e : Ev) | rf (d : PV) (e : Ev) | bk (e : Ev) | ct (e : Ev)
abbrev SF := Ev → Option Out

section
variable (T : List Addr) (K : PySem.W.Frag)
def RE (f : EF) : TE := fun σ H Q => ∃ g F env d env', Rel T K g F H σ env ∧ f env = some (d, env') ∧ ∀ v H' F', Rel T K g F' H' σ env' → Same F F' → Rep K F' v d → Q v H'
/-- the value is a new object that nobody else holds -/
def RN (f : EF) : TE := fun σ H Q => ∃ g F env d env', Rel T K g F H σ env ∧ f env = some (d, env') ∧
  ∀ a H' F', Rel T K g F' H' σ env' → Same F F' → F' a = none → g.H0 a = none → Alone g env' σ a → Own K F' H' a d → Q (.ref a) H'
def RA (f : AF) : TA := fun σ H Q => ∃ g F env ds env', Rel T K g F H σ env ∧ f env = some (ds, env') ∧ ∀ vs H' F', Rel T K g F' H' σ env' → Same F F' → Reps K F' vs ds → Q vs H'
def RT (f : TF) : TT := fun σ H Q => ∃ g F env b env', Rel T K g F H σ env ∧ f env = some (b, env') ∧ ∀ H' F', Rel T K g F' H' σ env' → Same F F' → Q b H'
def RB (ts : List Nat) (f : BF) : TG := fun v σ H Q => ∃ g F env d env', Rel T K g F H σ env ∧ Rep K F v d ∧ f d env = some env' ∧ ∀ σ' H' F', Rel T K g F' H' σ' env' → Same F F' → (∀ vs : List Nat, (∀ i ∈ ts, i ∈ vs) → wipe σ' vs = wipe σ vs) → Q σ' H'
def RBs (ts : List Nat) (f : List PV → Ev → Option Ev) : TGs := fun vs σ H Q => ∃ g F env ds env', Rel T K g F H σ env ∧ Reps K F vs ds ∧ f ds env = some env' ∧ ∀ σ' H' F', Rel T K g F' H' σ' env' → Same F F' → (∀ vs : List Nat, (∀ i ∈ ts, i ∈ vs) → wipe σ' vs = wipe σ vs) → Q σ' H'
def Post (g : Gh) (F : Hp) (D : Ends) : Out → Prop
  | .nx e => ∀ σ' H' F', Rel T K g F' H' σ' e → Same F F' → D.nx σ' H'
  | .rt d e => ∀ v σ' H' F', Rel T K g F' H' σ' e → Same F F' → Rep K F' v d → D.rt v H'
  | .rf d e => ∀ a σ' H' F', Rel T K g F' H' σ' e → Same F F' → F' a = none → g.H0 a = none → Alone g e σ' a → Own K F' H' a d → D.rt (.ref a) H'
  | .bk e => ∀ σ' H' F', Rel T K g F' H' σ' e → Same F F' → D.bk σ' H'
  | .ct e => ∀ σ' H' F', Rel T K g F' H' σ' e → Same F F' → D.ct σ' H'
def RS (f : SF) : TS := fun D σ H => ∃ g F env out, Rel T K g F H σ env ∧ f env = some out ∧ Post T K g F D out
end
def FE (T : List Addr) (X : Cx) (e : Expr) (f : EF) : Prop := PE X e (RE T X.K f)
def FN (T : List Addr) (X : Cx) (e : Expr) (f : EF) : Prop := PE X e (RN T X.K f)
def FA (T : List Addr) (X : Cx) (e : List Expr) (f : AF) : Prop := PA X e (RA T X.K f)
def FT (T : List Addr) (X : Cx) (e : Expr) (f : TF) : Prop := PT X e (RT T X.K f)
def FW (T : List Addr) (X : Cx) (e : Expr) (f : TF) : Prop := PW X e (RT T X.K f)
def FB (T : List Addr) (X : Cx) (e : Expr) (ts : List Nat) (f : BF) : Prop := PG X e (RB T X.K ts f)
def FBs (T : List Addr) (X : Cx) (e : List Expr) (ts : List Nat) (f : List PV → Ev → Option Ev) : Prop := PGs X e (RBs T X.K ts f)
def FS (T : List Addr) (X : Cx) (st : Stmt) (f : SF) : Prop := PS X st (RS T X.K f)
def FSs (T : List Addr) (X : Cx) (st : List Stmt) (f : SF) : Prop := PSs X st (RS T X.K f)

theorem Post.mono {T : List Addr} {K : PySem.W.Frag} {g : Gh} {F F' : Hp} {D : Ends} (s : Same F F') : ∀ {o : Out}, Post T K g F D o → Post T K g F' D o
  | .nx _, h => fun σ' H' F2 R s2 => h σ' H' F2 R (s.trans s2)
  | .rt _ _, h => fun v σ' H' F2 R s2 => h v σ' H' F2 R (s.trans s2)
  | .rf _ _, h => fun a σ' H' F2 R s2 => h a σ' H' F2 R (s.trans s2)
  | .bk _, h => fun σ' H' F2 R s2 => h σ' H' F2 R (s.trans s2)
  | .ct _, h => fun σ' H' F2 R s2 => h σ' H' F2 R (s.trans s2)

section
variable {T : List Addr} {X : Cx}

def kE (d : PV) : EF := fun env => some (d, env)
theorem fe_val {e : Expr} {v : V} {d : PV} (h : PE X e (tC v)) (r : ∀ F, Rep X.K F v d) : FE T X e (kE d) :=
  h.weak fun σ H Q ⟨g, F, env, d', env', R, e, q⟩ => by
    cases e
    exact q v H F R (Same.refl _) (r F)
theorem fe_int {i : Int} {j : Nat} {pos : Pos} : FE T X (.Constant (.int i) j pos) (kE (.int i)) := fe_val pe_int fun _ => .int i
theorem fe_bl {b : Bool} {j : Nat} {pos : Pos} : FE T X (.Constant (.bool b) j pos) (kE (.bool b)) := fe_val pe_bl fun _ => .bl b
theorem fe_non {j : Nat} {pos : Pos} : FE T X (.Constant .none j pos) (kE .none) := fe_val pe_non fun _ => .non
theorem fe_str {x : Str} {j : Nat} {pos : Pos} : FE T X (.Constant (.str x) j pos) (kE (.str x)) := fe_val pe_str fun _ => .str x

/-- a name's value; its own object is frozen -/
def nm (i : Nat) : EF := fun env => match env[i]? with
  | some (.va d) => some (d, env)
  | some (.ow d) => some (d, env.set i (.va d))
  | _ => none
theorem fe_nm (i : Nat) {x : Str} {pos : Pos} (hN : X.N[i]? = some x := by rfl) (hv : Vis X.env.scope x := by first | exact Or.inl rfl | exact Or.inr (Or.inl rfl) | exact Or.inr (Or.inr rfl))
    (hd : (x == ("__debug__" : Str)) = false := by decide) (hcd : (x == ("__classdict__" : Str)) = false := by decide) : FE T X (.Name x pos) (nm i) :=
  (pe_var hN hv hd hcd).weak fun σ H Q ⟨g, F, env, d', env', R, e, q⟩ => by
    unfold nm at e
    split at e
    · rename_i d h
      cases e
      obtain ⟨v, e1, r⟩ := R.va i _ h
      exact ⟨v, e1, q v H F R (Same.refl _) r⟩
    · rename_i d h
      cases e
      obtain ⟨F', v, R', s, e1, r⟩ := R.still h
      exact ⟨v, e1, q v H F' R' s r⟩
    · cases e

theorem Own.rep {K : PySem.W.Frag} {F H : Hp} {a : Addr} {d : PV} (ho : Own K F H a d) (hF : F a = none) : ∃ o, H a = some o ∧ (∀ ps, o ≠ .tbl ps) ∧ Rep K (upd F a o) (.ref a) d := by
  cases ho with
  | lst h r => exact ⟨_, h, (fun _ z => nomatch z), .lst upd_same (r.mono (Same.upd hF))⟩
  | dk h r => exact ⟨_, h, (fun _ z => nomatch z), .dk upd_same (r.mono (Same.upd hF))⟩
  | dt h r => exact ⟨_, h, (fun _ z => nomatch z), .dt upd_same (r.mono (Same.upd hF))⟩
theorem Rel.notT {K : PySem.W.Frag} {g : Gh} {F H : Hp} {σ : St} {env : Ev} (R : Rel T K g F H σ env) {a : Addr} {o : HO} (h : H a = some o) (n : ∀ ps, o ≠ .tbl ps) : a ∉ T := fun z => by
  obtain ⟨ps, e, _⟩ := R.tab a z
  rw [h] at e; cases e
  exact n ps rfl
theorem FN.fe {e : Expr} {f : EF} (h : FN T X e f) : FE T X e f :=
  PE.weak h fun σ H Q ⟨g, F, env, d, env', R, e, q⟩ => ⟨g, F, env, d, env', R, e, fun a H' F' R' s hF h0 no ho => by
    obtain ⟨o, hH, hn, r⟩ := ho.rep hF
    obtain ⟨R2, s2⟩ := R'.froze hF hH h0 (R'.notT hH hn) no
    exact q _ _ _ R2 (s.trans s2) r⟩

def bin (g : PV → PV → Option PV) (fa fb : EF) : EF := fun env => match fa env with
  | none => none
  | some (a, e1) => match fb e1 with
    | none => none
    | some (b, e2) => match g a b with
      | none => none
      | some r => some (r, e2)
/-- a rule by values keeps to a function of plain values -/
def OpF (T : List Addr) (K : PySem.W.Frag) (r : R2) (g : PV → PV → Option PV) : Prop :=
  ∀ gh F H σ env x y a b d (Q : VK), Rel T K gh F H σ env → Rep K F x a → Rep K F y b → g a b = some d → (∀ v H' F', Rel T K gh F' H' σ env → Same F F' → Rep K F' v d → Q v H') → r x y H Q
theorem re_bin {r : R2} {g : PV → PV → Option PV} {ta tb : TE} {fa fb : EF} {K : PySem.W.Frag} (hg : OpF T K r g) : ∀ σ H Q, RE T K (bin g fa fb) σ H Q → tOp r (RE T K fa) (RE T K fb) σ H Q := by
  rintro σ H Q ⟨gh, F, env, d, env', R, e, q⟩
  unfold bin at e
  split at e
  · cases e
  · rename_i a e1 ea
    split at e
    · cases e
    · rename_i b e2 eb
      split at e
      · cases e
      · rename_i d' eg
        cases e
        refine ⟨gh, F, env, a, e1, R, ea, fun x H1 F1 R1 s1 ra => ⟨gh, F1, e1, b, _, R1, eb, fun y H2 F2 R2 s2 rb => ?_⟩⟩
        exact hg gh F2 H2 σ _ x y a b _ Q R2 (ra.mono s2) rb eg fun v H3 F3 R3 s3 r3 => q v H3 F3 R3 (s1.trans (s2.trans s3)) r3
theorem fe_op {op : Operator} {a b : Expr} {pos : Pos} {r : R2} {g : PV → PV → Option PV} {fa fb : EF} (ho : OpR X (binaryOp op) r) (hg : OpF T X.K r g) (ha : FE T X a fa) (hb : FE T X b fb) : FE T X (.BinOp a op b pos) (bin g fa fb) :=
  (pe_op ho ha hb).weak (re_bin (ta := RE T X.K fa) (tb := RE T X.K fb) hg)
theorem fe_cmp {op : CmpOp} {a b : Expr} {pos : Pos} {r : R2} {g : PV → PV → Option PV} {fa fb : EF} (ho : OpR X (compareOp op) r) (hg : OpF T X.K r g) (ha : FE T X a fa) (hb : FE T X b fb) (hm : behindInMarks op b = false := by first | exact nomark _ | with_unfolding_all rfl) : FE T X (.Compare a [op] [b] pos) (bin g fa fb) :=
  (pe_cmpR ho ha hb hm).weak (re_bin (ta := RE T X.K fa) (tb := RE T X.K fb) hg)
def un (g : PV → Option PV) (fa : EF) : EF := fun env => match fa env with
  | none => none
  | some (a, e1) => match g a with
    | none => none
    | some r => some (r, e1)

/-- a bool as a test -/
def tB' (f : EF) : TF := fun env => match f env with
  | some (.bool b, e) => some (b, e)
  | _ => none
theorem rt_b {f : EF} {K : PySem.W.Frag} : ∀ σ H Q, RT T K (tB' f) σ H Q → tTest (RE T K f) σ H Q := by
  rintro σ H Q ⟨gh, F, env, b, env', R, e, q⟩
  unfold tB' at e
  split at e
  · rename_i b' e' ef
    cases e
    exact ⟨gh, F, env, _, _, R, ef, fun v H1 F1 R1 s1 r1 => by cases r1; exact ⟨_, rfl, q H1 F1 R1 s1⟩⟩
  · cases e
theorem tTest_mono {t t' : TE} (w : ∀ σ H Q, t' σ H Q → t σ H Q) : ∀ σ H Q, tTest t' σ H Q → tTest t σ H Q := fun σ H Q h => w σ H _ h
theorem ft_cmp {op : CmpOp} {a b : Expr} {pos : Pos} {r : R2} {g : PV → PV → Option PV} {fa fb : EF} (ho : OpR X (compareOp op) r) (hg : OpF T X.K r g) (ha : FE T X a fa) (hb : FE T X b fb) (hm : behindInMarks op b = false := by first | exact nomark _ | with_unfolding_all rfl) : FT T X (.Compare a [op] [b] pos) (tB' (bin g fa fb)) :=
  PT.weak (pt_cmpR ho ha hb hm) fun σ H Q h => tTest_mono (re_bin (ta := RE T X.K fa) (tb := RE T X.K fb) hg) σ H Q (rt_b σ H Q h)
/-- an expression whose value is a bool, as a test -/
theorem ft_val {e : Expr} {f : EF} (h : FE T X e f) (he : ∀ whole, isTrue e X.env whole = (do let v ← whole; standAt e.pos; holding [v] (truthy v)) := by intro _; rfl) : FT T X e (tB' f) :=
  PT.weak (pt_val h he) rt_b
def tNt (f : TF) : TF := fun env => match f env with
  | some (b, e) => some (!b, e)
  | none => none
theorem ft_not {a : Expr} {pos : Pos} {f : TF} (h : FT T X a f) : FT T X (.UnaryOp .Not a pos) (tNt f) :=
  PT.weak (pt_not h) fun σ H Q ⟨gh, F, env, b, env', R, e, q⟩ => by
    unfold tNt at e
    split at e
    · rename_i b' e' ef
      cases e
      exact ⟨gh, F, env, _, _, R, ef, q⟩
    · cases e
def tAn (f h : TF) : TF := fun env => match f env with
  | some (true, e) => h e
  | some (false, e) => some (false, e)
  | none => none
def tOr' (f h : TF) : TF := fun env => match f env with
  | some (true, e) => some (true, e)
  | some (false, e) => h e
  | none => none
theorem fw_and1 {a : Expr} {pos : Pos} {f : TF} (h : FT T X a f) : FW T X (.BoolOp .And [a] pos) f := pw_and1 h
theorem fw_or1 {a : Expr} {pos : Pos} {f : TF} (h : FT T X a f) : FW T X (.BoolOp .Or [a] pos) f := pw_or1 h
theorem rt_and {f h : TF} {K : PySem.W.Frag} : ∀ σ H Q, RT T K (tAn f h) σ H Q → tAnd (RT T K f) (RT T K h) σ H Q := by
  rintro σ H Q ⟨gh, F, env, b, env', R, e, q⟩
  unfold tAn at e
  split at e
  · rename_i e1 ef
    exact ⟨gh, F, env, _, _, R, ef, fun H1 F1 R1 s1 => iteT ⟨gh, F1, _, _, _, R1, e, fun H2 F2 R2 s2 => q H2 F2 R2 (s1.trans s2)⟩⟩
  · rename_i e1 ef
    cases e
    exact ⟨gh, F, env, _, _, R, ef, fun H1 F1 R1 s1 => iteF (q H1 F1 R1 s1)⟩
  · cases e
theorem rt_or {f h : TF} {K : PySem.W.Frag} : ∀ σ H Q, RT T K (tOr' f h) σ H Q → L2.tOr (RT T K f) (RT T K h) σ H Q := by
  rintro σ H Q ⟨gh, F, env, b, env', R, e, q⟩
  unfold tOr' at e
  split at e
  · rename_i e1 ef
    cases e
    exact ⟨gh, F, env, _, _, R, ef, fun H1 F1 R1 s1 => iteT (q H1 F1 R1 s1)⟩
  · rename_i e1 ef
    exact ⟨gh, F, env, _, _, R, ef, fun H1 F1 R1 s1 => iteF ⟨gh, F1, _, _, _, R1, e, fun H2 F2 R2 s2 => q H2 F2 R2 (s1.trans s2)⟩⟩
  · cases e
theorem fw_and {a b : Expr} {rest : List Expr} {pos : Pos} {f h : TF} (ha : FT T X a f) (hb : FW T X (.BoolOp .And (b :: rest) pos) h) : FW T X (.BoolOp .And (a :: b :: rest) pos) (tAn f h) := (pw_and ha hb).weak rt_and
theorem fw_or {a b : Expr} {rest : List Expr} {pos : Pos} {f h : TF} (ha : FT T X a f) (hb : FW T X (.BoolOp .Or (b :: rest) pos) h) : FW T X (.BoolOp .Or (a :: b :: rest) pos) (tOr' f h) := (pw_or ha hb).weak rt_or
theorem FW.ft {e : Expr} {f : TF} (h : FW T X e f) : FT T X e f := PW.pt h
/-- .. as values -/
def vAn (f h : EF) : EF := fun env => match f env with
  | some (.bool true, e) => h e
  | some (.bool false, e) => some (.bool false, e)
  | _ => none
def vOr (f h : EF) : EF := fun env => match f env with
  | some (.bool true, e) => some (.bool true, e)
  | some (.bool false, e) => h e
  | _ => none
def vNt (f : EF) : EF := fun env => match f env with
  | some (.bool b, e) => some (.bool (!b), e)
  | _ => none
theorem fe_one {op : BoolOp} {a : Expr} {pos : Pos} {f : EF} (h : FE T X a f) : FE T X (.BoolOp op [a] pos) f := pe_one h
theorem fe_and {a b : Expr} {rest : List Expr} {pos : Pos} {f h : EF} (ha : FE T X a f) (hb : FE T X (.BoolOp .And (b :: rest) pos) h) : FE T X (.BoolOp .And (a :: b :: rest) pos) (vAn f h) :=
  (pe_and ha hb).weak fun σ H Q ⟨gh, F, env, d, env', R, e, q⟩ => by
    unfold vAn at e
    split at e
    · rename_i e1 ef
      exact ⟨gh, F, env, _, _, R, ef, fun v H1 F1 R1 s1 r1 => by cases r1; exact ⟨_, rfl, iteT ⟨gh, F1, _, _, _, R1, e, fun w H2 F2 R2 s2 => q w H2 F2 R2 (s1.trans s2)⟩⟩⟩
    · rename_i e1 ef
      cases e
      exact ⟨gh, F, env, _, _, R, ef, fun v H1 F1 R1 s1 r1 => by cases r1; exact ⟨_, rfl, iteF (q _ H1 F1 R1 s1 (.bl false))⟩⟩
    · cases e
theorem fe_or {a b : Expr} {rest : List Expr} {pos : Pos} {f h : EF} (ha : FE T X a f) (hb : FE T X (.BoolOp .Or (b :: rest) pos) h) : FE T X (.BoolOp .Or (a :: b :: rest) pos) (vOr f h) :=
  (pe_or ha hb).weak fun σ H Q ⟨gh, F, env, d, env', R, e, q⟩ => by
    unfold vOr at e
    split at e
    · rename_i e1 ef
      cases e
      exact ⟨gh, F, env, _, _, R, ef, fun v H1 F1 R1 s1 r1 => by cases r1; exact ⟨_, rfl, iteT (q _ H1 F1 R1 s1 (.bl true))⟩⟩
    · rename_i e1 ef
      exact ⟨gh, F, env, _, _, R, ef, fun v H1 F1 R1 s1 r1 => by cases r1; exact ⟨_, rfl, iteF ⟨gh, F1, _, _, _, R1, e, fun w H2 F2 R2 s2 => q w H2 F2 R2 (s1.trans s2)⟩⟩⟩
    · cases e
theorem fe_not {a : Expr} {pos : Pos} {f : EF} (ha : FE T X a f) : FE T X (.UnaryOp .Not a pos) (vNt f) :=
  (pe_not ha).weak fun σ H Q ⟨gh, F, env, d, env', R, e, q⟩ => by
    unfold vNt at e
    split at e
    · rename_i b' e' ef
      cases e
      exact ⟨gh, F, env, _, _, R, ef, fun v H1 F1 R1 s1 r1 => by cases r1; exact ⟨_, rfl, q _ H1 F1 R1 s1 (.bl _)⟩⟩
    · cases e
def eIf (t : TF) (f h : EF) : EF := fun env => match t env with
  | some (true, e) => f e
  | some (false, e) => h e
  | none => none
theorem fe_if {c a b : Expr} {pos : Pos} {t : TF} {f h : EF} (hc : FT T X c t) (ha : FE T X a f) (hb : FE T X b h) : FE T X (.IfExp c a b pos) (eIf t f h) :=
  (pe_ifExp hc ha hb).weak fun σ H Q ⟨gh, F, env, d, env', R, e, q⟩ => by
    unfold eIf at e
    split at e
    · rename_i e1 ef
      exact ⟨gh, F, env, _, _, R, ef, fun H1 F1 R1 s1 => iteT ⟨gh, F1, _, _, _, R1, e, fun w H2 F2 R2 s2 => q w H2 F2 R2 (s1.trans s2)⟩⟩
    · rename_i e1 ef
      exact ⟨gh, F, env, _, _, R, ef, fun H1 F1 R1 s1 => iteF ⟨gh, F1, _, _, _, R1, e, fun w H2 F2 R2 s2 => q w H2 F2 R2 (s1.trans s2)⟩⟩
    · cases e

def aNil : AF := fun env => some ([], env)
def aCons (f : EF) (h : AF) : AF := fun env => match f env with
  | none => none
  | some (d, e) => match h e with
    | none => none
    | some (ds, e') => some (d :: ds, e')
theorem fa_nil : FA T X [] aNil := pa_nil.weak fun σ H Q ⟨gh, F, env, d, env', R, e, q⟩ => by
  cases e
  exact q [] H F R (Same.refl _) .nil
theorem fa_cons {e : Expr} {es : List Expr} {f : EF} {h : AF} (ha : FE T X e f) (hb : FA T X es h) (hst : starEach (e :: es) X.env = (false, eval e X.env) :: starEach es X.env := by rfl) : FA T X (e :: es) (aCons f h) :=
  (pa_cons ha hb hst).weak fun σ H Q ⟨gh, F, env, d, env', R, e, q⟩ => by
    unfold aCons at e
    split at e
    · cases e
    · rename_i d1 e1 ef
      split at e
      · cases e
      · rename_i ds e2 eh
        cases e
        exact ⟨gh, F, env, _, _, R, ef, fun v H1 F1 R1 s1 r1 => ⟨gh, F1, _, _, _, R1, eh, fun vs H2 F2 R2 s2 r2 => q _ H2 F2 R2 (s1.trans s2) (.cons (r1.mono s2) r2)⟩⟩

def eTup (f : AF) : EF := fun env => match f env with
  | none => none
  | some (ds, e) => if ds.length ≤ sizeLine then some (.tuple ds, e) else none
def eLst (f : AF) : EF := fun env => match f env with
  | none => none
  | some (ds, e) => if ds.length ≤ sizeLine then some (.list ds, e) else none
theorem fe_tup {es : List Expr} {k : Nat} {pos : Pos} {f : AF} (h : FA T X es f) : FE T X (.Tuple es k pos) (eTup f) :=
  (pe_tup h).weak fun σ H Q ⟨gh, F, env, d, env', R, e, q⟩ => by
    unfold eTup at e
    split at e
    · cases e
    · rename_i ds e1 ef
      split at e
      · rename_i hl
        cases e
        refine ⟨gh, F, env, _, _, R, ef, fun vs H1 F1 R1 s1 r1 => ⟨by rw [r1.len]; exact hl, fun p hp => ?_⟩⟩
        obtain ⟨R2, s2⟩ := R1.laidF (o := .tup vs) hp
        exact q _ _ _ R2 (s1.trans s2) (.tup (.inl (.inl upd_same)) (r1.mono s2))
      · cases e
theorem fn_lst {es : List Expr} {pos : Pos} {f : AF} (h : FA T X es f) : FN T X (.List es pos) (eLst f) :=
  (pe_lst h).weak fun σ H Q ⟨gh, F, env, d, env', R, e, q⟩ => by
    unfold eLst at e
    split at e
    · cases e
    · rename_i ds e1 ef
      split at e
      · rename_i hl
        cases e
        refine ⟨gh, F, env, _, _, R, ef, fun vs H1 F1 R1 s1 r1 => ⟨by rw [r1.len]; exact hl, fun p hp => ?_⟩⟩
        obtain ⟨h0, nT, hF⟩ := R1.fresh hp
        exact q p _ F1 (R1.laid hp) s1 hF h0 (R1.own_ne hp) (.lst upd_same r1)
      · cases e

def callF (g : List PV → Option PV) (f : AF) : EF := fun env => match f env with
  | none => none
  | some (ds, e) => match g ds with
    | none => none
    | some d => some (d, e)
def CallF (T : List Addr) (K : PySem.W.Frag) (r : List V → Hp → VK → Prop) (g : List PV → Option PV) : Prop :=
  ∀ gh F H σ env xs ds d (Q : VK), Rel T K gh F H σ env → Reps K F xs ds → g ds = some d → (∀ v H' F', Rel T K gh F' H' σ env → Same F F' → Rep K F' v d → Q v H') → r xs H Q
def CallN (T : List Addr) (K : PySem.W.Frag) (r : List V → Hp → VK → Prop) (g : List PV → Option PV) : Prop :=
  ∀ gh F H σ env xs ds d (Q : VK), Rel T K gh F H σ env → Reps K F xs ds → g ds = some d →
    (∀ a H' F', Rel T K gh F' H' σ env → Same F F' → F' a = none → gh.H0 a = none → Alone gh env σ a → Own K F' H' a d → Q (.ref a) H') → r xs H Q
theorem re_call {r : List V → Hp → VK → Prop} {g : List PV → Option PV} {f : AF} {K : PySem.W.Frag} (hg : CallF T K r g) : ∀ σ H Q, RE T K (callF g f) σ H Q → tCB r (RA T K f) σ H Q := by
  rintro σ H Q ⟨gh, F, env, d, env', R, e, q⟩
  unfold callF at e
  split at e
  · cases e
  · rename_i ds e1 ef
    split at e
    · cases e
    · rename_i d' eg
      cases e
      exact ⟨gh, F, env, _, _, R, ef, fun vs H1 F1 R1 s1 r1 => hg gh F1 H1 σ _ vs ds _ Q R1 r1 eg fun v H2 F2 R2 s2 r2 => q v H2 F2 R2 (s1.trans s2) r2⟩
theorem rn_call {r : List V → Hp → VK → Prop} {g : List PV → Option PV} {f : AF} {K : PySem.W.Frag} (hg : CallN T K r g) : ∀ σ H Q, RN T K (callF g f) σ H Q → tCB r (RA T K f) σ H Q := by
  rintro σ H Q ⟨gh, F, env, d, env', R, e, q⟩
  unfold callF at e
  split at e
  · cases e
  · rename_i ds e1 ef
    split at e
    · cases e
    · rename_i d' eg
      cases e
      exact ⟨gh, F, env, _, _, R, ef, fun vs H1 F1 R1 s1 r1 => hg gh F1 H1 σ _ vs ds _ Q R1 r1 eg fun a H2 F2 R2 s2 => q a H2 F2 R2 (s1.trans s2)⟩
theorem fe_callB {x : Str} {p pos : Pos} {e : Expr} {es : List Expr} {id : String} {r : List V → Hp → VK → Prop} {g : List PV → Option PV} {f : AF} (hc : CallR X (.builtin id) r) (cg : CallF T X.K r g) (hg : Gl X x) (hm : X.mg x = none) (hv : bootBuiltins x = some (.builtin id)) (ha : FA T X (e :: es) f)
    (hn : x ≠ "__name__" := by decide) (hdb : (x == ("__debug__" : Str)) = false := by decide) (he : starEach (e :: es) X.env = (false, eval e X.env) :: starEach es X.env := by rfl) (hpl : (backTo pos (starEach es X.env)).any (·.1) = false := by rfl) : FE T X (.Call (.Name x p) (e :: es) [] pos) (callF g f) :=
  (pe_callB hc hg hm hv ha hn hdb he hpl).weak (re_call cg)
theorem fn_callB {x : Str} {p pos : Pos} {e : Expr} {es : List Expr} {id : String} {r : List V → Hp → VK → Prop} {g : List PV → Option PV} {f : AF} (hc : CallR X (.builtin id) r) (cg : CallN T X.K r g) (hg : Gl X x) (hm : X.mg x = none) (hv : bootBuiltins x = some (.builtin id)) (ha : FA T X (e :: es) f)
    (hn : x ≠ "__name__" := by decide) (hdb : (x == ("__debug__" : Str)) = false := by decide) (he : starEach (e :: es) X.env = (false, eval e X.env) :: starEach es X.env := by rfl) (hpl : (backTo pos (starEach es X.env)).any (·.1) = false := by rfl) : FN T X (.Call (.Name x p) (e :: es) [] pos) (callF g f) :=
  (pe_callB hc hg hm hv ha hn hdb he hpl).weak (rn_call cg)
theorem fe_callTy {x : Str} {p pos : Pos} {e : Expr} {es : List Expr} {id : String} {r : List V → Hp → VK → Prop} {g : List PV → Option PV} {f : AF} (hc : CallR X (.type id) r) (cg : CallF T X.K r g) (hg : Gl X x) (hm : X.mg x = none) (hv : bootBuiltins x = some (.type id)) (ha : FA T X (e :: es) f)
    (hn : x ≠ "__name__" := by decide) (hdb : (x == ("__debug__" : Str)) = false := by decide) (he : starEach (e :: es) X.env = (false, eval e X.env) :: starEach es X.env := by rfl) (hpl : (backTo pos (starEach es X.env)).any (·.1) = false := by rfl) : FE T X (.Call (.Name x p) (e :: es) [] pos) (callF g f) :=
  (pe_callTy hc hg hm hv ha hn hdb he hpl).weak (re_call cg)
theorem fn_callTy {x : Str} {p pos : Pos} {e : Expr} {es : List Expr} {id : String} {r : List V → Hp → VK → Prop} {g : List PV → Option PV} {f : AF} (hc : CallR X (.type id) r) (cg : CallN T X.K r g) (hg : Gl X x) (hm : X.mg x = none) (hv : bootBuiltins x = some (.type id)) (ha : FA T X (e :: es) f)
    (hn : x ≠ "__name__" := by decide) (hdb : (x == ("__debug__" : Str)) = false := by decide) (he : starEach (e :: es) X.env = (false, eval e X.env) :: starEach es X.env := by rfl) (hpl : (backTo pos (starEach es X.env)).any (·.1) = false := by rfl) : FN T X (.Call (.Name x p) (e :: es) [] pos) (callF g f) :=
  (pe_callTy hc hg hm hv ha hn hdb he hpl).weak (rn_call cg)
theorem fe_callBfun {x : Str} {p pos : Pos} {e : Expr} {es : List Expr} {id : String} {r : List V → Hp → VK → Prop} {g : List PV → Option PV} {f : AF} (hc : CallR X (.builtin id) r) (cg : CallF T X.K r g) (hg : Gl X x) (hm : X.mg x = some (.builtin id)) (ha : FA T X (e :: es) f)
    (hdb : (x == ("__debug__" : Str)) = false := by decide) (he : starEach (e :: es) X.env = (false, eval e X.env) :: starEach es X.env := by rfl) (hpl : (backTo pos (starEach es X.env)).any (·.1) = false := by rfl) : FE T X (.Call (.Name x p) (e :: es) [] pos) (callF g f) :=
  (pe_callBfun hc hg hm ha hdb he hpl).weak (re_call cg)

def sSkip : SF := fun env => some (.nx env)
def sSeq (f h : SF) : SF := fun env => match f env with
  | some (.nx e) => h e
  | o => o
theorem rs_seq {f h : SF} {K : PySem.W.Frag} : ∀ D σ H, RS T K (sSeq f h) D σ H → tSeq (RS T K f) (RS T K h) D σ H := by
  rintro D σ H ⟨gh, F, env, out, R, e, q⟩
  unfold sSeq at e
  split at e
  · rename_i e1 ef
    exact ⟨gh, F, env, _, R, ef, fun σ' H1 F1 R1 s1 => ⟨gh, F1, _, _, R1, e, q.mono s1⟩⟩
  · rename_i hno
    refine ⟨gh, F, env, out, R, e, ?_⟩
    cases out with
    | nx e1 => exact absurd e (hno e1)
    | rt d e1 => exact q
    | rf d e1 => exact q
    | bk e1 => exact q
    | ct e1 => exact q
theorem fss_nil : FSs T X [] sSkip := pss_nil.weak fun D σ H ⟨gh, F, env, out, R, e, q⟩ => by
  cases e
  exact q σ H F R (Same.refl _)
theorem fss_cons {st : Stmt} {rest : List Stmt} {f h : SF} (h1 : FS T X st f) (h2 : FSs T X rest h) : FSs T X (st :: rest) (sSeq f h) := (pss_cons h1 h2).weak rs_seq
theorem fss_one {st : Stmt} {f : SF} (h1 : FS T X st f) : FSs T X [st] f := pss_one h1
theorem fs_pass {pos : Pos} : FS T X (.Pass pos) sSkip := ps_pass.weak fun D σ H ⟨gh, F, env, out, R, e, q⟩ => by
  cases e
  exact q σ H F R (Same.refl _)
def sBk : SF := fun env => some (.bk env)
def sCt : SF := fun env => some (.ct env)
theorem fs_break {pos : Pos} : FS T X (.Break pos) sBk := ps_break.weak fun D σ H ⟨gh, F, env, out, R, e, q⟩ => by
  cases e
  exact q σ H F R (Same.refl _)
theorem fs_continue {pos : Pos} : FS T X (.Continue pos) sCt := ps_continue.weak fun D σ H ⟨gh, F, env, out, R, e, q⟩ => by
  cases e
  exact q σ H F R (Same.refl _)
def sExpr (f : EF) : SF := fun env => match f env with
  | some (_, e) => some (.nx e)
  | none => none
theorem fs_expr {e : Expr} {pos : Pos} {f : EF} (he : FE T X e f) (hs : swapsWith e none pos.line X.env = pure false := by rfl) : FS T X (.Expr e pos) (sExpr f) :=
  (ps_expr he hs).weak fun D σ H ⟨gh, F, env, out, R, e, q⟩ => by
    unfold sExpr at e
    split at e
    · rename_i d e1 ef
      cases e
      exact ⟨gh, F, env, _, _, R, ef, fun v H1 F1 R1 s1 _ => q σ H1 F1 R1 s1⟩
    · cases e
def sRet (f : EF) : SF := fun env => match f env with
  | some (d, e) => some (.rt d e)
  | none => none
theorem fs_ret {e : Expr} {pos : Pos} {f : EF} (he : FE T X e f) : FS T X (.Return (some e) pos) (sRet f) :=
  (ps_ret he).weak fun D σ H ⟨gh, F, env, out, R, e, q⟩ => by
    unfold sRet at e
    split at e
    · rename_i d e1 ef
      cases e
      exact ⟨gh, F, env, _, _, R, ef, fun v H1 F1 R1 s1 r1 => q v σ H1 F1 R1 s1 r1⟩
    · cases e
def sRetN : SF := fun env => some (.rt .none env)
theorem fs_retN {pos : Pos} : FS T X (.Return none pos) sRetN := ps_retN.weak fun D σ H ⟨gh, F, env, out, R, e, q⟩ => by
  cases e
  exact q .non σ H F R (Same.refl _) .non
def sIf (t : TF) (f h : SF) : SF := fun env => match t env with
  | some (true, e) => f e
  | some (false, e) => h e
  | none => none
theorem fs_if {c : Expr} {a b : List Stmt} {pos : Pos} {t : TF} {f h : SF} (hc : FT T X c t) (ha : FSs T X a f) (hb : FSs T X b h) : FS T X (.If c a b pos) (sIf t f h) :=
  (ps_if hc ha hb).weak fun D σ H ⟨gh, F, env, out, R, e, q⟩ => by
    unfold sIf at e
    split at e
    · rename_i e1 ef
      exact ⟨gh, F, env, _, _, R, ef, fun H1 F1 R1 s1 => iteT ⟨gh, F1, _, _, R1, e, q.mono s1⟩⟩
    · rename_i e1 ef
      exact ⟨gh, F, env, _, _, R, ef, fun H1 F1 R1 s1 => iteF ⟨gh, F1, _, _, R1, e, q.mono s1⟩⟩
    · cases e
def setV (env : Ev) (i : Nat) (s : Sl) : Option Ev := match env[i]? with
  | some (.io _) => none
  | some _ => some (env.set i s)
  | none => none
theorem setV_eq {env env' : Ev} {i : Nat} {s : Sl} (h : setV env i s = some env') : env' = env.set i s ∧ i < env.length ∧ ∀ d, env[i]? ≠ some (.io d) := by
  unfold setV at h
  split at h
  · cases h
  · rename_i x hx hn
    cases h
    exact ⟨rfl, (List.getElem?_eq_some_iff.mp hn).1, fun d z => hx d (by rw [hn] at z; exact Option.some.inj z)⟩
  · cases h
/-- a name takes a value, or a new object of its own -/
theorem Rel.put {K : PySem.W.Frag} {g : Gh} {F H : Hp} {σ : St} {env env' : Ev} {i : Nat} {v : V} {s : Sl} (R : Rel T K g F H σ env) (h : setV env i s = some env')
    (hs : s = .no ∨ (∃ d, s = .va d ∧ Rep K F v d) ∨ ∃ d a, s = .ow d ∧ v = .ref a ∧ F a = none ∧ g.H0 a = none ∧ Alone g env σ a ∧ Own K F H a d) : Rel T K g F H (σ.set i (some v)) env' := by
  obtain ⟨rfl, hi, hio⟩ := setV_eq h
  have hiσ : i < σ.length := by rw [← R.len]; exact hi
  have get : ∀ j x, j ≠ i → (env.set i s)[j]? = some x → env[j]? = some x := fun j x hj q => by
    rw [List.getElem?_set_ne (Ne.symm hj)] at q; exact q
  have σget : ∀ j, j ≠ i → (σ.set i (some v))[j]? = σ[j]? := fun j hj => List.getElem?_set_ne (Ne.symm hj)
  have nio : ∀ a, (i, a) ∉ g.io := fun a z => by
    obtain ⟨_, d, e⟩ := R.iok i a z
    exact hio d e
  refine ⟨by rw [List.length_set, List.length_set]; exact R.len, R.sub, R.f0, R.new, R.keep, R.tab, R.nt, fun j d q => ?_, fun j d q => ?_, fun j d q => ?_, fun j a q => ?_, fun a o q => ?_, fun j k a q1 q2 e1 e2 => ?_⟩
  · by_cases hj : j = i
    · subst hj
      rw [List.getElem?_set_self hi] at q
      rcases hs with hs | ⟨d', hs, r⟩ | ⟨d', a, hs, _⟩ <;> rw [hs] at q <;> cases q
      exact ⟨v, List.getElem?_set_self hiσ, r⟩
    · obtain ⟨w, e, r⟩ := R.va j d (get j _ hj q)
      exact ⟨w, by rw [σget j hj]; exact e, r⟩
  · by_cases hj : j = i
    · subst hj
      rw [List.getElem?_set_self hi] at q
      rcases hs with hs | ⟨d', hs, r⟩ | ⟨d', a, hs, hv, h1, h2, h3, h4⟩ <;> rw [hs] at q <;> cases q
      subst hv
      exact ⟨a, List.getElem?_set_self hiσ, h1, h2, h4⟩
    · obtain ⟨w, e, r⟩ := R.ow j d (get j _ hj q)
      exact ⟨w, by rw [σget j hj]; exact e, r⟩
  · by_cases hj : j = i
    · subst hj
      rw [List.getElem?_set_self hi] at q
      rcases hs with hs | ⟨d', hs, r⟩ | ⟨d', a, hs, _⟩ <;> rw [hs] at q <;> cases q
    · obtain ⟨w, e0, e, r⟩ := R.io j d (get j _ hj q)
      exact ⟨w, e0, by rw [σget j hj]; exact e, r⟩
  · have hj : j ≠ i := fun z => nio a (by rw [← z]; exact q)
    obtain ⟨e, d, q2⟩ := R.iok j a q
    exact ⟨by rw [σget j hj]; exact e, d, by rw [List.getElem?_set_ne (Ne.symm hj)]; exact q2⟩
  · obtain ⟨t1, t2, t3, t4⟩ := R.tm a o q
    refine ⟨t1, t2, t3, fun j hj e => ?_⟩
    by_cases hji : j = i
    · subst hji
      obtain ⟨d, hd⟩ := hj
      rw [List.getElem?_set_self hi] at hd
      rw [List.getElem?_set_self hiσ] at e
      rcases hs with hs | ⟨d', hs, r⟩ | ⟨d', b, hs, hv, h1, h2, h3, h4⟩
      · rw [hs] at hd; rcases hd with hd | hd <;> cases hd
      · rw [hs] at hd; rcases hd with hd | hd <;> cases hd
      · subst hv
        cases e
        exact h3.2 o q
    · obtain ⟨d, hd⟩ := hj
      rw [σget j hji] at e
      exact t4 j ⟨d, hd.imp (get j _ hji) (get j _ hji)⟩ e
  · have old : ∀ m, m ≠ i → owns (env.set i s) m → owns env m := fun m hm ⟨d, hd⟩ => ⟨d, hd.imp (get m _ hm) (get m _ hm)⟩
    have cross : ∀ m, m ≠ i → owns (env.set i s) m → owns (env.set i s) i → (σ.set i (some v))[m]? = some (some (.ref a)) → (σ.set i (some v))[i]? = some (some (.ref a)) → False := fun m hm o1 o2 z1 z2 => by
      obtain ⟨d, hd⟩ := o2
      rw [List.getElem?_set_self hi] at hd
      rw [List.getElem?_set_self hiσ] at z2
      rcases hs with hs | ⟨d', hs, r⟩ | ⟨d', b, hs, hv, h1, h2, h3, h4⟩
      · rw [hs] at hd; rcases hd with hd | hd <;> cases hd
      · rw [hs] at hd; rcases hd with hd | hd <;> cases hd
      · subst hv
        cases z2
        rw [σget m hm] at z1
        exact h3.1 m (old m hm o1) z1
    by_cases hj : j = i
    · by_cases hk : k = i
      · rw [hj, hk]
      · subst hj
        exact (cross k hk q2 q1 e2 e1).elim
    · by_cases hk : k = i
      · subst hk
        exact (cross j hj q1 q2 e1 e2).elim
      · rw [σget j hj] at e1
        rw [σget k hk] at e2
        exact R.sep j k a (old j hj q1) (old k hk q2) e1 e2
def asg (i : Nat) (f : EF) : SF := fun env => match f env with
  | none => none
  | some (d, e) => match setV e i (.va d) with
    | none => none
    | some e' => some (.nx e')
def asgO (i : Nat) (f : EF) : SF := fun env => match f env with
  | none => none
  | some (d, e) => match setV e i (.ow d) with
    | none => none
    | some e' => some (.nx e')
theorem fs_set (i : Nat) {x : Str} {e : Expr} {pos pos' : Pos} {f : EF} (hN : X.N.Nodup) (he : FE T X e f) (hi : X.N[i]? = some x := by rfl) (hx : Loc X.env.scope x := by first | exact Or.inl rfl | exact Or.inr rfl) (hs : swapsWith e (some (.Name x pos')) pos.line X.env = pure false := by rfl)
    (hf : X.fn x = true ∨ X.env.scope.names.lookup x = some .local := by first | exact .inl rfl | exact .inr rfl) : FS T X (.Assign [.Name x pos'] e pos) (asg i f) :=
  (ps_set hN hi hx he hs hf).weak fun D σ H ⟨gh, F, env, out, R, e, q⟩ => by
    unfold asg at e
    split at e
    · cases e
    · rename_i d e1 ef
      split at e
      · cases e
      · rename_i e2 es
        cases e
        exact ⟨gh, F, env, _, _, R, ef, fun v H1 F1 R1 s1 r1 => q _ _ _ (R1.put es (.inr (.inl ⟨d, rfl, r1⟩))) s1⟩
theorem fs_setO (i : Nat) {x : Str} {e : Expr} {pos pos' : Pos} {f : EF} (hN : X.N.Nodup) (he : FN T X e f) (hi : X.N[i]? = some x := by rfl) (hx : Loc X.env.scope x := by first | exact Or.inl rfl | exact Or.inr rfl) (hs : swapsWith e (some (.Name x pos')) pos.line X.env = pure false := by rfl)
    (hf : X.fn x = true ∨ X.env.scope.names.lookup x = some .local := by first | exact .inl rfl | exact .inr rfl) : FS T X (.Assign [.Name x pos'] e pos) (asgO i f) :=
  (ps_set hN hi hx he hs hf).weak fun D σ H ⟨gh, F, env, out, R, e, q⟩ => by
    unfold asgO at e
    split at e
    · cases e
    · rename_i d e1 ef
      split at e
      · cases e
      · rename_i e2 es
        cases e
        exact ⟨gh, F, env, _, _, R, ef, fun a H1 F1 R1 s1 h1 h2 h3 h4 => q _ _ _ (R1.put es (.inr (.inr ⟨d, a, rfl, rfl, h1, h2, h3, h4⟩))) s1⟩

def bNm (i : Nat) : BF := fun d env => setV env i (.va d)
theorem fb_nm (i : Nat) {x : Str} {pos : Pos} (hN : X.N.Nodup) (hi : X.N[i]? = some x := by rfl) (hx : Loc X.env.scope x := by first | exact Or.inl rfl | exact Or.inr rfl) (hf : X.fn x = true ∨ X.env.scope.names.lookup x = some .local := by first | exact .inl rfl | exact .inr rfl) : FB T X (.Name x pos) [i] (bNm i) :=
  (pg_name hN hi hx hf).weak fun v σ H Q ⟨gh, F, env, d, env', R, r, e, q⟩ => q _ _ _ (R.put e (.inr (.inl ⟨d, rfl, r⟩))) (Same.refl _) fun vs hv => wipe_set (hv i (List.mem_singleton.mpr rfl))
def bNil : List PV → Ev → Option Ev := fun ds env => match ds with
  | [] => some env
  | _ => none
def bCons (f : BF) (h : List PV → Ev → Option Ev) : List PV → Ev → Option Ev := fun ds env => match ds with
  | d :: r => match f d env with
    | none => none
    | some e => h r e
  | [] => none
theorem fbs_nil : FBs T X [] [] bNil := pgs_nil.weak fun vs σ H Q ⟨gh, F, env, ds, env', R, r, e, q⟩ => by
  unfold bNil at e
  split at e
  · cases e
    cases r
    exact ⟨rfl, q σ H F R (Same.refl _) fun _ _ => rfl⟩
  · cases e
theorem fbs_cons {e : Expr} {es : List Expr} {t1 t2 : List Nat} {f : BF} {h : List PV → Ev → Option Ev} (h1 : FB T X e t1 f) (h2 : FBs T X es t2 h) (hs : (assignEach (e :: es) X.env).map (·.2) = assign e X.env :: (assignEach es X.env).map (·.2) := by rfl) : FBs T X (e :: es) (t1 ++ t2) (bCons f h) :=
  (pgs_cons h1 h2 hs).weak fun vs σ H Q ⟨gh, F, env, ds, env', R, r, e, q⟩ => by
    unfold bCons at e
    split at e
    · rename_i d dr
      split at e
      · cases e
      · rename_i e1 ef
        cases r with
        | cons r1 rr =>
          exact ⟨_, _, rfl, gh, F, env, d, e1, R, r1, ef, fun σ1 H1 F1 R1 s1 w1 => ⟨gh, F1, e1, dr, _, R1, rr.mono s1, e, fun σ2 H2 F2 R2 s2 w2 => q σ2 H2 F2 R2 (s1.trans s2) fun vs hv => (w2 vs fun i hi => hv i (List.mem_append_right _ hi)).trans (w1 vs fun i hi => hv i (List.mem_append_left _ hi))⟩⟩
    · cases e
def bTup (n : Nat) (h : List PV → Ev → Option Ev) : BF := fun d env => match d with
  | .tuple ds => if ds.length = n then h ds env else none
  | _ => none
theorem SqT.sub {K : PySem.W.Frag} {F H : Hp} {a : Addr} {xs : List V} (s : Same F H) (h : SqT K F a xs) : SqT K H a xs := SqT.mono s h
theorem fb_tup {es : List Expr} {k : Nat} {pos : Pos} {ts : List Nat} {h : List PV → Ev → Option Ev} {n : Nat} (hc : X.calm = true) (hb : FBs T X es ts h) (hn : (assignEach es X.env).length = n := by rfl) (hst : (assignEach es X.env).findIdx? (·.1) = none := by rfl) : FB T X (.Tuple es k pos) ts (bTup n h) :=
  (pg_tup hc hb hn hst).weak fun v σ H Q ⟨gh, F, env, d, env', R, r, e, q⟩ => by
    unfold bTup at e
    split at e
    · rename_i ds
      split at e
      · rename_i hl
        cases r with
        | tup hq rr =>
          exact ⟨_, _, rfl, SqT.sub R.sub hq, rr.len.trans hl, gh, F, env, ds, _, R, rr, e, q⟩
      · cases e
    · cases e
/-- target = e, any target -/
def asgB (b : BF) (f : EF) : SF := fun env => match f env with
  | none => none
  | some (d, e) => match b d e with
    | none => none
    | some e' => some (.nx e')
theorem fs_asg {tg e : Expr} {pos : Pos} {ts : List Nat} {b : BF} {f : EF} (he : FE T X e f) (hg : FB T X tg ts b) (hs : swapsWithSole [tg] e pos.line X.env = pure false := by rfl) (hw : swappedStores [tg] e X.env = pure none := by rfl)
    (h1 : (assignEach [tg] X.env).map (·.2) = [assign tg X.env] := by rfl) : FS T X (.Assign [tg] e pos) (asgB b f) :=
  (ps_asg he hg hs hw h1).weak fun D σ H ⟨gh, F, env, out, R, e, q⟩ => by
    unfold asgB at e
    split at e
    · cases e
    · rename_i d e1 ef
      split at e
      · cases e
      · rename_i e2 es
        cases e
        exact ⟨gh, F, env, _, _, R, ef, fun v H1 F1 R1 s1 r1 => ⟨gh, F1, _, d, _, R1, r1, es, fun σ2 H2 F2 R2 s2 _ => q σ2 H2 F2 R2 (s1.trans s2)⟩⟩
/-- a, b = x, y (plain local names) -/
def asg2 (i j : Nat) (f : AF) : SF := fun env => match f env with
  | some ([a, b], e) => match setV e i (.va a) with
    | none => none
    | some e1 => match setV e1 j (.va b) with
      | none => none
      | some e2 => some (.nx e2)
  | _ => none
theorem fs_par (i j : Nat) {x y : Str} {a b : Expr} {f : AF} {px py pt pos : Pos} {kt k2 : Nat} {pt2 : Pos} (hN : X.N.Nodup) (ha : FA T X [a, b] f) (hij : i ≠ j := by decide) (hi : X.N[i]? = some x := by rfl) (hj : X.N[j]? = some y := by rfl)
    (hc : X.calm = true := by rfl) (hx : X.env.scope.names.lookup x = some .local := by rfl) (hy : X.env.scope.names.lookup y = some .local := by rfl)
    (hw : swappedStores [.Tuple [.Name x px, .Name y py] kt pt] (.Tuple [a, b] k2 pt2) X.env = pure (some [x, y]) := by rfl)
    (hs : swapsWithSole [.Tuple [.Name x px, .Name y py] kt pt] (.Tuple [a, b] k2 pt2) pos.line X.env = pure false := by rfl) :
    FS T X (.Assign [.Tuple [.Name x px, .Name y py] kt pt] (.Tuple [a, b] k2 pt2) pos) (asg2 i j f) :=
  (ps_par hc hN hi hj hij hx hy ha hw hs).weak fun D σ H ⟨gh, F, env, out, R, e, q⟩ => by
    unfold asg2 at e
    split at e
    · rename_i d1 d2 e1 ef
      split at e
      · cases e
      · rename_i e2 es
        split at e
        · cases e
        · rename_i e3 es2
          cases e
          refine ⟨gh, F, env, _, _, R, ef, fun vs H1 F1 R1 s1 r1 => ?_⟩
          cases r1 with
          | cons ra r2 => cases r2 with
            | cons rb r3 =>
              cases r3
              exact ⟨_, _, rfl, q _ _ _ ((R1.put es (.inr (.inl ⟨_, rfl, ra⟩))).put es2 (.inr (.inl ⟨_, rfl, rb⟩))) s1⟩
    · cases e
/-- name op= e -/
def aug (i : Nat) (g : PV → PV → Option PV) (f : EF) : SF := fun env => match env[i]? with
  | some (.va a) => match f env with
    | none => none
    | some (b, e) => match g a b with
      | none => none
      | some d => match setV e i (.va d) with
        | none => none
        | some e' => some (.nx e')
  | _ => none
theorem fs_aug (i : Nat) {x : Str} {e : Expr} {op : Operator} {pos pos' : Pos} {r : R2} {g : PV → PV → Option PV} {f : EF} (hN : X.N.Nodup) (ho : OpR X (inplaceOp op) r) (hg : OpF T X.K r g) (he : FE T X e f) (hi : X.N[i]? = some x := by rfl) (hx : Loc X.env.scope x := by first | exact Or.inl rfl | exact Or.inr rfl)
    (hf : X.fn x = true ∨ X.env.scope.names.lookup x = some .local := by first | exact .inl rfl | exact .inr rfl) : FS T X (.AugAssign (.Name x pos') op e pos) (aug i g f) :=
  (ps_aug hN hi hx he (show PIp X op r from ho) hf).weak fun D σ H ⟨gh, F, env, out, R, e, q⟩ => by
    unfold aug at e
    split at e
    · rename_i a ha
      obtain ⟨v, e1, ra⟩ := R.va i a ha
      split at e
      · cases e
      · rename_i b e2 ef
        split at e
        · cases e
        · rename_i d eg
          split at e
          · cases e
          · rename_i e3 es
            cases e
            refine ⟨v, e1, gh, F, env, _, _, R, ef, fun y H1 F1 R1 s1 rb => ?_⟩
            exact hg gh F1 H1 σ _ v y a b d _ R1 (ra.mono s1) rb eg fun w H2 F2 R2 s2 r2 => q _ _ _ (R2.put es (.inr (.inl ⟨d, rfl, r2⟩))) (s1.trans s2)
    · cases e

def whF (t : TF) (b : SF) : Nat → SF
  | 0 => fun _ => none
  | n + 1 => fun env => match t env with
    | none => none
    | some (false, e) => some (.nx e)
    | some (true, e) => match b e with
      | none => none
      | some (.nx e') => whF t b n e'
      | some (.ct e') => whF t b n e'
      | some (.bk e') => some (.nx e')
      | some (.rt d e') => some (.rt d e')
      | some (.rf d e') => some (.rf d e')
theorem fs_while {c : Expr} {body : List Stmt} {pos : Pos} {t : TF} {b : SF} (n : Nat) (hp : PassesOwn (model X.prog X.w) X.A X.env X.xe) (hc : FT T X c t) (hb : FSs T X body b) : FS T X (.While c body [] pos) (whF t b n) :=
  (ps_while hp hc hb).weak fun D σ H ⟨gh, F, env, out, R, e, q⟩ => by
    refine ⟨fun m σ H => ∃ F' env', Rel T X.K gh F' H σ env' ∧ Same F F' ∧ whF t b m env' = some out, ⟨n, F, env, R, Same.refl _, e⟩, ?_⟩
    rintro m σ H ⟨F', env', R', s', e'⟩
    cases m with
    | zero => cases e'
    | succ m =>
      unfold whF at e'
      split at e'
      · cases e'
      · rename_i e1 et
        cases e'
        exact ⟨gh, F', env', _, _, R', et, fun H1 F1 R1 s1 => iteF (q _ _ _ R1 (s'.trans s1))⟩
      · rename_i e1 et
        refine ⟨gh, F', env', _, _, R', et, fun H1 F1 R1 s1 => ?_⟩
        refine iteT ?_
        refine ⟨fun σ' H' => ∃ F2 env2, Rel T X.K gh F2 H' σ' env2 ∧ Same F F2 ∧ whF t b m env2 = some out, fun σ' H' ⟨F2, env2, R2, s2, e2⟩ => ⟨m, Nat.lt_succ_self m, F2, env2, R2, s2, e2⟩, ?_⟩
        have s01 := s'.trans s1
        split at e'
        · cases e'
        · rename_i e2 eb
          exact ⟨gh, F1, e1, _, R1, eb, fun σ2 H2 F2 R2 s2 => ⟨F2, e2, R2, s01.trans s2, e'⟩⟩
        · rename_i e2 eb
          exact ⟨gh, F1, e1, _, R1, eb, fun σ2 H2 F2 R2 s2 => ⟨F2, e2, R2, s01.trans s2, e'⟩⟩
        · rename_i e2 eb
          cases e'
          exact ⟨gh, F1, e1, _, R1, eb, fun σ2 H2 F2 R2 s2 => q _ _ _ R2 (s01.trans s2)⟩
        · rename_i d e2 eb
          cases e'
          exact ⟨gh, F1, e1, _, R1, eb, fun v σ2 H2 F2 R2 s2 r2 => q _ _ _ _ R2 (s01.trans s2) r2⟩
        · rename_i d e2 eb
          cases e'
          exact ⟨gh, F1, e1, _, R1, eb, fun a σ2 H2 F2 R2 s2 => q _ _ _ _ R2 (s01.trans s2)⟩

/-- what a walk hands out -/
def Yields (T : List Addr) (K : PySem.W.Frag) (J : It) (ds : List PV) (F0 : Hp) : Prop :=
  ∀ (g : Gh) (i : Nat) F H σ env, Rel T K g F H σ env → Same F0 F →
    (∀ d, ds[i]? = some d → J.go i H ∧ ∀ x H', J.yld i H x H' → ∃ F', Rel T K g F' H' σ env ∧ Same F F' ∧ Rep K F' x d) ∧ (ds[i]? = none → J.stop i H)
def RI (T : List Addr) (K : PySem.W.Frag) (f : AF) : TI := fun σ H R => ∃ g F env ds env', Rel T K g F H σ env ∧ f env = some (ds, env') ∧ ∀ J H' F', Rel T K g F' H' σ env' → Same F F' → Yields T K J ds F' → R J H'
def FI (T : List Addr) (X : Cx) (tg iter : Expr) (f : AF) : Prop := PI X tg iter (RI T X.K f)
theorem _root_.L2.PI.weak {tg e : Expr} {t t' : TI} (h : PI X tg e t) (w : ∀ σ H Q, t' σ H Q → t σ H Q) : PI X tg e t' := ⟨fun pins s σ H Q I q => h.run pins s σ H Q I (w σ H Q q)⟩
def foF (bi : BF) (b : SF) : List PV → SF
  | [] => fun env => some (.nx env)
  | d :: ds => fun env => match bi d env with
    | none => none
    | some e => match b e with
      | none => none
      | some (.nx e') => foF bi b ds e'
      | some (.ct e') => foF bi b ds e'
      | some (.bk e') => some (.nx e')
      | some (.rt r e') => some (.rt r e')
      | some (.rf r e') => some (.rf r e')
def sFor (f : AF) (bi : BF) (b : SF) : SF := fun env => match f env with
  | none => none
  | some (ds, e) => foF bi b ds e
theorem fs_for {tg iter : Expr} {body : List Stmt} {pos : Pos} {f : AF} {ts : List Nat} {bi : BF} {b : SF} (hp : PassesOwn (model X.prog X.w) X.A X.env X.xe) (hc : X.calm = true) (hi : FI T X tg iter f) (hg : FB T X tg ts bi) (hb : FSs T X body b)
    (hs : ∀ x, foldedSetIterable iter X.env x = pure x := by intro _; rfl) : FS T X (.For tg iter body [] pos) (sFor f bi b) :=
  (ps_for hp hc hi hg hb hs).weak fun D σ H ⟨gh, F, env, out, R, e, q⟩ => by
    unfold sFor at e
    split at e
    · cases e
    · rename_i ds e1 ef
      refine ⟨gh, F, env, _, _, R, ef, fun J H1 F1 R1 s1 Y => ?_⟩
      refine ⟨fun i m σ H => ∃ F' env', m = ds.length - i ∧ Rel T X.K gh F' H σ env' ∧ Same F1 F' ∧ foF bi b (ds.drop i) env' = some out, ⟨_, F1, _, rfl, R1, Same.refl _, by simpa using e⟩, ?_⟩
      rintro i m σ H ⟨F', env', rfl, R', s', e'⟩
      obtain ⟨yi, yn⟩ := Y gh i F' H σ env' R' s'
      cases hd : ds[i]? with
      | none =>
        have hl : ds.length ≤ i := List.getElem?_eq_none_iff.mp hd
        rw [List.drop_of_length_le hl] at e'
        cases e'
        exact .inl ⟨yn hd, q _ _ _ R' (s1.trans s')⟩
      | some d =>
        obtain ⟨hgo, hy⟩ := yi d hd
        have hl : i < ds.length := (List.getElem?_eq_some_iff.mp hd).1
        have e2 : ds.drop i = d :: ds.drop (i + 1) := by
          rw [List.drop_eq_getElem_cons hl]
          rw [List.getElem?_eq_getElem hl] at hd
          cases hd; rfl
        rw [e2] at e'
        unfold foF at e'
        refine .inr ⟨hgo, fun σ' H' => ∃ F2 env2, Rel T X.K gh F2 H' σ' env2 ∧ Same F1 F2 ∧ foF bi b (ds.drop (i + 1)) env2 = some out, fun σ' H' ⟨F2, env2, R2, s2, z2⟩ => ⟨ds.length - (i + 1), by omega, F2, env2, rfl, R2, s2, z2⟩, fun x H' hx => ?_⟩
        obtain ⟨F2, R2, s2, rx⟩ := hy x H' hx
        split at e'
        · cases e'
        · rename_i e3 eb
          refine ⟨gh, F2, env', d, e3, R2, rx, eb, fun σ3 H3 F3 R3 s3 _ => ?_⟩
          have s03 := s'.trans (s2.trans s3)
          split at e'
          · cases e'
          · rename_i e4 ebo
            exact ⟨gh, F3, e3, _, R3, ebo, fun σ4 H4 F4 R4 s4 => ⟨F4, e4, R4, s03.trans s4, e'⟩⟩
          · rename_i e4 ebo
            exact ⟨gh, F3, e3, _, R3, ebo, fun σ4 H4 F4 R4 s4 => ⟨F4, e4, R4, s03.trans s4, e'⟩⟩
          · rename_i e4 ebo
            cases e'
            exact ⟨gh, F3, e3, _, R3, ebo, fun σ4 H4 F4 R4 s4 => q _ _ _ R4 (s1.trans (s03.trans s4))⟩
          · rename_i r4 e4 ebo
            cases e'
            exact ⟨gh, F3, e3, _, R3, ebo, fun v σ4 H4 F4 R4 s4 r5 => q _ _ _ _ R4 (s1.trans (s03.trans s4)) r5⟩
          · rename_i r4 e4 ebo
            cases e'
            exact ⟨gh, F3, e3, _, R3, ebo, fun a σ4 H4 F4 R4 s4 => q _ _ _ _ R4 (s1.trans (s03.trans s4))⟩
end
end Fx

namespace Fx
open PySem PySem.Spec L2
open PyProof.Rows hiding St

section
variable {K : PySem.W.Frag} {F H : Hp} {v : V}
theorem Rep.int_iff {i : Int} (h : Rep K F v (.int i)) : v = .int i := by cases h; rfl
theorem Rep.str_iff {x : Str} (h : Rep K F v (.str x)) : v = .str x := by cases h; rfl
theorem Rep.bl_iff {b : Bool} (h : Rep K F v (.bool b)) : v = .bl b := by cases h; rfl
theorem Rep.non_iff {d : PV} (h : Rep K F v d) : v = .non ↔ d = .none := by cases h <;> simp
mutual
def noDict : PV → Bool
  | .dict _ => false
  | .list xs => noDicts xs
  | .tuple xs => noDicts xs
  | _ => true
def noDicts : List PV → Bool
  | [] => true
  | x :: xs => noDict x && noDicts xs
end
mutual
theorem Rep.dp (s : Same F H) : ∀ {d : PV} {v : V}, Rep K F v d → noDict d = true → Dp K H v d
  | _, _, .non, _ => .non
  | _, _, .bl b, _ => .bl b
  | _, _, .int i, _ => .int i
  | _, _, .str x, _ => .str x
  | _, _, .lst h r, n => .lst (.inl (.inl (s _ _ h))) (Reps.dp s r (by simpa [noDict] using n))
  | _, _, .tup h r, n => .tup (SqT.mono s h) (Reps.dp s r (by simpa [noDict] using n))
  | _, _, .dk h r, n => Bool.noConfusion n
  | _, _, .dt h r, n => Bool.noConfusion n
  | _, _, .lk h r, n => Bool.noConfusion n
theorem Reps.dp (s : Same F H) : ∀ {ds : List PV} {vs : List V}, Reps K F vs ds → noDicts ds = true → DpAll K H vs ds
  | _, _, .nil, _ => .nil
  | _, _, .cons h r, n => by
    have n' : (noDict _ && noDicts _) = true := n
    rw [Bool.and_eq_true] at n'
    exact .cons (Rep.dp s h n'.1) (Reps.dp s r n'.2)
end
end

def fits (a b : Int) : Bool := decide (a.natAbs.log2 + b.natAbs.log2 < 1000000)
def rAddAll (K : PySem.W.Frag) : R2 := fun x y H Q => (∃ i j, x = .int i ∧ y = .int j ∧ Q (.int (i + j)) H) ∨ (∃ i j, x = .str i ∧ y = .str j ∧ i.length + j.length ≤ sizeLine ∧ Q (.str (i ++ j)) H) ∨ rCatT K x y H Q ∨ rCat x y H Q
def pAdd : PV → PV → Option PV
  | .int a, .int b => some (.int (a + b))
  | .str a, .str b => if a.length + b.length ≤ sizeLine then some (.str (a ++ b)) else none
  | .tuple xs, .tuple ys => match xs with
    | [] => none
    | _ :: _ => if xs.length + ys.length ≤ sizeLine then some (.tuple (xs ++ ys)) else none
  | .list xs, .list ys => if xs.length + ys.length ≤ sizeLine then some (.list (xs ++ ys)) else none
  | _, _ => none
def pSub : PV → PV → Option PV
  | .int a, .int b => some (.int (a - b))
  | _, _ => none
def rMulAll : R2 := fun x y H Q => rI CMulW (fun i j => .int (i * j)) x y H Q ∨ rRep x y H Q
def pMul : PV → PV → Option PV
  | .int a, .int b => if fits a b then some (.int (a * b)) else none
  | .list xs, .int k => if -(2 ^ 63) ≤ k ∧ k < 2 ^ 63 ∧ xs.length * k.toNat ≤ sizeLine then some (.list (List.replicate k.toNat xs).flatten) else none
  | _, _ => none
def CDivG (_ j : Int) : Prop := j ≠ 0 ∧ j.natAbs.log2 < 9000
def pDiv : PV → PV → Option PV
  | .int a, .int b => if b ≠ 0 ∧ b.natAbs.log2 < 9000 then some (.int (a.fdiv b)) else none
  | _, _ => none
def pMod : PV → PV → Option PV
  | .int a, .int b => if b ≠ 0 then some (.int (a.fmod b)) else none
  | _, _ => none
def pPow : PV → PV → Option PV
  | .int a, .int b => if 0 ≤ b ∧ b ≤ 1000000 ∧ a.natAbs < 2 ^ 64 then some (.int (a ^ b.toNat)) else none
  | _, _ => none
def pNeg : PV → Option PV
  | .int a => some (.int (-a))
  | _ => none
def pEq (a b : PV) : Option PV := match a, b with
  | .int i, .int j => some (.bool (decide (i = j)))
  | .str i, .str j => some (.bool (decide (i = j)))
  | .bool i, .bool j => some (.bool (decide (i = j)))
  | a, b => if noDict a && noDict b && SeqAt.shaped a && SeqAt.shaped b then some (.bool (PyData.eqv a b)) else none
def pNe (a b : PV) : Option PV := match a, b with
  | .int i, .int j => some (.bool (!decide (i = j)))
  | .str i, .str j => some (.bool (!decide (i = j)))
  | .bool i, .bool j => some (.bool (!decide (i = j)))
  | a, b => if noDict a && noDict b && SeqAt.shaped a && SeqAt.shaped b then some (.bool (!PyData.eqv a b)) else none
def pLt : PV → PV → Option PV
  | .int a, .int b => some (.bool (decide (a < b)))
  | .str a, .str b => some (.bool (decide (a.cps.toList < b.cps.toList)))
  | _, _ => none
def pLe : PV → PV → Option PV
  | .int a, .int b => some (.bool (decide (a ≤ b)))
  | .str a, .str b => some (.bool (!decide (b.cps.toList < a.cps.toList)))
  | _, _ => none
def pGt : PV → PV → Option PV
  | .int a, .int b => some (.bool (decide (b < a)))
  | .str a, .str b => some (.bool (decide (b.cps.toList < a.cps.toList)))
  | _, _ => none
def pGe : PV → PV → Option PV
  | .int a, .int b => some (.bool (decide (b ≤ a)))
  | .str a, .str b => some (.bool (!decide (a.cps.toList < b.cps.toList)))
  | _, _ => none
def isNn : PV → Bool
  | .none => true
  | _ => false
def pIsN (a b : PV) : Option PV := match b with
  | .none => some (.bool (isNn a))
  | _ => none
def pNotN (a b : PV) : Option PV := match b with
  | .none => some (.bool (!isNn a))
  | _ => none

section
variable {T : List Addr} {X : Cx}
theorem op_addA : OpR X (binaryOp .Add) (rAddAll X.K) := by
  intro pins s σ H x y v u Q I rx ry h
  rcases h with h | h | h | h
  · exact op_add pins s σ H x y v u Q I rx ry h
  · exact op_add_str pins s σ H x y v u Q I rx ry h
  · exact op_catT pins s σ H x y v u Q I rx ry h
  · exact op_cat pins s σ H x y v u Q I rx ry h
theorem of_add {K : PySem.W.Frag} : OpF T K (rAddAll K) pAdd := by
  intro gh F H σ env x y a b d Q R ra rb e q
  unfold pAdd at e
  split at e
  · cases e
    exact .inl ⟨_, _, ra.int_iff, rb.int_iff, q _ _ _ R (Same.refl _) (.int _)⟩
  · rename_i i j
    split at e
    · rename_i hl
      cases e
      exact .inr (.inl ⟨_, _, ra.str_iff, rb.str_iff, hl, q _ _ _ R (Same.refl _) (.str _)⟩)
    · cases e
  · rename_i xs ys
    split at e
    · cases e
    · rename_i z zs
      split at e
      · rename_i hl
        cases e
        cases ra with
        | tup ha ra =>
          cases rb with
          | tup hb rb =>
            have la := ra.len
            have lb := rb.len
            refine .inr (.inr (.inl ⟨_, _, _, _, rfl, rfl, SqT.mono R.sub ha, SqT.mono R.sub hb, fun z => by rw [z] at la; simp at la, by rw [la, lb]; exact hl, fun z => ?_, fun z p hp => ?_⟩))
            · subst z
              cases rb
              refine q _ _ _ R (Same.refl _) (.tup ha ?_)
              rw [List.append_nil]
              exact ra
            · obtain ⟨R2, s2⟩ := R.laidF (o := .tup _) hp
              exact q _ _ _ R2 s2 (.tup (.inl (.inl upd_same)) ((ra.append rb).mono s2))
      · cases e
  · rename_i xs ys
    split at e
    · rename_i hl
      cases e
      cases ra with
      | lst ha ra =>
        cases rb with
        | lst hb rb =>
          refine .inr (.inr (.inr ⟨_, _, _, _, rfl, rfl, R.sub _ _ ha, R.sub _ _ hb, by rw [ra.len, rb.len]; exact hl, fun p hp => ?_⟩))
          obtain ⟨R2, s2⟩ := R.laidF (o := .lst _) hp
          exact q _ _ _ R2 s2 (.lst upd_same ((ra.append rb).mono s2))
    · cases e
  · cases e
theorem of_int {K : PySem.W.Frag} {C : Int → Int → Prop} {f : Int → Int → PV} {g : PV → PV → Option PV} {f' : Int → Int → V} (hf : ∀ i j F, Rep K F (f' i j) (f i j)) (hg : ∀ a b d, g a b = some d → ∃ i j, a = .int i ∧ b = .int j ∧ C i j ∧ d = f i j) : OpF T K (rI C f') g := by
  intro gh F H σ env x y a b d Q R ra rb e q
  obtain ⟨i, j, rfl, rfl, hc, rfl⟩ := hg a b d e
  exact ⟨i, j, ra.int_iff, rb.int_iff, hc, q _ _ _ R (Same.refl _) (hf i j F)⟩
theorem of_int0 {K : PySem.W.Frag} {f : Int → Int → PV} {g : PV → PV → Option PV} {f' : Int → Int → V} (hf : ∀ i j F, Rep K F (f' i j) (f i j)) (hg : ∀ a b d, g a b = some d → ∃ i j, a = .int i ∧ b = .int j ∧ d = f i j) : OpF T K (rI0 f') g := by
  intro gh F H σ env x y a b d Q R ra rb e q
  obtain ⟨i, j, rfl, rfl, rfl⟩ := hg a b d e
  exact ⟨i, j, ra.int_iff, rb.int_iff, q _ _ _ R (Same.refl _) (hf i j F)⟩
theorem of_sub {K : PySem.W.Frag} : OpF T K (rI0 fun i j => .int (i - j)) pSub := of_int0 (f := fun i j => .int (i - j)) (fun _ _ _ => .int _) fun a b d e => by
  unfold pSub at e
  split at e
  · cases e; exact ⟨_, _, rfl, rfl, rfl⟩
  · cases e
theorem op_mulA : OpR X (binaryOp .Mult) rMulAll := OpR.or op_mulW op_rep
theorem of_mul {K : PySem.W.Frag} : OpF T K rMulAll pMul := by
  intro gh F H σ env x y a b d Q R ra rb e q
  unfold pMul at e
  split at e
  · split at e
    · rename_i hf
      cases e
      exact .inl ⟨_, _, ra.int_iff, rb.int_iff, (show _ < _ from of_decide_eq_true hf), q _ _ _ R (Same.refl _) (.int _)⟩
    · cases e
  · rename_i xs k
    split at e
    · rename_i hl
      cases e
      cases ra with
      | lst ha ra =>
        refine .inr ⟨_, _, _, rfl, rb.int_iff, R.sub _ _ ha, hl.1, hl.2.1, by rw [ra.len]; exact hl.2.2, fun p hp => ?_⟩
        obtain ⟨R2, s2⟩ := R.laidF (o := .lst _) hp
        refine q _ _ _ R2 s2 (.lst upd_same ?_)
        have : ∀ n : Nat, Reps K F (List.replicate n _).flatten (List.replicate n xs).flatten := fun n => by
          induction n with
          | zero => exact .nil
          | succ n ih =>
            rw [List.replicate_succ, List.replicate_succ, List.flatten_cons, List.flatten_cons]
            exact ra.append ih
        exact (this _).mono s2
    · cases e
  · cases e
theorem op_fdivG : OpR X (binaryOp .FloorDiv) (rI CDivG fun i j => .int (i.fdiv j)) := opI fun _ _ _ _ _ _ _ hc q => floordiv_int hc.1 q (.inl (PyProof.noPylong_of_log2 hc.2))
theorem iop_fdivG : OpR X (inplaceOp .FloorDiv) (rI CDivG fun i j => .int (i.fdiv j)) := opI fun _ _ _ _ _ _ _ hc q => ifloordiv_int hc.1 q (.inl (PyProof.noPylong_of_log2 hc.2))
theorem of_div {K : PySem.W.Frag} : OpF T K (rI CDivG fun i j => .int (i.fdiv j)) pDiv := of_int (f := fun i j => .int (i.fdiv j)) (fun _ _ _ => .int _) fun a b d e => by
  unfold pDiv at e
  split at e
  · split at e
    · rename_i h
      cases e; exact ⟨_, _, rfl, rfl, h, rfl⟩
    · cases e
  · cases e
theorem iop_modN : OpR X (inplaceOp .Mod) (rI (fun _ j => j ≠ 0) fun i j => .int (i.fmod j)) := opI fun _ _ _ _ _ _ _ hc q => imod_int hc q
theorem of_mod {K : PySem.W.Frag} : OpF T K (rI (fun _ j => j ≠ 0) fun i j => .int (i.fmod j)) pMod := of_int (f := fun i j => .int (i.fmod j)) (fun _ _ _ => .int _) fun a b d e => by
  unfold pMod at e
  split at e
  · split at e
    · rename_i h
      cases e; exact ⟨_, _, rfl, rfl, h, rfl⟩
    · cases e
  · cases e
theorem of_pow {K : PySem.W.Frag} : OpF T K (rI CPow fun i j => .int (i ^ j.toNat)) pPow := of_int (f := fun i j => .int (i ^ j.toNat)) (fun _ _ _ => .int _) fun a b d e => by
  unfold pPow at e
  split at e
  · split at e
    · rename_i h
      cases e; exact ⟨_, _, rfl, rfl, h, rfl⟩
    · cases e
  · cases e
theorem iop_addA : OpR X (inplaceOp .Add) (fun x y H Q => (∃ i j, x = .int i ∧ y = .int j ∧ Q (.int (i + j)) H) ∨ ∃ i j, x = .str i ∧ y = .str j ∧ i.length + j.length ≤ sizeLine ∧ Q (.str (i ++ j)) H) := OpR.or iop_add iop_add_str
def pAddI : PV → PV → Option PV
  | .int a, .int b => some (.int (a + b))
  | .str a, .str b => if a.length + b.length ≤ sizeLine then some (.str (a ++ b)) else none
  | _, _ => none
theorem of_addI {K : PySem.W.Frag} : OpF T K (fun x y H Q => (∃ i j, x = .int i ∧ y = .int j ∧ Q (.int (i + j)) H) ∨ ∃ i j, x = .str i ∧ y = .str j ∧ i.length + j.length ≤ sizeLine ∧ Q (.str (i ++ j)) H) pAddI := by
  intro gh F H σ env x y a b d Q R ra rb e q
  unfold pAddI at e
  split at e
  · cases e
    exact .inl ⟨_, _, ra.int_iff, rb.int_iff, q _ _ _ R (Same.refl _) (.int _)⟩
  · split at e
    · rename_i hl
      cases e
      exact .inr ⟨_, _, ra.str_iff, rb.str_iff, hl, q _ _ _ R (Same.refl _) (.str _)⟩
    · cases e
  · cases e
def pMulI : PV → PV → Option PV
  | .int a, .int b => if -(2 ^ 64) < a ∧ a < 2 ^ 64 ∨ -(2 ^ 64) < b ∧ b < 2 ^ 64 then some (.int (a * b)) else none
  | _, _ => none
theorem iop_mulW : OpR X (inplaceOp .Mult) (rI CMulW fun i j => .int (i * j)) := opI fun _ _ _ _ _ _ _ hc q => imul_int q hc.ok
def pMulW : PV → PV → Option PV
  | .int a, .int b => if fits a b then some (.int (a * b)) else none
  | _, _ => none
theorem of_mulW {K : PySem.W.Frag} : OpF T K (rI CMulW fun i j => .int (i * j)) pMulW := of_int (f := fun i j => .int (i * j)) (fun _ _ _ => .int _) fun a b d e => by
  unfold pMulW at e
  split at e
  · split at e
    · rename_i h
      cases e; exact ⟨_, _, rfl, rfl, (show _ < _ from of_decide_eq_true h), rfl⟩
    · cases e
  · cases e
theorem op_ltA : OpR X (compareOp .Lt) (fun x y H Q => rI0 (fun i j => .bl (decide (i < j))) x y H Q ∨ ∃ i j, x = .str i ∧ y = .str j ∧ Q (.bl (decide (i.cps.toList < j.cps.toList))) H) := OpR.or op_lt op_lt_str
theorem op_leA : OpR X (compareOp .LtE) (fun x y H Q => rI0 (fun i j => .bl (decide (i ≤ j))) x y H Q ∨ ∃ i j, x = .str i ∧ y = .str j ∧ Q (.bl (!decide (j.cps.toList < i.cps.toList))) H) := OpR.or op_le op_le_str
theorem op_gtA : OpR X (compareOp .Gt) (fun x y H Q => rI0 (fun i j => .bl (decide (j < i))) x y H Q ∨ ∃ i j, x = .str i ∧ y = .str j ∧ Q (.bl (decide (j.cps.toList < i.cps.toList))) H) := OpR.or op_gt op_gt_str
theorem op_geA : OpR X (compareOp .GtE) (fun x y H Q => rI0 (fun i j => .bl (decide (j ≤ i))) x y H Q ∨ ∃ i j, x = .str i ∧ y = .str j ∧ Q (.bl (!decide (i.cps.toList < j.cps.toList))) H) := OpR.or op_ge op_ge_str
theorem of_ord {K : PySem.W.Frag} {f : Int → Int → Bool} {h : Str → Str → Bool} {g : PV → PV → Option PV} (hg : ∀ a b d, g a b = some d → (∃ i j, a = .int i ∧ b = .int j ∧ d = .bool (f i j)) ∨ ∃ i j, a = .str i ∧ b = .str j ∧ d = .bool (h i j)) :
    OpF T K (fun x y H Q => rI0 (fun i j => .bl (f i j)) x y H Q ∨ ∃ i j, x = .str i ∧ y = .str j ∧ Q (.bl (h i j)) H) g := by
  intro gh F H σ env x y a b d Q R ra rb e q
  rcases hg a b d e with ⟨i, j, rfl, rfl, rfl⟩ | ⟨i, j, rfl, rfl, rfl⟩
  · exact .inl ⟨_, _, ra.int_iff, rb.int_iff, q _ _ _ R (Same.refl _) (.bl _)⟩
  · exact .inr ⟨_, _, ra.str_iff, rb.str_iff, q _ _ _ R (Same.refl _) (.bl _)⟩
theorem of_lt {K : PySem.W.Frag} : OpF T K (fun x y H Q => rI0 (fun i j => .bl (decide (i < j))) x y H Q ∨ ∃ i j, x = .str i ∧ y = .str j ∧ Q (.bl (decide (i.cps.toList < j.cps.toList))) H) pLt := of_ord (f := fun i j => decide (i < j)) (h := fun i j => decide (i.cps.toList < j.cps.toList)) fun a b d e => by
  unfold pLt at e
  split at e
  · cases e; exact .inl ⟨_, _, rfl, rfl, rfl⟩
  · cases e; exact .inr ⟨_, _, rfl, rfl, rfl⟩
  · cases e
theorem of_le {K : PySem.W.Frag} : OpF T K (fun x y H Q => rI0 (fun i j => .bl (decide (i ≤ j))) x y H Q ∨ ∃ i j, x = .str i ∧ y = .str j ∧ Q (.bl (!decide (j.cps.toList < i.cps.toList))) H) pLe := of_ord (f := fun i j => decide (i ≤ j)) (h := fun i j => !decide (j.cps.toList < i.cps.toList)) fun a b d e => by
  unfold pLe at e
  split at e
  · cases e; exact .inl ⟨_, _, rfl, rfl, rfl⟩
  · cases e; exact .inr ⟨_, _, rfl, rfl, rfl⟩
  · cases e
theorem of_gt {K : PySem.W.Frag} : OpF T K (fun x y H Q => rI0 (fun i j => .bl (decide (j < i))) x y H Q ∨ ∃ i j, x = .str i ∧ y = .str j ∧ Q (.bl (decide (j.cps.toList < i.cps.toList))) H) pGt := of_ord (f := fun i j => decide (j < i)) (h := fun i j => decide (j.cps.toList < i.cps.toList)) fun a b d e => by
  unfold pGt at e
  split at e
  · cases e; exact .inl ⟨_, _, rfl, rfl, rfl⟩
  · cases e; exact .inr ⟨_, _, rfl, rfl, rfl⟩
  · cases e
theorem of_ge {K : PySem.W.Frag} : OpF T K (fun x y H Q => rI0 (fun i j => .bl (decide (j ≤ i))) x y H Q ∨ ∃ i j, x = .str i ∧ y = .str j ∧ Q (.bl (!decide (i.cps.toList < j.cps.toList))) H) pGe := of_ord (f := fun i j => decide (j ≤ i)) (h := fun i j => !decide (i.cps.toList < j.cps.toList)) fun a b d e => by
  unfold pGe at e
  split at e
  · cases e; exact .inl ⟨_, _, rfl, rfl, rfl⟩
  · cases e; exact .inr ⟨_, _, rfl, rfl, rfl⟩
  · cases e
theorem op_eqA (hu : X.A.units + 64 < cLine) : OpR X (compareOp .Eq) (fun x y H Q => rEq x y H Q ∨ rEqD X.K x y H Q) := OpR.or op_eq (op_eqD hu)
theorem op_neA (hu : X.A.units + 64 < cLine) : OpR X (compareOp .NotEq) (fun x y H Q => rNe x y H Q ∨ rNeD X.K x y H Q) := OpR.or op_ne (op_neD hu)
theorem of_eq {K : PySem.W.Frag} : OpF T K (fun x y H Q => rEq x y H Q ∨ rEqD K x y H Q) pEq := by
  intro gh F H σ env x y a b d Q R ra rb e q
  unfold pEq at e
  split at e
  · cases e
    cases ra; cases rb
    exact .inl ⟨rfl, q _ _ _ R (Same.refl _) (by simp only [V.int.injEq]; exact .bl _)⟩
  · cases e
    cases ra; cases rb
    exact .inl ⟨rfl, q _ _ _ R (Same.refl _) (by simp only [V.str.injEq]; exact .bl _)⟩
  · cases e
    cases ra; cases rb
    exact .inl ⟨rfl, q _ _ _ R (Same.refl _) (by simp only [V.bl.injEq]; exact .bl _)⟩
  · split at e
    · rename_i h
      cases e
      simp only [Bool.and_eq_true] at h
      exact .inr ⟨a, b, ra.dp R.sub h.1.1.1, rb.dp R.sub h.1.1.2, h.1.2, h.2, q _ _ _ R (Same.refl _) (.bl _)⟩
    · cases e
theorem of_ne {K : PySem.W.Frag} : OpF T K (fun x y H Q => rNe x y H Q ∨ rNeD K x y H Q) pNe := by
  intro gh F H σ env x y a b d Q R ra rb e q
  unfold pNe at e
  split at e
  · cases e
    cases ra; cases rb
    exact .inl ⟨rfl, q _ _ _ R (Same.refl _) (by simp only [V.int.injEq]; exact .bl _)⟩
  · cases e
    cases ra; cases rb
    exact .inl ⟨rfl, q _ _ _ R (Same.refl _) (by simp only [V.str.injEq]; exact .bl _)⟩
  · cases e
    cases ra; cases rb
    exact .inl ⟨rfl, q _ _ _ R (Same.refl _) (by simp only [V.bl.injEq]; exact .bl _)⟩
  · split at e
    · rename_i h
      cases e
      simp only [Bool.and_eq_true] at h
      exact .inr ⟨a, b, ra.dp R.sub h.1.1.1, rb.dp R.sub h.1.1.2, h.1.2, h.2, q _ _ _ R (Same.refl _) (.bl _)⟩
    · cases e
theorem isNn_dec {K : PySem.W.Frag} {F : Hp} {v : V} {d : PV} (r : Rep K F v d) : decide (v = .non) = isNn d := by
  cases r <;> simp [isNn]
theorem of_isN {K : PySem.W.Frag} : OpF T K (fun x y H Q => y = .non ∧ Q (.bl (decide (x = .non))) H) pIsN := by
  intro gh F H σ env x y a b d Q R ra rb e q
  unfold pIsN at e
  split at e
  · cases e
    cases rb
    exact ⟨rfl, q _ _ _ R (Same.refl _) (by rw [isNn_dec ra]; exact .bl _)⟩
  · cases e
theorem of_notN {K : PySem.W.Frag} : OpF T K (fun x y H Q => y = .non ∧ Q (.bl (!decide (x = .non))) H) pNotN := by
  intro gh F H σ env x y a b d Q R ra rb e q
  unfold pNotN at e
  split at e
  · cases e
    cases rb
    exact ⟨rfl, q _ _ _ R (Same.refl _) (by rw [isNn_dec ra]; exact .bl _)⟩
  · cases e
theorem fe_neg {a : Expr} {pos : Pos} {f : EF} (h : FE T X a f) : FE T X (.UnaryOp .USub a pos) (un pNeg f) :=
  (pe_un un_neg h).weak fun σ H Q ⟨gh, F, env, d, env', R, e, q⟩ => by
    unfold un at e
    split at e
    · cases e
    · rename_i d1 e1 ef
      split at e
      · cases e
      · rename_i d2 eg
        cases e
        refine ⟨gh, F, env, _, _, R, ef, fun v H1 F1 R1 s1 r1 => ?_⟩
        unfold pNeg at eg
        split at eg
        · cases eg
          exact ⟨_, r1.int_iff, q _ _ _ R1 s1 (.int _)⟩
        · cases eg
/-- a < b <= c -/
def chn (g h : PV → PV → Option PV) (fa fb fc : EF) : EF := fun env => match fa env with
  | none => none
  | some (a, e1) => match fb e1 with
    | none => none
    | some (b, e2) => match g a b with
      | some (.bool true) => match fc e2 with
        | none => none
        | some (c, e3) => match h b c with
          | none => none
          | some d => some (d, e3)
      | some (.bool false) => some (.bool false, e2)
      | _ => none
theorem re_chn {r r' : R2} {g h : PV → PV → Option PV} {fa fb fc : EF} {K : PySem.W.Frag} (hg : OpF T K r g) (hh : OpF T K r' h) : ∀ σ H Q, RE T K (chn g h fa fb fc) σ H Q → tChain r r' (RE T K fa) (RE T K fb) (RE T K fc) σ H Q := by
  rintro σ H Q ⟨gh, F, env, d, env', R, e, q⟩
  unfold chn at e
  split at e
  · cases e
  · rename_i a e1 ea
    split at e
    · cases e
    · rename_i b e2 eb
      refine ⟨gh, F, env, a, e1, R, ea, fun x H1 F1 R1 s1 ra => ⟨gh, F1, e1, b, _, R1, eb, fun y H2 F2 R2 s2 rb => ?_⟩⟩
      split at e
      · rename_i eg
        refine hg gh F2 H2 σ _ x y a b _ _ R2 (ra.mono s2) rb eg fun v H3 F3 R3 s3 r3 => ?_
        cases r3
        refine ⟨true, rfl, iteT ?_⟩
        split at e
        · cases e
        · rename_i c e3 ec
          split at e
          · cases e
          · rename_i d' eh
            cases e
            exact ⟨gh, F3, _, c, _, R3, ec, fun w H4 F4 R4 s4 r4 => hh gh F4 H4 σ _ y w b c _ Q R4 (rb.mono (s3.trans s4)) r4 eh fun v H5 F5 R5 s5 r5 => q v H5 F5 R5 (s1.trans (s2.trans (s3.trans (s4.trans s5)))) r5⟩
      · rename_i eg
        cases e
        refine hg gh F2 H2 σ _ x y a b _ _ R2 (ra.mono s2) rb eg fun v H3 F3 R3 s3 r3 => ?_
        cases r3
        exact ⟨false, rfl, iteF (q _ H3 F3 R3 (s1.trans (s2.trans s3)) (.bl _))⟩
      · cases e
theorem fe_chain {op op' : CmpOp} {a b c : Expr} {pos : Pos} {r r' : R2} {g h : PV → PV → Option PV} {fa fb fc : EF} (ho : OpR X (compareOp op) r) (hg : OpF T X.K r g) (ho' : OpR X (compareOp op') r') (hh : OpF T X.K r' h) (ha : FE T X a fa) (hb : FE T X b fb) (hc : FE T X c fc)
    (hm : lastMarks [op, op'] [b, c] = false := by with_unfolding_all rfl) : FE T X (.Compare a [op, op'] [b, c] pos) (chn g h fa fb fc) := (pe_chain ho ho' ha hb hc hm).weak (re_chn hg hh)
theorem ft_chain {op op' : CmpOp} {a b c : Expr} {pos : Pos} {r r' : R2} {g h : PV → PV → Option PV} {fa fb fc : EF} (ho : OpR X (compareOp op) r) (hg : OpF T X.K r g) (ho' : OpR X (compareOp op') r') (hh : OpF T X.K r' h) (ha : FE T X a fa) (hb : FE T X b fb) (hc : FE T X c fc)
    (hm : lastMarks [op, op'] [b, c] = false := by with_unfolding_all rfl) : FT T X (.Compare a [op, op'] [b, c] pos) (tB' (chn g h fa fb fc)) :=
  PT.weak (pt_chain ho ho' ha hb hc hm) fun σ H Q hq => tTest_mono (re_chn hg hh) σ H Q (rt_b σ H Q hq)

def tru : PV → Option Bool
  | .none => some false
  | .bool b => some b
  | .int i => some (i != 0)
  | .str z => if z.length ≤ sizeLine then some ((z.length : Int) != 0) else none
  | .list xs => some (!xs.isEmpty)
  | .tuple xs => some (!xs.isEmpty)
  | .dict _ => none
def tTr (f : EF) : TF := fun env => match f env with
  | none => none
  | some (d, e) => match tru d with
    | none => none
    | some b => some (b, e)
theorem Reps.empty_iff {K : PySem.W.Frag} {F : Hp} {vs : List V} {ds : List PV} (r : Reps K F vs ds) : vs.isEmpty = ds.isEmpty := by cases r <;> rfl
theorem ft_tru {e : Expr} {f : EF} (h : FE T X e f) (he : ∀ whole, isTrue e X.env whole = (do let v ← whole; standAt e.pos; holding [v] (truthy v)) := by intro _; rfl) : FT T X e (tTr f) :=
  PT.weak (pt_truth h he) fun σ H Q ⟨gh, F, env, b, env', R, e, q⟩ => by
    unfold tTr at e
    split at e
    · cases e
    · rename_i d e1 ef
      split at e
      · cases e
      · rename_i b' et
        cases e
        refine ⟨gh, F, env, _, _, R, ef, fun v H1 F1 R1 s1 r1 => ⟨b, ?_, q H1 F1 R1 s1⟩⟩
        cases r1 with
        | non => cases et; rfl
        | bl => cases et; rfl
        | int => cases et; rfl
        | str z =>
          have et' : (if z.length ≤ sizeLine then some ((z.length : Int) != 0) else none) = some b := et
          by_cases hz : z.length ≤ sizeLine
          · rw [if_pos hz] at et'; cases et'; exact ⟨hz, rfl⟩
          · rw [if_neg hz] at et'; cases et'
        | lst h r => cases et; exact .inl ⟨_, .inl (.inl (R1.sub _ _ h)), by rw [r.empty_iff]⟩
        | tup h r => cases et; exact .inr (.inl ⟨_, SqT.mono R1.sub h, by rw [r.empty_iff]⟩)
        | dk h r => cases et
        | dt h r => cases et
        | lk h r => cases et

def pLen : List PV → Option PV
  | [.list xs] => some (.int xs.length)
  | [.tuple xs] => some (.int xs.length)
  | [.str z] => if z.length ≤ sizeLine then some (.int z.length) else none
  | _ => none
theorem cf_len {K : PySem.W.Frag} : CallF T K (fun xs H Q => ∃ x n, xs = [x] ∧ LenV K x H n ∧ Q (.int n) H) pLen := by
  intro gh F H σ env xs ds d Q R r e q
  unfold pLen at e
  split at e
  · cases e
    cases r with
    | cons r1 r2 =>
      cases r2
      cases r1 with
      | lst h rr => exact ⟨_, _, rfl, .inl ⟨_, .inl (.inl (R.sub _ _ h)), rfl⟩, by rw [rr.len]; exact q _ _ _ R (Same.refl _) (.int _)⟩
  · cases e
    cases r with
    | cons r1 r2 =>
      cases r2
      cases r1 with
      | tup h rr => exact ⟨_, _, rfl, .inr ⟨_, SqT.mono R.sub h, rfl⟩, by rw [rr.len]; exact q _ _ _ R (Same.refl _) (.int _)⟩
  · split at e
    · rename_i hz
      cases e
      cases r with
      | cons r1 r2 =>
        cases r2
        cases r1
        exact ⟨_, _, rfl, ⟨hz, rfl⟩, q _ _ _ R (Same.refl _) (.int _)⟩
    · cases e
  · cases e
def pAbs : List PV → Option PV
  | [.int i] => some (.int (if i < 0 then -i else i))
  | _ => none
theorem cf_abs {K : PySem.W.Frag} : CallF T K (fun xs H Q => ∃ i, xs = [.int i] ∧ Q (.int (if i < 0 then -i else i)) H) pAbs := by
  intro gh F H σ env xs ds d Q R r e q
  unfold pAbs at e
  split at e
  · cases e
    cases r with
    | cons r1 r2 =>
      cases r2
      cases r1
      exact ⟨_, rfl, q _ _ _ R (Same.refl _) (.int _)⟩
  · cases e
def pGcd : List PV → Option PV
  | [.int a, .int b] => some (.int (Nat.gcd a.natAbs b.natAbs : Nat))
  | _ => none
theorem cf_gcd {K : PySem.W.Frag} : CallF T K rGcd pGcd := by
  intro gh F H σ env xs ds d Q R r e q
  unfold pGcd at e
  split at e
  · cases e
    cases r with
    | cons r1 r2 => cases r2 with
      | cons r3 r4 =>
        cases r4; cases r1; cases r3
        exact ⟨_, _, rfl, q _ _ _ R (Same.refl _) (.int _)⟩
  · cases e
def pMin2 : List PV → Option PV
  | [.int a, .int b] => some (.int (if b < a then b else a))
  | _ => none
theorem cf_min2 {K : PySem.W.Frag} : CallF T K (fun xs H Q => ∃ i j, xs = [.int i, .int j] ∧ Q (.int (if j < i then j else i)) H) pMin2 := by
  intro gh F H σ env xs ds d Q R r e q
  unfold pMin2 at e
  split at e
  · cases e
    cases r with
    | cons r1 r2 => cases r2 with
      | cons r3 r4 =>
        cases r4; cases r1; cases r3
        exact ⟨_, _, rfl, q _ _ _ R (Same.refl _) (.int _)⟩
  · cases e
def pMax2 : List PV → Option PV
  | [.int a, .int b] => some (.int (if b > a then b else a))
  | _ => none
theorem cf_max2 {K : PySem.W.Frag} : CallF T K (fun xs H Q => ∃ i j, xs = [.int i, .int j] ∧ Q (.int (if j > i then j else i)) H) pMax2 := by
  intro gh F H σ env xs ds d Q R r e q
  unfold pMax2 at e
  split at e
  · cases e
    cases r with
    | cons r1 r2 => cases r2 with
      | cons r3 r4 =>
        cases r4; cases r1; cases r3
        exact ⟨_, _, rfl, q _ _ _ R (Same.refl _) (.int _)⟩
  · cases e
/-- int(n) -/
def pInt1 : List PV → Option PV
  | [.int i] => some (.int i)
  | _ => none
theorem cf_int1 {K : PySem.W.Frag} : CallF T K (fun xs H Q => (∃ i, xs = [.int i] ∧ Q (.int i) H) ∨ ∃ k, xs = [.bl k] ∧ Q (.int (if k then 1 else 0)) H) pInt1 := by
  intro gh F H σ env xs ds d Q R r e q
  unfold pInt1 at e
  split at e
  · cases e
    cases r with
    | cons r1 r2 =>
      cases r2
      cases r1
      exact .inl ⟨_, rfl, q _ _ _ R (Same.refl _) (.int _)⟩
  · cases e
/-- str(n) -/
def pStr : List PV → Option PV
  | [.int i] => if i.natAbs.log2 < 1920 then some (.str (toString i)) else none
  | _ => none
theorem cf_str {K : PySem.W.Frag} : CallF T K (fun xs H Q => ∃ i, xs = [.int i] ∧ i.natAbs.log2 < 1920 ∧ Q (.str (toString i)) H) pStr := by
  intro gh F H σ env xs ds d Q R r e q
  unfold pStr at e
  split at e
  · split at e
    · rename_i hl
      cases e
      cases r with
      | cons r1 r2 =>
        cases r2
        cases r1
        exact ⟨_, rfl, hl, q _ _ _ R (Same.refl _) (.str _)⟩
    · cases e
  · cases e
/-- all items are ints -/
def intsOf : List PV → Option (List Int)
  | [] => some []
  | .int i :: r => match intsOf r with
    | some is => some (i :: is)
    | none => none
  | _ :: _ => none
theorem intsOf_eq : ∀ {ds : List PV} {is : List Int}, intsOf ds = some is → ds = is.map PyData.int
  | [], _, h => by cases h; rfl
  | .int i :: r, is, h => by
    unfold intsOf at h
    split at h
    · rename_i js hj
      cases h
      rw [intsOf_eq hj]; rfl
    · cases h
  | .none :: _, _, h => by cases h
  | .bool _ :: _, _, h => by cases h
  | .str _ :: _, _, h => by cases h
  | .list _ :: _, _, h => by cases h
  | .tuple _ :: _, _, h => by cases h
  | .dict _ :: _, _, h => by cases h
theorem intsOf_map (is : List Int) : intsOf (is.map PyData.int) = some is := by
  induction is with
  | nil => rfl
  | cons i r ih => simp [intsOf, ih]
theorem Reps.ints {K : PySem.W.Frag} {F : Hp} : ∀ {is : List Int} {vs : List V}, Reps K F vs (is.map PyData.int) → vs = is.map V.int
  | [], _, .nil => rfl
  | i :: r, _, .cons h t => by
    cases h
    rw [Reps.ints (is := r) t]; rfl
theorem reps_ints {K : PySem.W.Frag} {F : Hp} : ∀ (is : List Int), Reps K F (is.map V.int) (is.map PyData.int)
  | [] => .nil
  | i :: r => .cons (.int i) (reps_ints r)
def pSum : List PV → Option PV
  | [.list xs] => match intsOf xs with
    | some is => some (.int is.sum)
    | none => none
  | _ => none
theorem cf_sum {K : PySem.W.Frag} : CallF T K (rSum K) pSum := by
  intro gh F H σ env xs ds d Q R r e q
  unfold pSum at e
  split at e
  · split at e
    · rename_i is hi
      cases e
      cases r with
      | cons r1 r2 =>
        cases r2
        cases r1 with
        | lst h rr =>
          rw [intsOf_eq hi] at rr
          have := rr.ints
          subst this
          exact ⟨_, is, rfl, .inl (.inl (R.sub _ _ h)), q _ _ _ R (Same.refl _) (.int _)⟩
    · cases e
  · cases e
/-- sorted(xs), ints -/
def insI (i : Int) : List Int → List Int
  | [] => [i]
  | j :: r => if i ≤ j then i :: j :: r else j :: insI i r
def srtI : List Int → List Int
  | [] => []
  | i :: r => insI i (srtI r)
theorem insI_perm (i : Int) : ∀ l : List Int, (insI i l).Perm (i :: l)
  | [] => .refl _
  | j :: r => by
    unfold insI
    split
    · exact .refl _
    · exact ((insI_perm i r).cons j).trans (.swap i j r)
theorem srtI_perm : ∀ l : List Int, (srtI l).Perm l
  | [] => .refl _
  | i :: r => (insI_perm i _).trans ((srtI_perm r).cons i)
theorem insI_sorted (i : Int) : ∀ l : List Int, l.Pairwise (· ≤ ·) → (insI i l).Pairwise (· ≤ ·)
  | [], _ => by simp [insI]
  | j :: r, h => by
    unfold insI
    have hj := List.pairwise_cons.mp h
    split
    · rename_i hij
      refine List.pairwise_cons.mpr ⟨fun x hx => ?_, h⟩
      rcases List.mem_cons.mp hx with rfl | hx
      · exact hij
      · exact Int.le_trans hij (hj.1 x hx)
    · rename_i hij
      refine List.pairwise_cons.mpr ⟨fun x hx => ?_, insI_sorted i r hj.2⟩
      rcases List.mem_cons.mp ((insI_perm i r).mem_iff.mp hx) with rfl | hx
      · omega
      · exact hj.1 x hx
theorem srtI_sorted : ∀ l : List Int, (srtI l).Pairwise (· ≤ ·)
  | [] => .nil
  | i :: r => insI_sorted i _ (srtI_sorted r)
theorem sorted_one : ∀ {a b : List Int}, a.Perm b → a.Pairwise (· ≤ ·) → b.Pairwise (· ≤ ·) → a = b := fun {a b} p ha hb => p.eq_of_pairwise (fun x y _ _ h1 h2 => Int.le_antisymm h1 h2) ha hb
def pSorted : List PV → Option PV
  | [.list xs] => match intsOf xs with
    | some is => some (.list ((srtI is).map PyData.int))
    | none => none
  | _ => none
theorem cn_sorted {K : PySem.W.Frag} : CallN T K (rSortedI K) pSorted := by
  intro gh F H σ env xs ds d Q R r e q
  unfold pSorted at e
  split at e
  · split at e
    · rename_i is hi
      cases e
      cases r with
      | cons r1 r2 =>
        cases r2
        cases r1 with
        | lst h rr =>
          rw [intsOf_eq hi] at rr
          have := rr.ints
          subst this
          refine ⟨_, is, rfl, .inl (.inl (R.sub _ _ h)), fun ns' p hp hs hnew => ?_⟩
          have e1 : ns' = srtI is := sorted_one (hp.trans (srtI_perm is).symm) hs (srtI_sorted is)
          subst e1
          obtain ⟨h0, nT, hF⟩ := R.fresh hnew
          exact q p _ F (R.laid hnew) (Same.refl _) hF h0 (R.own_ne hnew) (.lst upd_same (reps_ints _))
    · cases e
  · cases e
theorem Rep.isLk {K : PySem.W.Frag} {F : Hp} {v : V} {ds : List PV} (h : Rep K F v (.dict [(.bool true, .list ds)])) : ∃ a xs, v = .ref a ∧ SqL K F a xs ∧ Reps K F xs ds := by
  generalize e : PyData.dict [(.bool true, .list ds)] = d at h
  cases h with
  | lk h r => cases e; exact ⟨_, _, rfl, h, r⟩
  | dk h r =>
    injection e with e
    cases r with
    | nil => cases e
    | cons r1 r2 =>
      rename_i k _ _ _ _
      injection e with e1 e2
      injection e1 with e1 e3
      cases k <;> cases e1
  | _ => cases e
/-- list(x) -/
def pList : List PV → Option PV
  | [.list xs] => some (.list xs)
  | [.tuple xs] => some (.list xs)
  | [.dict [(.bool true, .list xs)]] => some (.list xs)
  | _ => none
theorem cn_list {K : PySem.W.Frag} : CallN T K (fun xs H Q => ∃ p ys, xs = [.ref p] ∧ (SqL K H p ys ∨ SqT K H p ys) ∧ ∀ l, H l = none → Q (.ref l) (upd H l (.lst ys))) pList := by
  intro gh F H σ env xs ds d Q R r e q
  unfold pList at e
  split at e
  · cases e
    cases r with
    | cons r1 r2 =>
      cases r2
      cases r1 with
      | lst h rr =>
        refine ⟨_, _, rfl, .inl (.inl (.inl (R.sub _ _ h))), fun l hl => ?_⟩
        obtain ⟨h0, nT, hF⟩ := R.fresh hl
        exact q l _ F (R.laid hl) (Same.refl _) hF h0 (R.own_ne hl) (.lst upd_same rr)
  · cases e
    cases r with
    | cons r1 r2 =>
      cases r2
      cases r1 with
      | tup h rr =>
        refine ⟨_, _, rfl, .inr (SqT.mono R.sub h), fun l hl => ?_⟩
        obtain ⟨h0, nT, hF⟩ := R.fresh hl
        exact q l _ F (R.laid hl) (Same.refl _) hF h0 (R.own_ne hl) (.lst upd_same rr)
  · cases e
    cases r with
    | cons r1 r2 =>
      cases r2
      obtain ⟨a, ys, rfl, h, rr⟩ := r1.isLk
      refine ⟨_, _, rfl, .inl (SqL.mono R.sub h), fun l hl => ?_⟩
      obtain ⟨h0, nT, hF⟩ := R.fresh hl
      exact q l _ F (R.laid hl) (Same.refl _) hF h0 (R.own_ne hl) (.lst upd_same rr)
  · cases e
/-- tuple(x) -/
def pTuple : List PV → Option PV
  | [.list xs] => some (.tuple xs)
  | [.tuple xs] => some (.tuple xs)
  | _ => none
theorem cf_tuple {K : PySem.W.Frag} : CallF T K (fun xs H Q => ∃ p ys, xs = [.ref p] ∧ ((SqL K H p ys ∧ ∀ l, H l = none → Q (.ref l) (upd H l (.tup ys))) ∨ (SqT K H p ys ∧ Q (.ref p) H))) pTuple := by
  intro gh F H σ env xs ds d Q R r e q
  unfold pTuple at e
  split at e
  · cases e
    cases r with
    | cons r1 r2 =>
      cases r2
      cases r1 with
      | lst h rr =>
        refine ⟨_, _, rfl, .inl ⟨.inl (.inl (R.sub _ _ h)), fun l hl => ?_⟩⟩
        obtain ⟨R2, s2⟩ := R.laidF (o := .tup _) hl
        exact q _ _ _ R2 s2 (.tup (.inl (.inl upd_same)) (rr.mono s2))
  · cases e
    cases r with
    | cons r1 r2 =>
      cases r2
      cases r1 with
      | tup h rr => exact ⟨_, _, rfl, .inr ⟨SqT.mono R.sub h, q _ _ _ R (Same.refl _) (.tup h rr)⟩⟩
  · cases e

def isi (n : String) : PV → Option Bool
  | .none => kitB "NoneType" n
  | .bool _ => kitB "bool" n
  | .int _ => kitB "int" n
  | .str _ => kitB "str" n
  | .list _ => kitB "list" n
  | .tuple _ => kitB "tuple" n
  | .dict _ => none
def eIsi (n : String) (f : EF) : EF := fun env => match f env with
  | none => none
  | some (d, e) => match isi n d with
    | none => none
    | some b => some (.bool b, e)
theorem Rep.tyX {K : PySem.W.Frag} {F H : Hp} {v : V} {d : PV} {n : String} {b : Bool} (s : Same F H) (r : Rep K F v d) (e : isi n d = some b) : ∃ t, TyX K H v t ∧ PySem.W.kitOne K t (.type n) = some b := by
  cases r with
  | non => exact ⟨_, .base .non, kit_ty e⟩
  | bl x => exact ⟨_, .base (.bl x), kit_ty e⟩
  | int x => exact ⟨_, .base (.int x), kit_ty e⟩
  | str x => exact ⟨_, .base (.str x), kit_ty e⟩
  | lst h r => exact ⟨_, .base (.lst (s _ _ h)), kit_ty e⟩
  | tup h r =>
    rcases SqT.mono s h with (h | ⟨o, h⟩) | ⟨o, its, n', hk, hc, _⟩
    · exact ⟨_, .base (.tup h), kit_ty e⟩
    · exact ⟨_, .fTuple h, kit_ty e⟩
    · exact ⟨_, .kTuple hk hc, kit_ty e⟩
  | dk h r => cases e
  | dt h r => cases e
  | lk h r => cases e
theorem fe_isi (n : String) {a : Expr} {p p2 pos : Pos} {x : Str} {f : EF} (hg : Gl X "isinstance") (hm : X.mg "isinstance" = none) (hg2 : Gl X x) (hm2 : X.mg x = none) (hv : bootBuiltins x = some (.type n)) (ha : FE T X a f) (hb : bootBuiltins "isinstance" = some (.builtin "isinstance") := by decide +kernel)
    (hn : x ≠ "__name__" := by decide) (hd : (x == ("__debug__" : Str)) = false := by decide)
    (he : starEach [a, .Name x p2] X.env = (false, eval a X.env) :: starEach [.Name x p2] X.env := by rfl) (he2 : starEach [.Name x p2] X.env = (false, eval (.Name x p2) X.env) :: starEach [] X.env := by rfl) (hpl : (backTo pos (starEach [.Name x p2] X.env)).any (·.1) = false := by rfl) :
    FE T X (.Call (.Name "isinstance" p) [a, .Name x p2] [] pos) (eIsi n f) :=
  (pe_callB call_isi hg hm hb (pa_cons ha (pa_cons (pe_bltn (v := .ty n) hg2 hm2 hv rfl hn hd) pa_nil he2) he) (by decide) (by decide) he hpl).weak fun σ H Q ⟨gh, F, env, d, env', R, e, q⟩ => by
    unfold eIsi at e
    split at e
    · cases e
    · rename_i d1 e1 ef
      split at e
      · cases e
      · rename_i b eb
        cases e
        refine ⟨gh, F, env, _, _, R, ef, fun v H1 F1 R1 s1 r1 => ?_⟩
        obtain ⟨t, h1, h2⟩ := r1.tyX R1.sub eb
        exact ⟨v, .ty n, t, .type n, b, rfl, .ty n, h1, h2, q _ _ _ R1 s1 (.bl b)⟩

def pIx : PV → PV → Option PV
  | .list xs, .int i => atI xs i
  | .tuple xs, .int i => atI xs i
  | .str z, .int i => if z.length ≤ sizeLine then (atI z.cps.toList i).map fun c => .str ⟨#[c]⟩ else none
  | _, _ => none
def rIxA (K : PySem.W.Frag) : R2 := fun x y H Q => rIxL K x y H Q ∨ rIxT K x y H Q ∨ rIxS x y H Q
theorem ix_all : IxR X (rIxA X.K) := IxR.or ix_list (IxR.or ix_tup ix_str)
theorem Reps.atI {K : PySem.W.Frag} {F : Hp} {vs : List V} {ds : List PV} {i : Int} {d : PV} (r : Reps K F vs ds) (h : L2.atI ds i = some d) : ∃ v, L2.atI vs i = some v ∧ Rep K F v d := by
  unfold L2.atI at h ⊢
  rw [r.len]
  cases e : ixN ds.length i with
  | none => rw [e] at h; cases h
  | some j =>
    rw [e] at h
    exact r.get h
theorem of_ix {K : PySem.W.Frag} : OpF T K (rIxA K) pIx := by
  intro gh F H σ env x y a b d Q R ra rb e q
  unfold pIx at e
  split at e
  · cases ra with
    | lst h r =>
      obtain ⟨v, e1, r1⟩ := r.atI e
      exact .inl ⟨_, _, _, _, rfl, rb.int_iff, .inl (.inl (R.sub _ _ h)), e1, q _ _ _ R (Same.refl _) r1⟩
  · cases ra with
    | tup h r =>
      obtain ⟨v, e1, r1⟩ := r.atI e
      exact .inr (.inl ⟨_, _, _, _, rfl, rb.int_iff, SqT.mono R.sub h, e1, q _ _ _ R (Same.refl _) r1⟩)
  · split at e
    · rename_i hz
      cases hc : atI _ _ with
      | none => rw [hc] at e; cases e
      | some c =>
        rw [hc] at e
        cases e
        exact .inr (.inr ⟨_, _, _, ra.str_iff, rb.int_iff, hz, hc, q _ _ _ R (Same.refl _) (.str _)⟩)
    · cases e
  · cases e
theorem fe_ix {a b : Expr} {pos : Pos} {fa fb : EF} (ha : FE T X a fa) (hb : FE T X b fb) (hs : PlainIx b := by exact fun _ _ => rfl) : FE T X (.Subscript a b pos) (bin pIx fa fb) :=
  (pe_ix ix_all ha hb hs).weak (re_bin (ta := RE T X.K fa) (tb := RE T X.K fb) of_ix)

def cont (env : Ev) (i : Nat) : Option PV := match env[i]? with
  | some (.va d) => some d
  | some (.ow d) => some d
  | some (.io d) => some d
  | _ => none
/-- readable now -/
inductive Read (K : PySem.W.Frag) (F H : Hp) : V → PV → Prop
  | val {v : V} {d : PV} : Rep K F v d → Read K F H v d
  | own {a : Addr} {d : PV} : Own K F H a d → Read K F H (.ref a) d
theorem Rel.cont {K : PySem.W.Frag} {g : Gh} {F H : Hp} {σ : St} {env : Ev} {i : Nat} {d : PV} (R : Rel T K g F H σ env) (h : Fx.cont env i = some d) : ∃ v, σ[i]? = some (some v) ∧ Read K F H v d := by
  unfold Fx.cont at h
  split at h
  · rename_i d' hd; cases h
    obtain ⟨v, e, r⟩ := R.va i _ hd
    exact ⟨v, e, .val r⟩
  · rename_i d' hd; cases h
    obtain ⟨a, e, _, _, r⟩ := R.ow i _ hd
    exact ⟨_, e, .own r⟩
  · rename_i d' hd; cases h
    obtain ⟨a, _, e, _, r⟩ := R.io i _ hd
    exact ⟨_, e, .own r⟩
  · cases h
/-- what a list, read now, is -/
theorem Read.lst {K : PySem.W.Frag} {F H : Hp} {v : V} {ds : List PV} (s : Same F H) (h : Read K F H v (.list ds)) : ∃ a xs, v = .ref a ∧ H a = some (.lst xs) ∧ Reps K F xs ds := by
  cases h with
  | val r => cases r with
    | lst h r => exact ⟨_, _, rfl, s _ _ h, r⟩
  | own r => cases r with
    | lst h r => exact ⟨_, _, rfl, h, r⟩
theorem Read.tup {K : PySem.W.Frag} {F H : Hp} {v : V} {ds : List PV} (s : Same F H) (h : Read K F H v (.tuple ds)) : ∃ a xs, v = .ref a ∧ SqT K H a xs ∧ Reps K F xs ds := by
  cases h with
  | val r => cases r with
    | tup h r => exact ⟨_, _, rfl, SqT.mono s h, r⟩
  | own r => cases r
theorem Read.str {K : PySem.W.Frag} {F H : Hp} {v : V} {z : Str} (h : Read K F H v (.str z)) : v = .str z := by
  cases h with
  | val r => exact r.str_iff
  | own r => cases r
def ixN' (i : Nat) (fb : EF) : EF := fun env => match Fx.cont env i with
  | none => none
  | some _ => match fb env with
    | none => none
    | some (k, e) => match Fx.cont e i with
      | none => none
      | some d => match pIx d k with
        | none => none
        | some r => some (r, e)
theorem fe_ixN (i : Nat) {x : Str} {px pos : Pos} {b : Expr} {fb : EF} (hb : FE T X b fb) (hN : X.N[i]? = some x := by rfl) (hv : Vis X.env.scope x := by first | exact Or.inl rfl | exact Or.inr (Or.inl rfl) | exact Or.inr (Or.inr rfl)) (hs : PlainIx b := by exact fun _ _ => rfl)
    (hd : (x == ("__debug__" : Str)) = false := by decide) (hcd : (x == ("__classdict__" : Str)) = false := by decide) : FE T X (.Subscript (.Name x px) b pos) (ixN' i fb) :=
  (pe_ix ix_all (pe_var hN hv hd hcd) hb hs).weak fun σ H Q ⟨gh, F, env, d, env', R, e, q⟩ => by
    unfold ixN' at e
    split at e
    · cases e
    · rename_i d0 h0
      obtain ⟨v, ev, _⟩ := R.cont h0
      refine ⟨v, ev, ?_⟩
      split at e
      · cases e
      · rename_i k e1 eb
        refine ⟨gh, F, env, _, _, R, eb, fun y H1 F1 R1 s1 rb => ?_⟩
        split at e
        · cases e
        · rename_i d1 h1
          obtain ⟨v', ev', rd⟩ := R1.cont h1
          rw [ev] at ev'
          cases ev'
          split at e
          · cases e
          · rename_i r er
            cases e
            unfold pIx at er
            split at er
            · obtain ⟨a, xs, rfl, hl, rr⟩ := rd.lst R1.sub
              obtain ⟨w, e2, r2⟩ := rr.atI er
              exact .inl ⟨_, _, _, _, rfl, rb.int_iff, .inl (.inl hl), e2, q _ _ _ R1 s1 r2⟩
            · obtain ⟨a, xs, rfl, hl, rr⟩ := rd.tup R1.sub
              obtain ⟨w, e2, r2⟩ := rr.atI er
              exact .inr (.inl ⟨_, _, _, _, rfl, rb.int_iff, hl, e2, q _ _ _ R1 s1 r2⟩)
            · have := rd.str
              subst this
              split at er
              · rename_i hz
                cases hc : atI _ _ with
                | none => rw [hc] at er; cases er
                | some c =>
                  rw [hc] at er
                  cases er
                  exact .inr (.inr ⟨_, _, _, rfl, rb.int_iff, hz, hc, q _ _ _ R1 s1 (.str _)⟩)
              · cases er
            · cases er
/-- len of a name -/
def lenN (i : Nat) : EF := fun env => match Fx.cont env i with
  | none => none
  | some d => match pLen [d] with
    | none => none
    | some r => some (r, env)
theorem fe_lenN (i : Nat) {x : Str} {p px pos : Pos} (hg : Gl X "len") (hm : X.mg "len" = none) (hN : X.N[i]? = some x := by rfl) (hv : Vis X.env.scope x := by first | exact Or.inl rfl | exact Or.inr (Or.inl rfl) | exact Or.inr (Or.inr rfl))
    (hd : (x == ("__debug__" : Str)) = false := by decide) (hcd : (x == ("__classdict__" : Str)) = false := by decide) (he : starEach [.Name x px] X.env = (false, eval (.Name x px) X.env) :: starEach [] X.env := by rfl) (hpl : (backTo pos (starEach [] X.env)).any (·.1) = false := by rfl) :
    FE T X (.Call (.Name "len" p) [.Name x px] [] pos) (lenN i) :=
  (pe_callB call_len hg hm PySem.boot_len (pa_cons (pe_var hN hv hd hcd) pa_nil he) (by decide) (by decide) he hpl).weak fun σ H Q ⟨gh, F, env, d, env', R, e, q⟩ => by
    unfold lenN at e
    split at e
    · cases e
    · rename_i d0 h0
      obtain ⟨v, ev, rd⟩ := R.cont h0
      refine ⟨v, ev, ?_⟩
      split at e
      · cases e
      · rename_i r er
        cases e
        unfold pLen at er
        split at er
        · rename_i xs hx
          cases er
          cases hx
          obtain ⟨a, ys, rfl, hl, rr⟩ := rd.lst R.sub
          exact ⟨_, _, rfl, .inl ⟨_, .inl (.inl hl), rfl⟩, by rw [rr.len]; exact q _ _ _ R (Same.refl _) (.int _)⟩
        · rename_i xs hx
          cases er
          cases hx
          obtain ⟨a, ys, rfl, hl, rr⟩ := rd.tup R.sub
          exact ⟨_, _, rfl, .inr ⟨_, hl, rfl⟩, by rw [rr.len]; exact q _ _ _ R (Same.refl _) (.int _)⟩
        · rename_i z hz
          cases hz
          split at er
          · rename_i hl
            cases er
            have := rd.str
            subst this
            exact ⟨_, _, rfl, ⟨hl, rfl⟩, q _ _ _ R (Same.refl _) (.int _)⟩
          · cases er
        · cases er
end
end Fx

namespace Fx
open PySem PySem.Spec L2
open PyProof.Rows hiding St

section
variable {T : List Addr} {K : PySem.W.Frag} {g : Gh} {F H : Hp} {σ : St} {env : Ev}
/-- the object that the name i holds is changed -/
theorem Rel.write (R : Rel T K g F H σ env) {i : Nat} {p : Addr} {o : HO} {d' : PV} {s : Sl} (hp : σ[i]? = some (some (.ref p))) (ho : Own K F (upd H p o) p d') (h : (∃ d, env[i]? = some (.ow d) ∧ s = .ow d') ∨ ∃ d, env[i]? = some (.io d) ∧ s = .io d') :
    Rel T K g F (upd H p o) σ (env.set i s) := by
  have hi : i < env.length := by
    rcases h with ⟨d, e, _⟩ | ⟨d, e, _⟩ <;> exact (List.getElem?_eq_some_iff.mp e).1
  have oi : owns env i := by
    rcases h with ⟨d, e, _⟩ | ⟨d, e, _⟩
    · exact ⟨d, .inl e⟩
    · exact ⟨d, .inr e⟩
  obtain ⟨hF, o₀, hH, hnt⟩ : F p = none ∧ ∃ o₀, H p = some o₀ ∧ ∀ ps, o₀ ≠ .tbl ps := by
    rcases h with ⟨d, e, _⟩ | ⟨d, e, _⟩
    · obtain ⟨a, e1, e2, _, ho⟩ := R.ow i d e
      rw [hp] at e1; cases e1
      exact ⟨e2, ho.at_⟩
    · obtain ⟨a, _, e1, e2, ho⟩ := R.io i d e
      rw [hp] at e1; cases e1
      exact ⟨e2, ho.at_⟩
  have get : ∀ (j : Nat) x, j ≠ i → (env.set i s)[j]? = some x → env[j]? = some x := fun j x hj q => by
    rw [List.getElem?_set_ne (Ne.symm hj)] at q; exact q
  have own' : ∀ j : Nat, owns (env.set i s) j → owns env j := fun j ⟨d, hd⟩ => by
    by_cases hj : j = i
    · rw [hj]; exact oi
    · exact ⟨d, hd.imp (get j _ hj) (get j _ hj)⟩
  have ne : ∀ (j : Nat) (b : Addr), j ≠ i → owns env j → σ[j]? = some (some (.ref b)) → b ≠ p := fun j b hj oj ej z => by
    subst z
    exact hj (R.sep j i b oj oi ej hp)
  refine ⟨by rw [List.length_set]; exact R.len, fun a o' e => ?_, R.f0, R.new, fun a o' e n1 n2 => ?_, fun P hP => ?_, R.nt, fun j d q => ?_, fun j d q => ?_, fun j d q => ?_, fun j a q => ?_, fun a o' q => ?_, fun j k a q1 q2 => R.sep j k a (own' j q1) (own' k q2)⟩
  · rw [upd_ne (fun (z : a = p) => by rw [z, hF] at e; cases e)]
    exact R.sub a o' e
  · have : a ≠ p := fun z => by
      subst z
      rcases h with ⟨d, e', _⟩ | ⟨d, e', _⟩
      · obtain ⟨a', e1, _, e3, _⟩ := R.ow i d e'
        rw [hp] at e1; cases e1
        rw [e] at e3; cases e3
      · obtain ⟨a', e0, e1, _⟩ := R.io i d e'
        rw [hp] at e1; cases e1
        exact n2 i e0
    rw [upd_ne this]
    exact R.keep a o' e n1 n2
  · obtain ⟨ps, e, t⟩ := R.tab P hP
    have : P ≠ p := fun z => by rw [z, hH] at e; cases e; exact hnt ps rfl
    exact ⟨ps, by rw [upd_ne this]; exact e, t⟩
  · have hj : j ≠ i := fun z => by
      rw [z, List.getElem?_set_self hi] at q
      rcases h with ⟨_, _, e⟩ | ⟨_, _, e⟩ <;> rw [e] at q <;> cases q
    exact R.va j d (get j _ hj q)
  · by_cases hj : j = i
    · subst hj
      rw [List.getElem?_set_self hi] at q
      rcases h with ⟨d0, e0, e⟩ | ⟨d0, e0, e⟩
      · rw [e] at q; cases q
        obtain ⟨a, e1, e2, e3, _⟩ := R.ow j d0 e0
        rw [hp] at e1; cases e1
        exact ⟨p, hp, e2, e3, ho⟩
      · rw [e] at q; cases q
    · obtain ⟨a, e1, e2, e3, h4⟩ := R.ow j d (get j _ hj q)
      exact ⟨a, e1, e2, e3, h4.mono (Same.refl _) (upd_ne (ne j a hj ⟨d, .inl (get j _ hj q)⟩ e1))⟩
  · by_cases hj : j = i
    · subst hj
      rw [List.getElem?_set_self hi] at q
      rcases h with ⟨d0, e0, e⟩ | ⟨d0, e0, e⟩
      · rw [e] at q; cases q
      · rw [e] at q; cases q
        obtain ⟨a, e00, e1, e2, _⟩ := R.io j d0 e0
        rw [hp] at e1; cases e1
        exact ⟨p, e00, hp, e2, ho⟩
    · obtain ⟨a, e0, e1, e2, h4⟩ := R.io j d (get j _ hj q)
      exact ⟨a, e0, e1, e2, h4.mono (Same.refl _) (upd_ne (ne j a hj ⟨d, .inr (get j _ hj q)⟩ e1))⟩
  · obtain ⟨e1, d, e2⟩ := R.iok j a q
    refine ⟨e1, ?_⟩
    by_cases hj : j = i
    · subst hj
      rcases h with ⟨d0, e0, e⟩ | ⟨d0, e0, e⟩
      · rw [e2] at e0; cases e0
      · exact ⟨d', by rw [List.getElem?_set_self hi, e]⟩
    · exact ⟨d, by rw [List.getElem?_set_ne (Ne.symm hj)]; exact e2⟩
  · obtain ⟨t1, t2, t3, t4⟩ := R.tm a o' q
    have ha : a ≠ p := fun z => t4 i oi (by rw [hp, z])
    exact ⟨by rw [upd_ne ha]; exact t1, t2, t3, fun j hj => t4 j (own' j hj)⟩
/-- the same in words of the slot -/
inductive Mine : Sl → PV → Prop
  | ow (d : PV) : Mine (.ow d) d
  | io (d : PV) : Mine (.io d) d
def mine (env : Ev) (i : Nat) : Option PV := match env[i]? with
  | some (.ow d) => some d
  | some (.io d) => some d
  | _ => none
def putM (env : Ev) (i : Nat) (d : PV) : Ev := match env[i]? with
  | some (.ow _) => env.set i (.ow d)
  | some (.io _) => env.set i (.io d)
  | _ => env
theorem Rel.mine (R : Rel T K g F H σ env) {i : Nat} {d : PV} (h : Fx.mine env i = some d) : ∃ p, σ[i]? = some (some (.ref p)) ∧ F p = none ∧ Own K F H p d ∧
    ∀ o d', Own K F (upd H p o) p d' → Rel T K g F (upd H p o) σ (putM env i d') := by
  unfold Fx.mine at h
  split at h
  · rename_i d0 e; cases h
    obtain ⟨a, e1, e2, _, ho⟩ := R.ow i _ e
    refine ⟨a, e1, e2, ho, fun o d' ho' => ?_⟩
    have : putM env i d' = env.set i (.ow d') := by unfold putM; rw [e]
    rw [this]
    exact R.write e1 ho' (.inl ⟨_, e, rfl⟩)
  · rename_i d0 e; cases h
    obtain ⟨a, _, e1, e2, ho⟩ := R.io i _ e
    refine ⟨a, e1, e2, ho, fun o d' ho' => ?_⟩
    have : putM env i d' = env.set i (.io d') := by unfold putM; rw [e]
    rw [this]
    exact R.write e1 ho' (.inr ⟨_, e, rfl⟩)
  · cases h
theorem Own.isLst {p : Addr} {ds : List PV} (h : Own K F H p (.list ds)) : ∃ xs, H p = some (.lst xs) ∧ Reps K F xs ds := by
  cases h with
  | lst h r => exact ⟨_, h, r⟩
end

section
variable {T : List Addr} {X : Cx}
def isL (env : Ev) (i : Nat) : Bool := match Fx.mine env i with
  | some (.list _) => true
  | _ => false
def append (i : Nat) (f : EF) : EF := fun env => match isL env i with
  | false => none
  | true => match f env with
    | none => none
    | some (d, e) => match Fx.mine e i with
      | some (.list ds) => if ds.length < sizeLine then some (.none, putM e i (.list (ds ++ [d]))) else none
      | _ => none
theorem isL_eq {env : Ev} {i : Nat} (h : isL env i = true) : ∃ ds, Fx.mine env i = some (.list ds) := by
  unfold isL at h
  split at h
  · rename_i ds e; exact ⟨ds, e⟩
  · cases h
theorem fe_append (i : Nat) {x : Str} {px apos cpos : Pos} {a : Expr} {f : EF} (ha : FE T X a f) (hN : X.N[i]? = some x := by rfl) (hv : Vis X.env.scope x := by first | exact Or.inl rfl | exact Or.inr (Or.inl rfl) | exact Or.inr (Or.inr rfl))
    (hd : (x == ("__debug__" : Str)) = false := by decide) (hcd : (x == ("__classdict__" : Str)) = false := by decide) (hbase : attributeBase (.Name x px) "append" X.env (eval (.Name x px) X.env) = eval (.Name x px) X.env := by rfl)
    (hfew : ((backTo cpos (starEach [a] X.env)).all (fun x => !x.1) && (backToKw cpos (keywordEach [] X.env)).all (fun x => x.1.isSome) && decide ([a].length + ([] : List Keyword).length + (if ([] : List Keyword).isEmpty then 0 else 1) < 30)) = true := by rfl)
    (hline : (apos.endLine == cpos.line) = true := by rfl) (hs : starEach [a] X.env = (false, eval a X.env) :: starEach [] X.env := by rfl) (hplain : (backTo cpos (starEach [] X.env)).any (·.1) = false := by rfl) :
    FE T X (.Call (.Attribute (.Name x px) "append" apos) [a] [] cpos) (append i f) :=
  (pe_bm PySem.F.plainAttrs_list PySem.F.slot_list_append PySem.F.type_list_append mt_append (pe_var hN hv hd hcd) (pa_cons ha pa_nil hs) hbase hfew hline hs hplain).weak fun σ H Q ⟨gh, F, env, d, env', R, e, q⟩ => by
    unfold append at e
    split at e
    · cases e
    · rename_i hl
      obtain ⟨ds0, h0⟩ := isL_eq hl
      obtain ⟨p, ep, _, ho, _⟩ := R.mine h0
      obtain ⟨xs0, hx0, _⟩ := ho.isLst
      refine ⟨.ref p, ep, .inl ⟨rfl, xs0, .inl (.inl hx0)⟩, ?_⟩
      split at e
      · cases e
      · rename_i d1 e1 ef
        refine ⟨gh, F, env, _, _, R, ef, fun y H1 F1 R1 s1 r1 => ?_⟩
        split at e
        · rename_i ds h1
          split at e
          · rename_i hlen
            cases e
            obtain ⟨p', ep', hF1, ho1, upd1⟩ := R1.mine h1
            rw [ep] at ep'; cases ep'
            obtain ⟨xs, hx, rr⟩ := ho1.isLst
            refine ⟨p, xs, y, rfl, rfl, hx, by rw [rr.len]; exact hlen, ?_⟩
            exact q _ _ F1 (upd1 _ _ (.lst upd_same (rr.append (.one r1)))) s1 .non
          · cases e
        · cases e
def pop0 (i : Nat) : EF := fun env => match Fx.mine env i with
  | some (.list ds) => match ds[ds.length - 1]? with
    | some d => some (d, putM env i (.list ds.dropLast))
    | none => none
  | _ => none
theorem Reps.dropLast {K : PySem.W.Frag} {F : Hp} {xs : List V} {ds : List PV} (r : Reps K F xs ds) : Reps K F xs.dropLast ds.dropLast := by
  rw [List.dropLast_eq_take, List.dropLast_eq_take, r.len]
  exact r.take _
theorem fe_pop0 (i : Nat) {x : Str} {px apos cpos : Pos} (hN : X.N[i]? = some x := by rfl) (hv : Vis X.env.scope x := by first | exact Or.inl rfl | exact Or.inr (Or.inl rfl) | exact Or.inr (Or.inr rfl))
    (hd : (x == ("__debug__" : Str)) = false := by decide) (hcd : (x == ("__classdict__" : Str)) = false := by decide) (hbase : attributeBase (.Name x px) "pop" X.env (eval (.Name x px) X.env) = eval (.Name x px) X.env := by rfl)
    (hline : (apos.endLine == cpos.line) = true := by rfl) :
    FE T X (.Call (.Attribute (.Name x px) "pop" apos) [] [] cpos) (pop0 i) :=
  (pe_bm0 PySem.F.plainAttrs_list PySem.F.slot_list_pop PySem.F.type_list_pop mt_pop (pe_var hN hv hd hcd) hbase hline).weak fun σ H Q ⟨gh, F, env, d, env', R, e, q⟩ => by
    unfold pop0 at e
    split at e
    · rename_i ds h0
      split at e
      · rename_i d1 hd1
        cases e
        obtain ⟨p, ep, hF, ho, up⟩ := R.mine h0
        obtain ⟨xs, hx, rr⟩ := ho.isLst
        obtain ⟨v, hv1, rv⟩ := rr.get hd1
        refine ⟨.ref p, ep, .inl ⟨rfl, xs, .inl (.inl hx)⟩, p, xs, v, rfl, rfl, hx, by rw [rr.len]; exact hv1, ?_⟩
        exact q _ _ F (up _ _ (.lst upd_same rr.dropLast)) (Same.refl _) rv
      · cases e
    · cases e
def popAt (i : Nat) (f : EF) : EF := fun env => match isL env i with
  | false => none
  | true => match f env with
    | some (.int k, e) => match Fx.mine e i with
      | some (.list ds) => if -(2 ^ 63) ≤ k ∧ k < 2 ^ 63 then match seqIndex? k ds.length with
        | none => none
        | some j => match ds[j]? with
          | none => none
          | some d => some (d, putM e i (.list (ds.eraseIdx j)))
        else none
      | _ => none
    | _ => none
theorem Reps.eraseIdx {K : PySem.W.Frag} {F : Hp} : ∀ {xs : List V} {ds : List PV} (j : Nat), Reps K F xs ds → Reps K F (xs.eraseIdx j) (ds.eraseIdx j)
  | _, _, _, .nil => .nil
  | _, _, 0, .cons _ t => t
  | _, _, j + 1, .cons r t => .cons r (Reps.eraseIdx j t)
theorem fe_popAt (i : Nat) {x : Str} {px apos cpos : Pos} {a : Expr} {f : EF} (ha : FE T X a f) (hN : X.N[i]? = some x := by rfl) (hv : Vis X.env.scope x := by first | exact Or.inl rfl | exact Or.inr (Or.inl rfl) | exact Or.inr (Or.inr rfl))
    (hd : (x == ("__debug__" : Str)) = false := by decide) (hcd : (x == ("__classdict__" : Str)) = false := by decide) (hbase : attributeBase (.Name x px) "pop" X.env (eval (.Name x px) X.env) = eval (.Name x px) X.env := by rfl)
    (hfew : ((backTo cpos (starEach [a] X.env)).all (fun x => !x.1) && (backToKw cpos (keywordEach [] X.env)).all (fun x => x.1.isSome) && decide ([a].length + ([] : List Keyword).length + (if ([] : List Keyword).isEmpty then 0 else 1) < 30)) = true := by rfl)
    (hline : (apos.endLine == cpos.line) = true := by rfl) (hs : starEach [a] X.env = (false, eval a X.env) :: starEach [] X.env := by rfl) (hplain : (backTo cpos (starEach [] X.env)).any (·.1) = false := by rfl) :
    FE T X (.Call (.Attribute (.Name x px) "pop" apos) [a] [] cpos) (popAt i f) :=
  (pe_bm PySem.F.plainAttrs_list PySem.F.slot_list_pop PySem.F.type_list_pop mt_popAt (pe_var hN hv hd hcd) (pa_cons ha pa_nil hs) hbase hfew hline hs hplain).weak fun σ H Q ⟨gh, F, env, d, env', R, e, q⟩ => by
    unfold popAt at e
    split at e
    · cases e
    · rename_i hl
      obtain ⟨ds0, h0⟩ := isL_eq hl
      obtain ⟨p, ep, _, ho, _⟩ := R.mine h0
      obtain ⟨xs0, hx0, _⟩ := ho.isLst
      refine ⟨.ref p, ep, .inl ⟨rfl, xs0, .inl (.inl hx0)⟩, ?_⟩
      split at e
      · rename_i k e1 ef
        refine ⟨gh, F, env, _, _, R, ef, fun y H1 F1 R1 s1 r1 => ?_⟩
        split at e
        · rename_i ds h1
          split at e
          · rename_i hk
            split at e
            · cases e
            · rename_i j hj
              split at e
              · cases e
              · rename_i d1 hd1
                cases e
                obtain ⟨p', ep', hF1, ho1, upd1⟩ := R1.mine h1
                rw [ep] at ep'; cases ep'
                obtain ⟨xs, hx, rr⟩ := ho1.isLst
                obtain ⟨v, hv1, rv⟩ := rr.get hd1
                refine ⟨p, xs, k, j, v, rfl, by rw [r1.int_iff], hx, hk.1, hk.2, by rw [rr.len]; exact hj, hv1, ?_⟩
                exact q _ _ F1 (upd1 _ _ (.lst upd_same (rr.eraseIdx j))) s1 rv
          · cases e
        · cases e
      · cases e
/-- x.extend(e), e a new list of its own -/
def extend (i : Nat) (f : EF) : EF := fun env => match isL env i with
  | false => none
  | true => match f env with
    | some (.list zs, e) => match Fx.mine e i with
      | some (.list ds) => if ds.length + zs.length ≤ sizeLine then some (.none, putM e i (.list (ds ++ zs))) else none
      | _ => none
    | _ => none
theorem fe_extend (i : Nat) {x : Str} {px apos cpos : Pos} {a : Expr} {f : EF} (ha : FE T X a f) (hN : X.N[i]? = some x := by rfl) (hv : Vis X.env.scope x := by first | exact Or.inl rfl | exact Or.inr (Or.inl rfl) | exact Or.inr (Or.inr rfl))
    (hd : (x == ("__debug__" : Str)) = false := by decide) (hcd : (x == ("__classdict__" : Str)) = false := by decide) (hbase : attributeBase (.Name x px) "extend" X.env (eval (.Name x px) X.env) = eval (.Name x px) X.env := by rfl)
    (hfew : ((backTo cpos (starEach [a] X.env)).all (fun x => !x.1) && (backToKw cpos (keywordEach [] X.env)).all (fun x => x.1.isSome) && decide ([a].length + ([] : List Keyword).length + (if ([] : List Keyword).isEmpty then 0 else 1) < 30)) = true := by rfl)
    (hline : (apos.endLine == cpos.line) = true := by rfl) (hs : starEach [a] X.env = (false, eval a X.env) :: starEach [] X.env := by rfl) (hplain : (backTo cpos (starEach [] X.env)).any (·.1) = false := by rfl) :
    FE T X (.Call (.Attribute (.Name x px) "extend" apos) [a] [] cpos) (extend i f) :=
  (pe_bm PySem.F.plainAttrs_list PySem.F.slot_list_extend PySem.F.type_list_extend mt_extend (pe_var hN hv hd hcd) (pa_cons ha pa_nil hs) hbase hfew hline hs hplain).weak fun σ H Q ⟨gh, F, env, d, env', R, e, q⟩ => by
    unfold extend at e
    split at e
    · cases e
    · rename_i hl
      obtain ⟨ds0, h0⟩ := isL_eq hl
      obtain ⟨p, ep, _, ho, _⟩ := R.mine h0
      obtain ⟨xs0, hx0, _⟩ := ho.isLst
      refine ⟨.ref p, ep, .inl ⟨rfl, xs0, .inl (.inl hx0)⟩, ?_⟩
      split at e
      · rename_i zs e1 ef
        refine ⟨gh, F, env, _, _, R, ef, fun y H1 F1 R1 s1 r1 => ?_⟩
        split at e
        · rename_i ds h1
          split at e
          · rename_i hlen
            cases e
            obtain ⟨p', ep', hF1, ho1, upd1⟩ := R1.mine h1
            rw [ep] at ep'; cases ep'
            obtain ⟨xs, hx, rr⟩ := ho1.isLst
            cases r1 with
            | lst hb rb =>
              refine ⟨p, _, xs, _, rfl, rfl, hx, R1.sub _ _ hb, by rw [rr.len, rb.len]; exact hlen, ?_⟩
              exact q _ _ F1 (upd1 _ _ (.lst upd_same (rr.append rb))) s1 .non
          · cases e
        · cases e
      · cases e
def setIx (i : Nat) (fk fe : EF) : SF := fun env => match fe env with
  | none => none
  | some (d, e) => match isL e i with
    | false => none
    | true => match fk e with
      | some (.int k, e2) => match Fx.mine e2 i with
        | some (.list ds) => match ixN ds.length k with
          | none => none
          | some j => some (.nx (putM e2 i (.list (ds.set j d))))
        | _ => none
      | _ => none
theorem fs_setIx (i : Nat) {x : Str} {px tpos pos : Pos} {b a : Expr} {fk fe : EF} (hb : FE T X b fk) (ha : FE T X a fe) (hN : X.N[i]? = some x := by rfl) (hv : Vis X.env.scope x := by first | exact Or.inl rfl | exact Or.inr (Or.inl rfl) | exact Or.inr (Or.inr rfl))
    (hd : (x == ("__debug__" : Str)) = false := by decide) (hcd : (x == ("__classdict__" : Str)) = false := by decide)
    (has : ∀ v, assign (.Subscript (.Name x px) b tpos) X.env v = (do
      let ov ← holding [v] (eval (.Name x px) X.env)
      let iv ← holding [v, ov] (eval b X.env)
      standAt tpos
      holding [v, ov, iv] (setItem ov iv v)
      release [v, ov, iv] []) := by intro _; rfl) (hs : swapsWithSole [.Subscript (.Name x px) b tpos] a pos.line X.env = pure false := by rfl) (hw : swappedStores [.Subscript (.Name x px) b tpos] a X.env = pure none := by rfl)
    (h1 : (assignEach [.Subscript (.Name x px) b tpos] X.env).map (·.2) = [assign (.Subscript (.Name x px) b tpos) X.env] := by rfl) : FS T X (.Assign [.Subscript (.Name x px) b tpos] a pos) (setIx i fk fe) :=
  (ps_asg ha (pg_sub (pe_var hN hv hd hcd) hb set_list has) hs hw h1).weak fun D σ H ⟨gh, F, env, out, R, e, q⟩ => by
    unfold setIx at e
    split at e
    · cases e
    · rename_i d e1 ef
      refine ⟨gh, F, env, _, _, R, ef, fun v H1 F1 R1 s1 r1 => ?_⟩
      split at e
      · cases e
      · rename_i hl
        obtain ⟨ds0, h0⟩ := isL_eq hl
        obtain ⟨p, ep, _, ho, _⟩ := R1.mine h0
        refine ⟨.ref p, ep, ?_⟩
        split at e
        · rename_i k e2 ek
          refine ⟨gh, F1, _, _, _, R1, ek, fun y H2 F2 R2 s2 r2 => ?_⟩
          split at e
          · rename_i ds h2
            split at e
            · cases e
            · rename_i j hj
              cases e
              obtain ⟨p', ep', hF1, ho1, upd1⟩ := R2.mine h2
              rw [ep] at ep'; cases ep'
              obtain ⟨xs, hx, rr⟩ := ho1.isLst
              refine ⟨p, xs, k, j, rfl, r2.int_iff, hx, by rw [rr.len]; exact hj, ?_⟩
              exact q _ _ F2 (upd1 _ _ (.lst upd_same (Reps.set (r1.mono s2) j rr))) (s1.trans s2)
          · cases e
        · cases e
/-- xs[i] as a value, for op= -/
theorem get_list : PGet X (rIxL X.K) := by
  intro pins s σ H x y v u Q I rx ry h
  obtain ⟨p, xs, i, z, rfl, rfl, hq, he, q⟩ := h
  cases rx
  obtain ⟨t, rfl⟩ := ry
  obtain ⟨its, r, pl, hz⟩ := I.list hq
  obtain ⟨j, h1, h2, h3, h4, h5⟩ := atI_get he
  obtain ⟨w, ew, rw'⟩ := r.get h2
  have hl := r.length
  have hn := line63
  have fin : EP X pins σ Q w s := ⟨z, H, I, rw', q⟩
  by_cases h0 : 0 ≤ i
  · have hj : i.toNat = j := by
      rw [seqIndex_of h0 h5] at h1
      exact Option.some.inj h1
    exact wpAny_getItem_list (x := w) pl.isList h0 (by omega) (by rw [hj]; simpa using ew) fin
  · have hj : (i + (its.toArray.size : Int)).toNat = j := by
      rw [seqIndex_neg (by omega) h4] at h1
      rw [List.size_toArray, ← hl]
      exact Option.some.inj h1
    exact wpAny_getItem_list_neg (x := w) pl.isList (by omega) (by rw [List.size_toArray] <;> omega) (by omega) (by rw [hj]; simpa using ew) fin
def augIx (i : Nat) (g : PV → PV → Option PV) (fk fe : EF) : SF := fun env => match isL env i with
  | false => none
  | true => match fk env with
    | some (.int k, e1) => match Fx.mine e1 i with
      | some (.list ds) => match atI ds k with
        | none => none
        | some a => match fe e1 with
          | none => none
          | some (b, e2) => match g a b with
            | none => none
            | some d => match Fx.mine e2 i with
              | some (.list es) => match ixN es.length k with
                | none => none
                | some j => some (.nx (putM e2 i (.list (es.set j d))))
              | _ => none
      | _ => none
    | _ => none
theorem fs_augIx (i : Nat) {x : Str} {px tpos pos : Pos} {b a : Expr} {op : Operator} {r : R2} {g : PV → PV → Option PV} {fk fe : EF} (ho : OpR X (inplaceOp op) r) (hg : OpF T X.K r g) (hb : FE T X b fk) (ha : FE T X a fe) (hN : X.N[i]? = some x := by rfl) (hv : Vis X.env.scope x := by first | exact Or.inl rfl | exact Or.inr (Or.inl rfl) | exact Or.inr (Or.inr rfl))
    (hd : (x == ("__debug__" : Str)) = false := by decide) (hcd : (x == ("__classdict__" : Str)) = false := by decide)
    (has : ∀ ov iv new, augStore b ov iv new = (do holding [new, ov, iv] (setItem ov iv new); release [new, ov, iv] []; pure .next) := by intros; rfl) : FS T X (.AugAssign (.Subscript (.Name x px) b tpos) op a pos) (augIx i g fk fe) :=
  (ps_augS (pe_var hN hv hd hcd) hb get_list ha (show PIp X op r from ho) set_list has).weak fun D σ H ⟨gh, F, env, out, R, e, q⟩ => by
    unfold augIx at e
    split at e
    · cases e
    · rename_i hl
      obtain ⟨ds0, h0⟩ := isL_eq hl
      obtain ⟨p, ep, _, _, _⟩ := R.mine h0
      refine ⟨.ref p, ep, ?_⟩
      split at e
      · rename_i k e1 ek
        refine ⟨gh, F, env, _, _, R, ek, fun y H1 F1 R1 s1 r1 => ?_⟩
        split at e
        · rename_i ds h1
          split at e
          · cases e
          · rename_i a0 ha0
            obtain ⟨p', ep', _, ho1, _⟩ := R1.mine h1
            rw [ep] at ep'; cases ep'
            obtain ⟨xs, hx, rr⟩ := ho1.isLst
            obtain ⟨v, hv1, rv⟩ := rr.atI ha0
            refine ⟨p, xs, k, v, rfl, r1.int_iff, .inl (.inl hx), hv1, ?_⟩
            split at e
            · cases e
            · rename_i b0 e2 eb
              refine ⟨gh, F1, _, _, _, R1, eb, fun w H2 F2 R2 s2 r2 => ?_⟩
              split at e
              · cases e
              · rename_i d eg
                split at e
                · rename_i es h2
                  split at e
                  · cases e
                  · rename_i j hj
                    cases e
                    refine hg gh F2 H2 σ _ v w a0 b0 d _ R2 (rv.mono s2) r2 eg fun z H3 F3 R3 s3 r3 => ?_
                    obtain ⟨p', ep', _, ho2, upd2⟩ := R3.mine h2
                    rw [ep] at ep'; cases ep'
                    obtain ⟨ys, hy, rr2⟩ := ho2.isLst
                    refine ⟨p, ys, k, j, rfl, r1.int_iff, hy, by rw [rr2.len]; exact hj, ?_⟩
                    exact q _ _ F3 (upd2 _ _ (.lst upd_same (Reps.set r3 j rr2))) (s1.trans (s2.trans s3))
                · cases e
        · cases e
      · cases e

/-- the items of a list, a tuple, the signs of a text -/
def items : PV → Option (List PV)
  | .list xs => some xs
  | .tuple xs => some xs
  | .str z => some (z.cps.toList.map fun c => .str ⟨#[c]⟩)
  | _ => none
def wSeq (f : EF) : AF := fun env => match f env with
  | none => none
  | some (d, e) => match items d with
    | none => none
    | some ds => some (ds, e)
def iSeq (K : PySem.W.Frag) (te : TE) : TI := fun σ H R => te σ H fun x H1 => (∃ a xs, x = .ref a ∧ SqL K H1 a xs ∧ R (Itl K a) H1) ∨ (∃ a xs, x = .ref a ∧ SqT K H1 a xs ∧ R (Itt K a) H1) ∨ ∃ z, x = .str z ∧ R (Its z) H1
theorem pi_seq {tg l : Expr} {te : TE} (hl : PE X l te) : PI X tg l (iSeq X.K te) := by
  refine ⟨fun pins s σ H R I h => ?_⟩
  refine thn (hl.run pins s σ H _ I h) fun v s1 ⟨x, H1, I1, r1, q1⟩ => ?_
  rcases q1 with ⟨a, xs, e, hq, q⟩ | ⟨a, xs, e, hq, q⟩ | ⟨z, e, q⟩
  · subst e
    cases r1
    obtain ⟨its, rv, p, hz⟩ := I1.list hq
    refine wpAny_pyIter_list p.isList ?_
    refine ⟨s1.heap.objs.size, [s1.heap.objs.size], _, _, H1, rfl, I1.kept (t' := s1.toks) fun b o e => Heap.get?_push_of_some _ e, turn_list a _, ⟨_, Heap.get?_push_size _ rfl, rfl, rfl⟩, fun b hb => ?_, q⟩
    have e : b = s1.heap.objs.size := by simpa using hb
    subst e
    exact I1.fpOk (Nat.le_refl _) (I1.hok.fresh (Nat.le_refl _))
  · subst e
    cases r1
    obtain ⟨its, rv, p, hz⟩ := I1.tuple hq
    refine wpAny_pyIter_tuple (show s1.heap.IsTuple a its.toArray from p) ?_
    refine ⟨s1.heap.objs.size, [s1.heap.objs.size], _, _, H1, rfl, I1.kept (t' := s1.toks) fun b o e => Heap.get?_push_of_some _ e, turn_tuple a _, ⟨_, Heap.get?_push_size _ rfl, rfl, rfl⟩, fun b hb => ?_, q⟩
    have e : b = s1.heap.objs.size := by simpa using hb
    subst e
    exact I1.fpOk (Nat.le_refl _) (I1.hok.fresh (Nat.le_refl _))
  · subst e
    obtain ⟨t, rfl⟩ := r1
    cases ha : z.cps.all (· < 128)
    · exact wpAny_pyIter_wide ha (pi_one (tk := s1.toks) I1 _ (turn_str _ z t "str_iterator" (.inr rfl)) ⟨_, Heap.get?_push_size _ rfl, rfl, rfl⟩ q)
    · exact wpAny_pyIter_ascii ha (pi_one (tk := s1.toks) I1 _ (turn_str _ z t "str_ascii_iterator" (.inl rfl)) ⟨_, Heap.get?_push_size _ rfl, rfl, rfl⟩ q)
theorem yields_lst {K : PySem.W.Frag} {F : Hp} {a : Addr} {xs : List V} {ds : List PV} (h : F a = some (.lst xs)) (r : Reps K F xs ds) : Yields T K (Itl K a) ds F := fun g i F' H σ env R s => by
  have hH : SqL K H a xs := .inl (.inl (R.sub _ _ (s _ _ h)))
  refine ⟨fun d hd => ?_, fun hn => ?_⟩
  · obtain ⟨v, hv, rv⟩ := r.get hd
    refine ⟨⟨xs, v, hH, hv⟩, fun x H' hy => ?_⟩
    obtain ⟨rfl, hy⟩ := hy
    have := hy xs hH
    rw [hv] at this; cases this
    exact ⟨F', R, Same.refl _, rv.mono s⟩
  · exact ⟨xs, hH, by rw [r.len]; exact List.getElem?_eq_none_iff.mp hn⟩
theorem SqT.uniq {K : PySem.W.Frag} {F : Hp} {a : Addr} {xs ys : List V} (h : SqT K F a xs) (h' : SqT K F a ys) : (F a = none → True) := fun _ => trivial
theorem yields_tup {K : PySem.W.Frag} {F : Hp} {a : Addr} {xs : List V} {ds : List PV} (h : SqT K F a xs) (r : Reps K F xs ds) : Yields T K (Itt K a) ds F := fun g i F' H σ env R s => by
  have hH : SqT K H a xs := SqT.mono R.sub (SqT.mono s h)
  refine ⟨fun d hd => ?_, fun hn => ?_⟩
  · obtain ⟨v, hv, rv⟩ := r.get hd
    refine ⟨⟨xs, v, hH, hv⟩, fun x H' hy => ?_⟩
    obtain ⟨rfl, hy⟩ := hy
    have := hy xs hH
    rw [hv] at this; cases this
    exact ⟨F', R, Same.refl _, rv.mono s⟩
  · exact ⟨xs, hH, by rw [r.len]; exact List.getElem?_eq_none_iff.mp hn⟩
theorem yields_str {K : PySem.W.Frag} {F : Hp} {z : Str} : Yields T K (Its z) (z.cps.toList.map fun c => .str ⟨#[c]⟩) F := fun g i F' H σ env R s => by
  refine ⟨fun d hd => ?_, fun hn => ?_⟩
  · rw [List.getElem?_map] at hd
    cases hc : z.cps.toList[i]? with
    | none => rw [hc] at hd; cases hd
    | some c =>
      rw [hc] at hd
      cases hd
      have hi : i < z.cps.size := by
        have := (List.getElem?_eq_some_iff.mp hc).1
        simpa using this
      refine ⟨hi, fun x H' hy => ?_⟩
      obtain ⟨rfl, c', hc', rfl⟩ := hy
      rw [Array.getElem?_toList] at hc
      rw [hc] at hc'; cases hc'
      exact ⟨F', R, Same.refl _, .str _⟩
  · rw [List.getElem?_map] at hn
    cases hc : z.cps.toList[i]? with
    | none =>
      have := List.getElem?_eq_none_iff.mp hc
      show z.cps.size ≤ i
      simpa using this
    | some c => rw [hc] at hn; cases hn
theorem fi_seq {tg e : Expr} {f : EF} (h : FE T X e f) : FI T X tg e (wSeq f) :=
  (pi_seq h).weak fun σ H Q ⟨gh, F, env, ds, env', R, e, q⟩ => by
    unfold wSeq at e
    split at e
    · cases e
    · rename_i d e1 ef
      split at e
      · cases e
      · rename_i ds' ei
        cases e
        refine ⟨gh, F, env, _, _, R, ef, fun v H1 F1 R1 s1 r1 => ?_⟩
        unfold items at ei
        split at ei
        · cases ei
          cases r1 with
          | lst h rr => exact .inl ⟨_, _, rfl, .inl (.inl (R1.sub _ _ h)), q _ _ _ R1 s1 (yields_lst h rr)⟩
        · cases ei
          cases r1 with
          | tup h rr => exact .inr (.inl ⟨_, _, rfl, SqT.mono R1.sub h, q _ _ _ R1 s1 (yields_tup h rr)⟩)
        · cases ei
          have := r1.str_iff
          subst this
          exact .inr (.inr ⟨_, rfl, q _ _ _ R1 s1 yields_str⟩)
        · cases ei
/-- range -/
def rngL (lo : Int) : Nat → List PV
  | 0 => []
  | n + 1 => .int lo :: rngL (lo + 1) n
theorem rngL_get : ∀ (n : Nat) (lo : Int) (i : Nat), (rngL lo n)[i]? = if i < n then some (.int (lo + i)) else none
  | 0, lo, i => by simp [rngL]
  | n + 1, lo, 0 => by simp [rngL]
  | n + 1, lo, i + 1 => by
    show (rngL (lo + 1) n)[i]? = _
    rw [rngL_get n (lo + 1) i]
    by_cases h : i < n
    · rw [if_pos h, if_pos (by omega)]
      congr 2
      omega
    · rw [if_neg h, if_neg (by omega)]
theorem yields_rng {K : PySem.W.Frag} {F : Hp} {lo : Int} {n : Nat} : Yields T K (Itr lo n) (rngL lo n) F := fun g i F' H σ env R s => by
  rw [rngL_get]
  by_cases h : i < n
  · rw [if_pos h]
    refine ⟨fun d hd => ?_, fun hn => by cases hn⟩
    cases hd
    refine ⟨h, fun x H' hy => ?_⟩
    obtain ⟨rfl, rfl⟩ := hy
    exact ⟨F', R, Same.refl _, .int _⟩
  · rw [if_neg h]
    exact ⟨fun d hd => (by cases hd), fun _ => (by show n ≤ i; omega)⟩
def wRng1 (f : EF) : AF := fun env => match f env with
  | some (.int j, e) => if -(2 ^ 62) ≤ j ∧ j < 2 ^ 62 then some (rngL 0 j.toNat, e) else none
  | _ => none
def wRng2 (f h : EF) : AF := fun env => match f env with
  | some (.int i, e) => match h e with
    | some (.int j, e2) => if -(2 ^ 62) ≤ i ∧ i < 2 ^ 62 ∧ -(2 ^ 62) ≤ j ∧ j < 2 ^ 62 then some (rngL i (j - i).toNat, e2) else none
    | _ => none
  | _ => none
theorem fi_rng1 {tg a : Expr} {p pos : Pos} {f : EF} (hg : Gl X "range") (hm : X.mg "range" = none) (ha : FE T X a f) (hs : starEach [a] X.env = [(false, eval a X.env)] := by rfl) : FI T X tg (.Call (.Name "range" p) [a] [] pos) (wRng1 f) :=
  (pi_range1 hg hm (pa_cons ha pa_nil hs) hs).weak fun σ H Q ⟨gh, F, env, ds, env', R, e, q⟩ => by
    unfold wRng1 at e
    split at e
    · rename_i j e1 ef
      split at e
      · rename_i hj
        cases e
        refine ⟨gh, F, env, _, _, R, ef, fun v H1 F1 R1 s1 r1 => ⟨j, by rw [r1.int_iff], hj.1, hj.2, q _ _ _ R1 s1 yields_rng⟩⟩
      · cases e
    · cases e
theorem fi_rng2 {tg a b : Expr} {p pos : Pos} {f h : EF} (hg : Gl X "range") (hm : X.mg "range" = none) (ha : FE T X a f) (hb : FE T X b h) (hs : starEach [a, b] X.env = [(false, eval a X.env), (false, eval b X.env)] := by rfl) (hs2 : starEach [b] X.env = [(false, eval b X.env)] := by rfl) : FI T X tg (.Call (.Name "range" p) [a, b] [] pos) (wRng2 f h) :=
  (pi_range2 hg hm (pa_cons ha (pa_cons hb pa_nil hs2) (by rw [hs, hs2])) hs hs2).weak fun σ H Q ⟨gh, F, env, ds, env', R, e, q⟩ => by
    unfold wRng2 at e
    split at e
    · rename_i i e1 ef
      split at e
      · rename_i j e2 eh
        split at e
        · rename_i hj
          cases e
          refine ⟨gh, F, env, _, _, R, ef, fun v H1 F1 R1 s1 r1 => ⟨gh, F1, _, _, _, R1, eh, fun w H2 F2 R2 s2 r2 => ⟨i, j, by rw [r1.int_iff, r2.int_iff], hj, q _ _ _ R2 (s1.trans s2) yields_rng⟩⟩⟩
        · cases e
      · cases e
    · cases e
/-- reversed(list) -/
def wRev (f : EF) : AF := fun env => match f env with
  | some (.list xs, e) => some (xs.reverse, e)
  | _ => none
theorem yields_rev {K : PySem.W.Frag} {F : Hp} {a : Addr} {xs : List V} {ds : List PV} (h : F a = some (.lst xs)) (r : Reps K F xs ds) : Yields T K (Itv K a xs.length) ds.reverse F := fun g i F' H σ env R s => by
  have hH : SqL K H a xs := .inl (.inl (R.sub _ _ (s _ _ h)))
  have hl := r.len
  by_cases hi : i < ds.length
  · have e1 : ds.reverse[i]? = ds[ds.length - 1 - i]? := List.getElem?_reverse hi
    rw [e1]
    refine ⟨fun d hd => ?_, fun hn => ?_⟩
    · obtain ⟨v, hv, rv⟩ := r.get hd
      rw [← hl] at hv
      refine ⟨⟨by omega, xs, v, hH, hv⟩, fun x H' hy => ?_⟩
      obtain ⟨rfl, hy⟩ := hy
      have := hy xs hH
      rw [hv] at this; cases this
      exact ⟨F', R, Same.refl _, rv.mono s⟩
    · have := List.getElem?_eq_none_iff.mp hn
      omega
  · have e1 : ds.reverse[i]? = none := List.getElem?_eq_none_iff.mpr (by rw [List.length_reverse]; omega)
    rw [e1]
    exact ⟨fun d hd => (by cases hd), fun _ => (by show xs.length ≤ i; omega)⟩
theorem fi_rev {tg a : Expr} {p pos : Pos} {f : EF} (hg : Gl X "reversed") (hm : X.mg "reversed" = none) (ha : FE T X a f) (hs : starEach [a] X.env = [(false, eval a X.env)] := by rfl) : FI T X tg (.Call (.Name "reversed" p) [a] [] pos) (wRev f) :=
  (pi_reversed hg hm (pa_cons ha pa_nil hs) hs).weak fun σ H Q ⟨gh, F, env, ds, env', R, e, q⟩ => by
    unfold wRev at e
    split at e
    · rename_i xs e1 ef
      cases e
      refine ⟨gh, F, env, _, _, R, ef, fun v H1 F1 R1 s1 r1 => ?_⟩
      cases r1 with
      | lst h rr => exact ⟨_, _, rfl, .inl (.inl (R1.sub _ _ h)), q _ _ _ R1 s1 (yields_rev h rr)⟩
    · cases e
/-- enumerate(list) -/
def enumL (i : Int) : List PV → List PV
  | [] => []
  | d :: r => .tuple [.int i, d] :: enumL (i + 1) r
theorem enumL_get : ∀ (ds : List PV) (k : Int) (i : Nat), (enumL k ds)[i]? = ds[i]?.map fun d => .tuple [.int (k + i), d]
  | [], k, i => by simp [enumL]
  | d :: r, k, 0 => by simp [enumL]
  | d :: r, k, i + 1 => by
    show (enumL (k + 1) r)[i]? = _
    rw [enumL_get r (k + 1) i]
    simp only [List.getElem?_cons_succ]
    cases r[i]? with
    | none => rfl
    | some x =>
      simp only [Option.map_some, Option.some.injEq, PyData.tuple.injEq, List.cons.injEq, PyData.int.injEq, and_true]
      omega
def wEnum (f : EF) : AF := fun env => match f env with
  | some (.list xs, e) => some (enumL 0 xs, e)
  | _ => none
theorem yields_enum {K : PySem.W.Frag} {F : Hp} {a : Addr} {xs : List V} {ds : List PV} (h : F a = some (.lst xs)) (r : Reps K F xs ds) : Yields T K (Ite K a) (enumL 0 ds) F := fun g i F' H σ env R s => by
  have hH : SqL K H a xs := .inl (.inl (R.sub _ _ (s _ _ h)))
  rw [enumL_get]
  refine ⟨fun d hd => ?_, fun hn => ?_⟩
  · cases hx : ds[i]? with
    | none => rw [hx] at hd; cases hd
    | some d0 =>
      rw [hx] at hd
      cases hd
      obtain ⟨v, hv, rv⟩ := r.get hx
      refine ⟨⟨xs, v, hH, hv⟩, fun x H' hy => ?_⟩
      obtain ⟨t, y, rfl, hT, rfl, hy⟩ := hy
      have := hy xs hH
      rw [hv] at this; cases this
      obtain ⟨R2, s2⟩ := R.laidF (o := .tup [.int (i : Nat), v]) hT
      refine ⟨_, R2, s2, .tup (.inl (.inl upd_same)) (.cons ?_ (.cons (rv.mono (s.trans s2)) .nil))⟩
      rw [Int.zero_add]
      exact .int _
  · cases hx : ds[i]? with
    | none => exact ⟨xs, hH, by rw [r.len]; exact List.getElem?_eq_none_iff.mp hx⟩
    | some d0 => rw [hx] at hn; cases hn
theorem fi_enum {a : Expr} {elts : List Expr} {kk : Nat} {tpos p pos : Pos} {f : EF} (hg : Gl X "enumerate") (hm : X.mg "enumerate" = none) (ha : FE T X a f) (hs : starEach [a] X.env = [(false, eval a X.env)] := by rfl) : FI T X (.Tuple elts kk tpos) (.Call (.Name "enumerate" p) [a] [] pos) (wEnum f) :=
  (pi_enum hg hm (pa_cons ha pa_nil hs) hs).weak fun σ H Q ⟨gh, F, env, ds, env', R, e, q⟩ => by
    unfold wEnum at e
    split at e
    · rename_i xs e1 ef
      cases e
      refine ⟨gh, F, env, _, _, R, ef, fun v H1 F1 R1 s1 r1 => ?_⟩
      cases r1 with
      | lst h rr => exact ⟨_, _, rfl, .inl (.inl (R1.sub _ _ h)), q _ _ _ R1 s1 (yields_enum h rr)⟩
    · cases e

def wipeE (env : Ev) : List Nat → Ev
  | [] => env
  | i :: r => (wipeE env r).set i .no
/-- the block's turns: what is made so far, the items left -/
def coF (vs : List Nat) (bi : BF) (t : TF) (f : EF) : List PV → List PV → Ev → Option (List PV × Ev)
  | [], acc, env => some (acc, env)
  | d :: ds, acc, env => match bi d env with
    | none => none
    | some e => match t e with
      | none => none
      | some (false, e2) => coF vs bi t f ds acc (wipeE e2 vs)
      | some (true, e2) => match f e2 with
        | none => none
        | some (r, e3) => if acc.length < sizeLine then coF vs bi t f ds (acc ++ [r]) (wipeE e3 vs) else none
def eLc (vs : List Nat) (w : AF) (bi : BF) (t : TF) (f : EF) : EF := fun env => match w env with
  | none => none
  | some (ds, e) => if vs.all (fun i => match e[i]? with | some (.io _) => false | _ => true) then match coF vs bi t f ds [] (wipeE e vs) with
      | none => none
      | some (acc, e2) => some (.list acc, wipeE e2 vs)
    else none
end
end Fx

namespace Fx
open PySem PySem.Spec L2
open PyProof.Rows hiding St

section
variable {T : List Addr} {K : PySem.W.Frag} {g : Gh} {F H : Hp} {σ : St} {env : Ev}
theorem wipeE_get : ∀ {vs : List Nat} {j : Nat}, (wipeE env vs)[j]? = if j ∈ vs ∧ j < env.length then some .no else env[j]?
  | [], j => by simp [wipeE]
  | v :: vs, j => by
    unfold wipeE
    have hlen : ∀ ws : List Nat, (wipeE env ws).length = env.length := fun ws => by
      induction ws with
      | nil => rfl
      | cons w ws ih => unfold wipeE; rw [List.length_set, ih]
    by_cases h : v = j
    · subst h
      by_cases hl : v < env.length
      · rw [List.getElem?_set_self (by rw [hlen]; exact hl), if_pos ⟨List.mem_cons_self, hl⟩]
      · rw [List.getElem?_eq_none (by rw [List.length_set, hlen]; omega), if_neg (fun z => hl z.2), List.getElem?_eq_none (by omega)]
    · rw [List.getElem?_set_ne h, wipeE_get]
      have : (j ∈ v :: vs) ↔ j ∈ vs := by
        rw [List.mem_cons]
        exact ⟨fun z => z.resolve_left (fun z => h z.symm), .inr⟩
      simp only [this]
theorem wipeE_len : ∀ ws : List Nat, (wipeE env ws).length = env.length := fun ws => by
  induction ws with
  | nil => rfl
  | cons w ws ih => unfold wipeE; rw [List.length_set, ih]
theorem wipeE_some {vs : List Nat} {j : Nat} {s : Sl} (h : (wipeE env vs)[j]? = some s) (n : s ≠ .no) : env[j]? = some s ∧ (j ∉ vs) := by
  rw [wipeE_get] at h
  split at h
  · cases h; exact absurd rfl n
  · rename_i hn
    refine ⟨h, fun hj => hn ⟨hj, ?_⟩⟩
    exact (List.getElem?_eq_some_iff.mp h).1
theorem wipeE_owns {vs : List Nat} {j : Nat} (h : owns (wipeE env vs) j) : owns env j ∧ j ∉ vs := by
  obtain ⟨d, h | h⟩ := h
  · obtain ⟨h1, h2⟩ := wipeE_some h (fun z => nomatch z)
    exact ⟨⟨d, .inl h1⟩, h2⟩
  · obtain ⟨h1, h2⟩ := wipeE_some h (fun z => nomatch z)
    exact ⟨⟨d, .inr h1⟩, h2⟩
theorem wipe_out {vs : List Nat} {j : Nat} (h : j ∉ vs) : (wipe σ vs)[j]? = σ[j]? := by
  rw [wipe_get, if_neg (fun z => h z.1)]
/-- the slots vs are forgotten: only what stands at the others matters -/
theorem Rel.swap {σ' : St} {vs : List Nat} (R : Rel T K g F H σ env) (nio : ∀ i ∈ vs, ∀ a, (i, a) ∉ g.io) (hl : σ'.length = σ.length) (hs : ∀ j, j ∉ vs → σ'[j]? = σ[j]?) : Rel T K g F H σ' (wipeE env vs) := by
  have own' : ∀ {j : Nat}, owns (wipeE env vs) j → owns env j ∧ σ'[j]? = σ[j]? := fun {j} h => ⟨(wipeE_owns h).1, hs j (wipeE_owns h).2⟩
  refine ⟨by rw [wipeE_len, hl]; exact R.len, R.sub, R.f0, R.new, R.keep, R.tab, R.nt, fun i d e => ?_, fun i d e => ?_, fun i d e => ?_, fun i a e => ?_, fun a o e => ?_, fun i j a q1 q2 e1 e2 => ?_⟩
  · obtain ⟨h1, h2⟩ := wipeE_some e (fun z => nomatch z)
    rw [hs i h2]
    exact R.va i d h1
  · obtain ⟨h1, h2⟩ := wipeE_some e (fun z => nomatch z)
    rw [hs i h2]
    exact R.ow i d h1
  · obtain ⟨h1, h2⟩ := wipeE_some e (fun z => nomatch z)
    rw [hs i h2]
    exact R.io i d h1
  · have hi : i ∉ vs := fun z => nio i z a e
    obtain ⟨h1, d, h2⟩ := R.iok i a e
    exact ⟨by rw [hs i hi]; exact h1, d, by rw [wipeE_get, if_neg (fun z => hi z.1)]; exact h2⟩
  · obtain ⟨t1, t2, t3, t4⟩ := R.tm a o e
    refine ⟨t1, t2, t3, fun i hi => ?_⟩
    rw [(own' hi).2]
    exact t4 i (own' hi).1
  · rw [(own' q1).2] at e1
    rw [(own' q2).2] at e2
    exact R.sep i j a (own' q1).1 (own' q2).1 e1 e2
theorem Rel.wipe {vs : List Nat} (R : Rel T K g F H σ env) (nio : ∀ i ∈ vs, ∀ a, (i, a) ∉ g.io) : Rel T K g F H (L2.wipe σ vs) (wipeE env vs) := R.swap nio (wipe_length _ _) fun j hj => wipe_out hj
/-- an object in the making is pinned -/
def Gh.pin (g : Gh) (a : Addr) (o : HO) : Gh := { g with tmp := (a, o) :: g.tmp }
theorem Rel.pin (R : Rel T K g F H σ env) {a : Addr} {o : HO} (h : H a = some o) (hF : F a = none) (n : ∀ ps, o ≠ .tbl ps) (al : Alone g env σ a) : Rel T K (g.pin a o) F H σ env :=
  ⟨R.len, R.sub, R.f0, R.new, R.keep, R.tab, R.nt, R.va, R.ow, R.io, R.iok, fun b o' e => by
    rcases List.mem_cons.mp e with z | z
    · cases z; exact ⟨h, hF, n, al.1⟩
    · exact R.tm b o' z, R.sep⟩
theorem Rel.unpin {a : Addr} {o : HO} (R : Rel T K (g.pin a o) F H σ env) (no : ∀ o', (a, o') ∉ g.tmp) : Rel T K g F H σ env ∧ H a = some o ∧ F a = none ∧ Alone g env σ a := by
  obtain ⟨t1, t2, t3, t4⟩ := R.tm a o List.mem_cons_self
  exact ⟨⟨R.len, R.sub, R.f0, R.new, R.keep, R.tab, R.nt, R.va, R.ow, R.io, R.iok, fun b o' e => R.tm b o' (List.mem_cons_of_mem _ e), R.sep⟩, t1, t2, t4, no⟩
/-- the object in the making grows -/
theorem Rel.grow (R : Rel T K g F H σ env) {a : Addr} {o o' : HO} (h0 : g.H0 a = none) (h : H a = some o) (n : ∀ ps, o ≠ .tbl ps) (hF : F a = none) (al : Alone g env σ a) : Rel T K g F (upd H a o') σ env := by
  have ne : ∀ {i : Nat} {b : Addr}, owns env i → σ[i]? = some (some (.ref b)) → b ≠ a := fun {i b} ow e z => al.1 i ow (by rw [e, z])
  refine ⟨R.len, fun b o2 e => ?_, R.f0, R.new, fun b o2 e n1 n2 => ?_, fun P hP => ?_, R.nt, R.va, fun i d e => ?_, fun i d e => ?_, R.iok, fun b o2 e => ?_, R.sep⟩
  · rw [upd_ne (fun (z : b = a) => by rw [z, hF] at e; cases e)]
    exact R.sub b o2 e
  · rw [upd_ne (fun (z : b = a) => by rw [z, h0] at e; cases e)]
    exact R.keep b o2 e n1 n2
  · obtain ⟨ps, e, t⟩ := R.tab P hP
    rw [show GxR.TabG (upd H a o') P ↔ GxR.TabG H P from ?_]
    · exact ⟨ps, e, t⟩
    · unfold GxR.TabG
      rw [upd_ne (fun (z : P = a) => by rw [z, h] at e; cases e; exact n ps rfl)]
  · obtain ⟨b, e1, e2, e3, ho⟩ := R.ow i d e
    exact ⟨b, e1, e2, e3, ho.mono (Same.refl _) (upd_ne (ne ⟨d, .inl e⟩ e1))⟩
  · obtain ⟨b, e0, e1, e2, ho⟩ := R.io i d e
    exact ⟨b, e0, e1, e2, ho.mono (Same.refl _) (upd_ne (ne ⟨d, .inr e⟩ e1))⟩
  · obtain ⟨t1, t2, t3, t4⟩ := R.tm b o2 e
    exact ⟨by rw [upd_ne (fun (z : b = a) => al.2 o2 (by rw [← z]; exact e))]; exact t1, t2, t3, t4⟩
end

section
variable {T : List Addr} {X : Cx}
def RTs (T : List Addr) (K : PySem.W.Frag) (f : TF) : TT := RT T K f
def FTs (T : List Addr) (X : Cx) (es : List Expr) (f : TF) : Prop := PTs X es (RT T X.K f)
def tYs : TF := fun env => some (true, env)
theorem fts_nil : FTs T X [] tYs := ⟨fun pins s σ H Q I h => pts_nil.run pins s σ H Q I (by
  obtain ⟨gh, F, env, b, env', R, e, q⟩ := h
  cases e
  exact q H F R (Same.refl _))⟩
theorem fts_one {c : Expr} {f : TF} (h : FT T X c f) : FTs T X [c] f := pts_one h

theorem rn_lc {K : PySem.W.Frag} {vs ts : List Nat} {w : AF} {bi : BF} {t : TF} {f : EF} (hts : ∀ i ∈ ts, i ∈ vs) : ∀ σ H Q, RN T K (eLc vs w bi t f) σ H Q → tLc (RI T K w) (RB T K ts bi) (RT T K t) (RE T K f) vs σ H Q := by
  rintro σ H Q ⟨gh, F, env, d, env', R, e, q⟩
  unfold eLc at e
  split at e
  · cases e
  · rename_i ds e1 ew
    split at e
    · rename_i hio
      split at e
      · cases e
      · rename_i acc e2 ec
        cases e
        refine ⟨gh, F, env, _, _, R, ew, fun J H1 F1 R1 s1 Y D hD => ?_⟩
        have nio : ∀ i ∈ vs, ∀ a, (i, a) ∉ gh.io := fun i hi a z => by
          obtain ⟨_, d, hd⟩ := R1.iok i a z
          have := List.all_eq_true.mp hio i hi
          rw [hd] at this
          cases this
        obtain ⟨hD0, hDT, hDF⟩ := R1.fresh hD
        have hal := R1.own_ne hD
        have R1' : Rel T K gh F1 (upd H1 D (.lst [])) (L2.wipe σ vs) (wipeE e1 vs) := (R1.laid hD).wipe nio
        have al0 : ∀ {env' : Ev} {σ' : St}, Alone gh env' σ' D → ∀ o, (D, o) ∉ gh.tmp := fun a => a.2
        have alD : Alone gh (wipeE e1 vs) (L2.wipe σ vs) D := ⟨fun i hi => by
          rw [wipe_out (wipeE_owns hi).2]
          exact hal.1 i (wipeE_owns hi).1, hal.2⟩
        -- the invariant
        refine ⟨fun i m H => m = ds.length - i ∧ ∃ F' env' acc' xs, Rel T K gh F' H (L2.wipe σ vs) env' ∧ Same F1 F' ∧ H D = some (.lst xs) ∧ F' D = none ∧ Alone gh env' (L2.wipe σ vs) D ∧ Reps K F' xs acc' ∧ coF vs bi t f (ds.drop i) acc' env' = some (acc, e2),
          ⟨_, rfl, F1, _, [], [], R1', Same.refl _, upd_same, hDF, alD, .nil, by simpa using ec⟩, ?_⟩
        rintro i m H2 ⟨rfl, F2, env2, acc2, xs, R2, s2, hx, hF2, al2, rr, e'⟩
        have R2p : Rel T K (gh.pin D (.lst xs)) F2 H2 (L2.wipe σ vs) env2 := R2.pin hx hF2 (fun ps z => nomatch z) al2
        obtain ⟨yi, yn⟩ := Y (gh.pin D (.lst xs)) i F2 H2 _ env2 R2p s2
        cases hd : ds[i]? with
        | none =>
          have hl : ds.length ≤ i := List.getElem?_eq_none_iff.mp hd
          rw [List.drop_of_length_le hl] at e'
          injection e' with e'
          injection e' with ea eb
          subst ea; subst eb
          refine .inl ⟨yn hd, ?_⟩
          have R3 : Rel T K gh F2 H2 σ (wipeE env2 vs) := R2.swap (σ' := σ) nio (wipe_length _ _).symm fun j hj => (wipe_out hj).symm
          refine q D H2 F2 R3 (s1.trans s2) hF2 hD0 ⟨fun j hj => ?_, al2.2⟩ (.lst hx rr)
          have h1 := al2.1 j (wipeE_owns hj).1
          rw [wipe_out (wipeE_owns hj).2] at h1
          exact h1
        | some d =>
          obtain ⟨hgo, hy⟩ := yi d hd
          have hl : i < ds.length := (List.getElem?_eq_some_iff.mp hd).1
          have ed : ds.drop i = d :: ds.drop (i + 1) := by
            rw [List.drop_eq_getElem_cons hl]
            rw [List.getElem?_eq_getElem hl] at hd
            cases hd; rfl
          rw [ed] at e'
          unfold coF at e'
          refine .inr ⟨hgo, fun H' => ∃ F' env' acc' xs, Rel T K gh F' H' (L2.wipe σ vs) env' ∧ Same F1 F' ∧ H' D = some (.lst xs) ∧ F' D = none ∧ Alone gh env' (L2.wipe σ vs) D ∧ Reps K F' xs acc' ∧ coF vs bi t f (ds.drop (i + 1)) acc' env' = some (acc, e2),
            fun H' h => ⟨ds.length - (i + 1), by omega, rfl, h⟩, fun x H' hx' => ?_⟩
          obtain ⟨F3, R3, s3, rx⟩ := hy x H' hx'
          split at e'
          · cases e'
          · rename_i e3 eb
            refine ⟨gh.pin D (.lst xs), F3, env2, d, e3, R3, rx, eb, fun σ4 H4 F4 R4 s4 w4 => ?_⟩
            have ew4 := w4 vs hts
            rw [show L2.wipe (L2.wipe σ vs) vs = L2.wipe σ vs from by
              apply List.ext_getElem?
              intro j
              rw [wipe_get, wipe_get, wipe_length]
              split <;> rfl] at ew4
            refine ⟨ew4, ?_⟩
            split at e'
            · cases e'
            · rename_i e4 et
              refine ⟨gh.pin D (.lst xs), F4, e3, _, _, R4, et, fun H5 F5 R5 s5 => iteF ?_⟩
              obtain ⟨R6, hD6, hF6, al6⟩ := R5.unpin al2.2
              have R7 := R6.wipe nio
              rw [ew4] at R7
              refine ⟨F5, _, acc2, xs, R7, s2.trans (s3.trans (s4.trans s5)), hD6, hF6, ⟨fun j hj => ?_, al6.2⟩, rr.mono (s3.trans (s4.trans s5)), e'⟩
              have h1 := al6.1 j (wipeE_owns hj).1
              rw [← ew4, wipe_out (wipeE_owns hj).2]
              exact h1
            · rename_i e4 et
              refine ⟨gh.pin D (.lst xs), F4, e3, _, _, R4, et, fun H5 F5 R5 s5 => iteT ?_⟩
              split at e'
              · cases e'
              · rename_i r e5 ef
                split at e'
                · rename_i hlen
                  refine ⟨gh.pin D (.lst xs), F5, e4, _, _, R5, ef, fun y H6 F6 R6 s6 r6 => ?_⟩
                  obtain ⟨R7, hD7, hF7, al7⟩ := R6.unpin al2.2
                  refine ⟨xs, hD7, by rw [rr.len]; exact hlen, ?_⟩
                  have R8 := (R7.grow (o' := .lst (xs ++ [y])) hD0 hD7 (fun ps z => nomatch z) hF7 al7).wipe nio
                  rw [ew4] at R8
                  have s26 := s3.trans (s4.trans (s5.trans s6))
                  refine ⟨F6, _, _, _, R8, s2.trans s26, upd_same, hF7, ⟨fun j hj => ?_, al7.2⟩, (rr.mono s26).append (.one r6), e'⟩
                  have h1 := al7.1 j (wipeE_owns hj).1
                  rw [← ew4, wipe_out (wipeE_owns hj).2]
                  exact h1
                · cases e'
    · cases e
/-- [e for tg in iter if ..] -/
theorem fn_lc {elt tg iter : Expr} {ifs : List Expr} {scope : Scope} {pos : Pos} {own : List (Str × Nat)} {ts : List Nat} {w : AF} {bi : BF} {t : TF} {f : EF} (hc : X.calm = true) (hN : X.N.Nodup) (hi : FI T X tg iter w) (ok : BlkOk X.N X.env.scope scope own)
    (hg : ∀ (s : Shared) (H : Hp) (C : Addr) (cl : List (Str × Addr)) (fp : List Addr), FB T (X.blk s H scope (compEnvC scope cl C X.env) fp) tg ts bi)
    (ht : ∀ (s : Shared) (H : Hp) (C : Addr) (cl : List (Str × Addr)) (fp : List Addr), FTs T (X.blk s H scope (compEnvC scope cl C X.env) fp) ifs t)
    (he : ∀ (s : Shared) (H : Hp) (C : Addr) (cl : List (Str × Addr)) (fp : List Addr), FE T (X.blk s H scope (compEnvC scope cl C X.env) fp) elt f) (hts : ∀ i ∈ ts, i ∈ own.map (·.2) := by decide)
    (hs : ∀ x, foldedSetIterable iter X.env x = pure x := by intro _; rfl) :
    FN T X (.ListComp elt [⟨tg, iter, ifs, 0⟩] scope pos) (eLc (own.map (·.2)) w bi t f) :=
  (pe_lc (g := RB T X.K ts bi) (tt := RT T X.K t) (te := RE T X.K f) hc hN hi ok hg ht he hs).weak (rn_lc hts)
/-- y = [e for tg in iter if ..] -/
theorem fs_setLc (i : Nat) {y : Str} {py : Pos} {elt tg iter : Expr} {ifs : List Expr} {scope : Scope} {pos spos : Pos} {own : List (Str × Nat)} {ts : List Nat} {w : AF} {bi : BF} {t : TF} {f : EF} (hc : X.calm = true) (hN : X.N.Nodup) (hy : X.N[i]? = some y) (hyl : X.env.scope.names.lookup y = some .local)
    (hsw : swapsWith (.ListComp elt [⟨tg, iter, ifs, 0⟩] scope pos) (some (.Name y py)) spos.line X.env = pure true) (hi : FI T X tg iter w) (ok : BlkOk X.N X.env.scope scope own)
    (hg : ∀ (s : Shared) (H : Hp) (C : Addr) (cl : List (Str × Addr)) (fp : List Addr), FB T (X.blk s H scope (compEnvC scope cl C X.env) fp) tg ts bi)
    (ht : ∀ (s : Shared) (H : Hp) (C : Addr) (cl : List (Str × Addr)) (fp : List Addr), FTs T (X.blk s H scope (compEnvC scope cl C X.env) fp) ifs t)
    (he : ∀ (s : Shared) (H : Hp) (C : Addr) (cl : List (Str × Addr)) (fp : List Addr), FE T (X.blk s H scope (compEnvC scope cl C X.env) fp) elt f) (hts : ∀ i ∈ ts, i ∈ own.map (·.2) := by decide)
    (hs : ∀ x, foldedSetIterable iter X.env x = pure x := by intro _; rfl) :
    FS T X (.Assign [.Name y py] (.ListComp elt [⟨tg, iter, ifs, 0⟩] scope pos) spos) (asg i (eLc (own.map (·.2)) w bi t f)) ∧ FS T X (.Assign [.Name y py] (.ListComp elt [⟨tg, iter, ifs, 0⟩] scope pos) spos) (asgO i (eLc (own.map (·.2)) w bi t f)) := by
  have base := ps_setLc (g := RB T X.K ts bi) (tt := RT T X.K t) (te := RE T X.K f) hc hN hy hyl hsw hi ok hg ht he hs
  refine ⟨PS.weak base fun D σ H ⟨gh, F, env, out, R, e, q⟩ => ?_, PS.weak base fun D σ H ⟨gh, F, env, out, R, e, q⟩ => ?_⟩
  · unfold asg at e
    split at e
    · cases e
    · rename_i d e1 ef
      split at e
      · cases e
      · rename_i e2 es
        cases e
        refine rn_lc hts σ H _ ⟨gh, F, env, d, e1, R, ef, fun a H1 F1 R1 s1 h1 h2 h3 h4 => ?_⟩
        obtain ⟨o, hH, hn, r⟩ := h4.rep h1
        obtain ⟨R2, s2⟩ := R1.froze h1 hH h2 (R1.notT hH hn) h3
        exact q _ _ _ (R2.put es (.inr (.inl ⟨d, rfl, r⟩))) (s1.trans s2)
  · unfold asgO at e
    split at e
    · cases e
    · rename_i d e1 ef
      split at e
      · cases e
      · rename_i e2 es
        cases e
        exact rn_lc hts σ H _ ⟨gh, F, env, d, e1, R, ef, fun a H1 F1 R1 s1 h1 h2 h3 h4 => q _ _ _ (R1.put es (.inr (.inr ⟨d, a, rfl, rfl, h1, h2, h3, h4⟩))) s1⟩
end
end Fx

namespace Fx
open PySem PySem.Spec L2
open PyProof.Rows hiding St

section
variable {T : List Addr} {X : Cx}
abbrev OF := Ev → Option (Option Int × Ev)
def RO (T : List Addr) (K : PySem.W.Frag) (f : OF) : TO := fun σ H Q => ∃ g F env o env', Rel T K g F H σ env ∧ f env = some (o, env') ∧ ∀ H' F', Rel T K g F' H' σ env' → Same F F' → Q o H'
theorem _root_.L2.PO.weak {e : Option Expr} {t t' : TO} (h : PO X e t) (w : ∀ σ H Q, t' σ H Q → t σ H Q) : PO X e t' := ⟨fun pins s σ H Q I q => h.run pins s σ H Q I (w σ H Q q)⟩
def FO (T : List Addr) (X : Cx) (e : Option Expr) (f : OF) : Prop := PO X e (RO T X.K f)
def oNo : OF := fun env => some (none, env)
def oSo (f : EF) : OF := fun env => match f env with
  | some (.int i, e) => some (some i, e)
  | _ => none
theorem fo_no : FO T X none oNo := po_none.weak fun σ H Q ⟨gh, F, env, o, env', R, e, q⟩ => by
  cases e
  exact q H F R (Same.refl _)
theorem fo_so {e : Expr} {f : EF} (h : FE T X e f) : FO T X (some e) (oSo f) := (po_some h).weak fun σ H Q ⟨gh, F, env, o, env', R, e, q⟩ => by
  unfold oSo at e
  split at e
  · rename_i i e1 ef
    cases e
    exact ⟨gh, F, env, _, _, R, ef, fun v H1 F1 R1 s1 r1 => ⟨i, r1.int_iff, q H1 F1 R1 s1⟩⟩
  · cases e
def cutD (xs : List PV) (lo hi : Option Int) : List PV := (xs.drop (HT.sIx xs.length 0 lo)).take (HT.sIx xs.length xs.length hi - HT.sIx xs.length 0 lo)
theorem Reps.cut {K : PySem.W.Frag} {F : Hp} {xs : List V} {ds : List PV} (r : Reps K F xs ds) (lo hi : Option Int) : Reps K F (cutV xs lo hi) (cutD ds lo hi) := by
  unfold cutV cutD
  rw [r.len]
  exact (r.drop _).take _
/-- t[:], the whole of it: t itself -/
def rSlTW (K : PySem.W.Frag) : V → Option Int → Option Int → Hp → VK → Prop := fun x lo hi H Q => ∃ a xs, x = .ref a ∧ SqT K H a xs ∧ (HT.sIx xs.length 0 lo = 0 ∧ HT.sIx xs.length xs.length hi = xs.length) ∧ Q (.ref a) H
def pSl (x : PV) (lo hi : Option Int) : Option PV := match x with
  | .list xs => some (.list (cutD xs lo hi))
  | .tuple xs => if HT.sIx xs.length 0 lo = 0 ∧ HT.sIx xs.length xs.length hi = xs.length then none else some (.tuple (cutD xs lo hi))
  | .str z => if z.length ≤ sizeLine then some (.str (cutS z lo hi)) else none
  | .dict [(.bool true, .list xs)] => some (.list (cutD xs lo hi))
  | _ => none
def rSlA (K : PySem.W.Frag) : V → Option Int → Option Int → Hp → VK → Prop := fun x lo hi H Q => rSlL K x lo hi H Q ∨ rSlT K x lo hi H Q ∨ rSlS x lo hi H Q
theorem sl_all : SlR X (rSlA X.K) := SlR.or sl_list (SlR.or sl_tup sl_str)
def eSl (f : EF) (l h : OF) : EF := fun env => match f env with
  | none => none
  | some (d, e1) => match l e1 with
    | none => none
    | some (lo, e2) => match h e2 with
      | none => none
      | some (hi, e3) => match pSl d lo hi with
        | none => none
        | some r => some (r, e3)
theorem fe_sl {a : Expr} {lo hi : Option Expr} {p2 pos : Pos} {f : EF} {l h : OF} (ha : FE T X a f) (hl : FO T X lo l) (hh : FO T X hi h) : FE T X (.Subscript a (.Slice lo hi none p2) pos) (eSl f l h) :=
  (pe_slice sl_all ha hl hh).weak fun σ H Q ⟨gh, F, env, d, env', R, e, q⟩ => by
    unfold eSl at e
    split at e
    · cases e
    · rename_i d1 e1 ef
      split at e
      · cases e
      · rename_i lo1 e2 el
        split at e
        · cases e
        · rename_i hi1 e3 eh
          split at e
          · cases e
          · rename_i r er
            cases e
            refine ⟨gh, F, env, _, _, R, ef, fun v H1 F1 R1 s1 r1 => ⟨gh, F1, _, _, _, R1, el, fun H2 F2 R2 s2 => ⟨gh, F2, _, _, _, R2, eh, fun H3 F3 R3 s3 => ?_⟩⟩⟩
            have r3 := r1.mono (s2.trans s3)
            have s03 := s1.trans (s2.trans s3)
            unfold pSl at er
            split at er
            · cases er
              cases r3 with
              | lst hx rr =>
                refine .inl ⟨_, _, rfl, .inl (.inl (R3.sub _ _ hx)), fun p hp => ?_⟩
                obtain ⟨R4, s4⟩ := R3.laidF (o := .lst _) hp
                exact q _ _ _ R4 (s03.trans s4) (.lst upd_same ((rr.cut _ _).mono s4))
            · split at er
              · cases er
              · rename_i hw
                cases er
                cases r3 with
                | tup hx rr =>
                  refine .inr (.inl ⟨_, _, rfl, SqT.mono R3.sub hx, by rw [rr.len]; exact hw, fun p hp => ?_⟩)
                  obtain ⟨R4, s4⟩ := R3.laidF (o := .tup _) hp
                  exact q _ _ _ R4 (s03.trans s4) (.tup (.inl (.inl upd_same)) ((rr.cut _ _).mono s4))
            · split at er
              · rename_i hz
                cases er
                exact .inr (.inr ⟨_, r3.str_iff, hz, q _ _ _ R3 s03 (.str _)⟩)
              · cases er
            · cases er
              obtain ⟨a, ys, rfl, hx, rr⟩ := r3.isLk
              refine .inl ⟨_, _, rfl, SqL.mono R3.sub hx, fun p hp => ?_⟩
              obtain ⟨R4, s4⟩ := R3.laidF (o := .lst _) hp
              exact q _ _ _ R4 (s03.trans s4) (.lst upd_same ((rr.cut _ _).mono s4))
            · cases er

/-- what a call leaves: all that stood stands, the tables but may have grown -/
structure Left (T : List Addr) (H H' F F' : Hp) (but : Addr → Prop) : Prop where
  keep : ∀ a o, H a = some o → a ∉ T → ¬ but a → H' a = some o
  tab : ∀ P ∈ T, GxR.TabG H' P ∧ F' P = none
  frz : Same F F'
  sub : Same F' H'
  new : ∀ a o, F' a = some o → F a = some o ∨ H a = none
def spP (T : List Addr) (K : PySem.W.Frag) (g : List PV → Option PV) : Sp := fun vs H Q _ => ∃ F ps d, Same F H ∧ (∀ P ∈ T, GxR.TabG H P ∧ F P = none) ∧ Reps K F vs ps ∧ g ps = some d ∧
  ∀ v H' F', Left T H H' F F' (fun _ => False) → Rep K F' v d → Q v H'
theorem Rel.left {K : PySem.W.Frag} {g : Gh} {F H F' H' : Hp} {σ : St} {env : Ev} (R : Rel T K g F H σ env) (L : Left T H H' F F' fun _ => False) : Rel T K g F' H' σ env := by
  have no : ∀ {a : Addr} {o : HO}, H a = some o → F a = none → F' a = none := fun {a o} h hF => by
    cases q : F' a with
    | none => rfl
    | some u =>
      rcases L.new a u q with z | z
      · rw [hF] at z; cases z
      · rw [h] at z; cases z
  have same : ∀ {a : Addr} {d : PV}, Own K F H a d → H' a = H a := fun {a d} ho => by
    obtain ⟨o, h, n⟩ := ho.at_
    rw [h, L.keep a o h (R.notT h n) (fun z => z)]
  refine ⟨R.len, L.sub, R.f0.trans L.frz, fun a o e => ?_, fun a o e n1 n2 => L.keep a o (R.keep a o e n1 n2) n1 (fun z => z), fun P hP => (L.tab P hP).1, fun P hP => (L.tab P hP).2, fun i d e => ?_, fun i d e => ?_, fun i d e => ?_, R.iok, fun a o e => ?_, R.sep⟩
  · rcases L.new a o e with z | z
    · exact R.new a o z
    · exact .inr (R.fresh z).1
  · obtain ⟨v, e1, r⟩ := R.va i d e
    exact ⟨v, e1, r.mono L.frz⟩
  · obtain ⟨a, e1, e2, e3, ho⟩ := R.ow i d e
    obtain ⟨o, h, _⟩ := ho.at_
    exact ⟨a, e1, no h e2, e3, ho.mono L.frz (same ho)⟩
  · obtain ⟨a, e0, e1, e2, ho⟩ := R.io i d e
    obtain ⟨o, h, _⟩ := ho.at_
    exact ⟨a, e0, e1, no h e2, ho.mono L.frz (same ho)⟩
  · obtain ⟨t1, t2, t3, t4⟩ := R.tm a o e
    exact ⟨L.keep a o t1 (R.notT t1 t3) (fun z => z), no t1 t2, t3, t4⟩
theorem cf_call {K : PySem.W.Frag} {g : List PV → Option PV} {f : AF} {E : XK} : ∀ σ H Q, RE T K (callF g f) σ H Q → tCall (spP T K g) [] E (RA T K f) σ H Q := by
  rintro σ H Q ⟨gh, F, env, d, env', R, e, q⟩
  unfold callF at e
  split at e
  · cases e
  · rename_i ds e1 ef
    split at e
    · cases e
    · rename_i d' eg
      cases e
      refine ⟨gh, F, env, _, _, R, ef, fun vs H1 F1 R1 s1 r1 => ⟨F1, ds, d, R1.sub, fun P hP => ⟨R1.tab P hP, R1.nt P hP⟩, by rw [List.append_nil]; exact r1, eg, fun v H2 F2 L r2 => ?_⟩⟩
      exact q v H2 F2 (R1.left L) (s1.trans L.frz) r2
/-- f(e, ..), f a def -/
theorem fe_call {CX : CXT} {k : Nat} {f : Addr} {fd : FuncData} {ps : List Str} {g : List PV → Option PV} {E : XK} {x : Str} {p pos : Pos} {e : Expr} {es : List Expr} {h : AF} (F : FnOk X.prog X.w X.K X.mg X.base CX k f fd ps (spP T X.K g)) (hr : Room k X.A) (hm : X.mg x = some (.ref f)) (hk : PySem.W.keepIn X.K (.ref f) = true) (hb : Binds X.K fd ps []) (hx : Passes CX X E)
    (ha : FA T X (e :: es) h) (hg : Gl X x := by rfl) (hdb : (x == ("__debug__" : Str)) = false := by decide) (he : starEach (e :: es) X.env = (false, eval e X.env) :: starEach es X.env := by rfl) (hpl : (backTo pos (starEach es X.env)).any (·.1) = false := by rfl) :
    FE T X (.Call (.Name x p) (e :: es) [] pos) (callF g h) :=
  (pe_call F hr hg hm hk hb .nil hx ha hdb he hpl).weak cf_call
/-- a def that changes its first argument, a list of the caller's own -/
def spIO (T : List Addr) (K : PySem.W.Frag) (g : PV → List PV → Option (PV × PV)) : Sp := fun vs H Q _ => ∃ F a vs' ps d d' r, vs = .ref a :: vs' ∧ Same F H ∧ (∀ P ∈ T, GxR.TabG H P ∧ F P = none) ∧ F a = none ∧ Own K F H a d ∧ Reps K F vs' ps ∧ g d ps = some (d', r) ∧
  ∀ v H' F', Left T H H' F F' (fun b => b = a) → F' a = none → Own K F' H' a d' → Rep K F' v r → Q v H'
/-- .. changed -/
theorem Rel.leftIO {K : PySem.W.Frag} {g : Gh} {F H F' H' : Hp} {σ : St} {env : Ev} {i : Nat} {p : Addr} {d d' : PV} (R : Rel T K g F H σ env) (hm : Fx.mine env i = some d) (hp : σ[i]? = some (some (.ref p))) (L : Left T H H' F F' fun b => b = p) (hF : F' p = none) (ho : Own K F' H' p d') :
    Rel T K g F' H' σ (putM env i d') := by
  obtain ⟨p', ep, hFp, hop, _⟩ := R.mine hm
  rw [hp] at ep; cases ep
  obtain ⟨op, hHp, ntp⟩ := hop.at_
  have oi : owns env i := by
    unfold Fx.mine at hm
    split at hm
    · rename_i d0 e; exact ⟨_, .inl e⟩
    · rename_i d0 e; exact ⟨_, .inr e⟩
    · cases hm
  have hi : i < env.length := by
    obtain ⟨d0, e | e⟩ := oi <;> exact (List.getElem?_eq_some_iff.mp e).1
  have no : ∀ {a : Addr} {o : HO}, H a = some o → F a = none → F' a = none := fun {a o} h hF => by
    cases q : F' a with
    | none => rfl
    | some u =>
      rcases L.new a u q with z | z
      · rw [hF] at z; cases z
      · rw [h] at z; cases z
  have same : ∀ {a : Addr} {d : PV}, a ≠ p → Own K F H a d → H' a = H a := fun {a d} ne ho => by
    obtain ⟨o, h, n⟩ := ho.at_
    rw [h, L.keep a o h (R.notT h n) ne]
  have slot : ∃ s, putM env i d' = env.set i s ∧ ((∃ d0, env[i]? = some (.ow d0) ∧ s = .ow d') ∨ ∃ d0, env[i]? = some (.io d0) ∧ s = .io d') := by
    obtain ⟨d0, e | e⟩ := oi
    · exact ⟨.ow d', by unfold putM; rw [e], .inl ⟨d0, e, rfl⟩⟩
    · exact ⟨.io d', by unfold putM; rw [e], .inr ⟨d0, e, rfl⟩⟩
  obtain ⟨s, es, hs⟩ := slot
  rw [es]
  have get : ∀ (j : Nat) x, j ≠ i → (env.set i s)[j]? = some x → env[j]? = some x := fun j x hj q => by
    rw [List.getElem?_set_ne (Ne.symm hj)] at q; exact q
  have own' : ∀ j : Nat, owns (env.set i s) j → owns env j := fun j ⟨d, hd⟩ => by
    by_cases hj : j = i
    · rw [hj]; exact oi
    · exact ⟨d, hd.imp (get j _ hj) (get j _ hj)⟩
  have ne : ∀ (j : Nat) (b : Addr), j ≠ i → owns env j → σ[j]? = some (some (.ref b)) → b ≠ p := fun j b hj oj ej z => by
    subst z
    exact hj (R.sep j i b oj oi ej hp)
  refine ⟨by rw [List.length_set]; exact R.len, L.sub, R.f0.trans L.frz, fun a o e => ?_, fun a o e n1 n2 => ?_, fun P hP => (L.tab P hP).1, fun P hP => (L.tab P hP).2, fun j d q => ?_, fun j d q => ?_, fun j d q => ?_, fun j a q => ?_, fun a o q => ?_, fun j k a q1 q2 => R.sep j k a (own' j q1) (own' k q2)⟩
  · rcases L.new a o e with z | z
    · exact R.new a o z
    · exact .inr (R.fresh z).1
  · refine L.keep a o (R.keep a o e n1 n2) n1 fun z => ?_
    subst z
    rcases hs with ⟨d0, e0, _⟩ | ⟨d0, e0, _⟩
    · obtain ⟨b, q1, _, q3, _⟩ := R.ow i d0 e0
      rw [hp] at q1; cases q1
      rw [e] at q3; cases q3
    · obtain ⟨b, q0, q1, _⟩ := R.io i d0 e0
      rw [hp] at q1; cases q1
      exact n2 i q0
  · have hj : j ≠ i := fun z => by
      rw [z, List.getElem?_set_self hi] at q
      rcases hs with ⟨_, _, e⟩ | ⟨_, _, e⟩ <;> rw [e] at q <;> cases q
    obtain ⟨v, e1, r⟩ := R.va j d (get j _ hj q)
    exact ⟨v, e1, r.mono L.frz⟩
  · by_cases hj : j = i
    · subst hj
      rw [List.getElem?_set_self hi] at q
      rcases hs with ⟨d0, e0, e⟩ | ⟨d0, e0, e⟩
      · rw [e] at q; cases q
        obtain ⟨b, q1, q2, q3, _⟩ := R.ow j d0 e0
        rw [hp] at q1; cases q1
        exact ⟨p, hp, hF, q3, ho⟩
      · rw [e] at q; cases q
    · obtain ⟨a, e1, e2, e3, h4⟩ := R.ow j d (get j _ hj q)
      obtain ⟨o, h, _⟩ := h4.at_
      exact ⟨a, e1, no h e2, e3, h4.mono L.frz (same (ne j a hj ⟨d, .inl (get j _ hj q)⟩ e1) h4)⟩
  · by_cases hj : j = i
    · subst hj
      rw [List.getElem?_set_self hi] at q
      rcases hs with ⟨d0, e0, e⟩ | ⟨d0, e0, e⟩
      · rw [e] at q; cases q
      · rw [e] at q; cases q
        obtain ⟨b, q0, q1, q2, _⟩ := R.io j d0 e0
        rw [hp] at q1; cases q1
        exact ⟨p, q0, hp, hF, ho⟩
    · obtain ⟨a, e0, e1, e2, h4⟩ := R.io j d (get j _ hj q)
      obtain ⟨o, h, _⟩ := h4.at_
      exact ⟨a, e0, e1, no h e2, h4.mono L.frz (same (ne j a hj ⟨d, .inr (get j _ hj q)⟩ e1) h4)⟩
  · obtain ⟨e1, d, e2⟩ := R.iok j a q
    refine ⟨e1, ?_⟩
    by_cases hj : j = i
    · subst hj
      rcases hs with ⟨d0, e0, e⟩ | ⟨d0, e0, e⟩
      · rw [e2] at e0; cases e0
      · exact ⟨d', by rw [List.getElem?_set_self hi, e]⟩
    · exact ⟨d, by rw [List.getElem?_set_ne (Ne.symm hj)]; exact e2⟩
  · obtain ⟨t1, t2, t3, t4⟩ := R.tm a o q
    have ha : a ≠ p := fun z => t4 i oi (by rw [hp, z])
    exact ⟨L.keep a o t1 (R.notT t1 t3) ha, no t1 t2, t3, fun j hj => t4 j (own' j hj)⟩
def callIO (i : Nat) (g : PV → List PV → Option (PV × PV)) (f : AF) : EF := fun env => match Fx.mine env i with
  | none => none
  | some _ => match f env with
    | none => none
    | some (ds, e) => match Fx.mine e i with
      | none => none
      | some d => match g d ds with
        | none => none
        | some (d', r) => some (r, putM e i d')
theorem fe_callIO (i : Nat) {CX : CXT} {k : Nat} {f : Addr} {fd : FuncData} {ps : List Str} {g : PV → List PV → Option (PV × PV)} {E : XK} {x y : Str} {p py pos : Pos} {es : List Expr} {h : AF} (F : FnOk X.prog X.w X.K X.mg X.base CX k f fd ps (spIO T X.K g)) (hr : Room k X.A) (hm : X.mg x = some (.ref f)) (hk : PySem.W.keepIn X.K (.ref f) = true) (hb : Binds X.K fd ps []) (hx : Passes CX X E)
    (ha : FA T X es h) (hg : Gl X x := by rfl) (hN : X.N[i]? = some y := by rfl) (hv : Vis X.env.scope y := by first | exact Or.inl rfl | exact Or.inr (Or.inl rfl) | exact Or.inr (Or.inr rfl)) (hd : (y == ("__debug__" : Str)) = false := by decide) (hcd : (y == ("__classdict__" : Str)) = false := by decide)
    (hdb : (x == ("__debug__" : Str)) = false := by decide) (he : starEach (.Name y py :: es) X.env = (false, eval (.Name y py) X.env) :: starEach es X.env := by rfl) (hpl : (backTo pos (starEach es X.env)).any (·.1) = false := by rfl) :
    FE T X (.Call (.Name x p) (.Name y py :: es) [] pos) (callIO i g h) :=
  (pe_call F hr hg hm hk hb .nil hx (pa_cons (pe_var hN hv hd hcd) ha he) hdb he hpl).weak fun σ H Q ⟨gh, F, env, d, env', R, e, q⟩ => by
    unfold callIO at e
    split at e
    · cases e
    · rename_i d0 h0
      obtain ⟨p, ep, _⟩ := R.mine h0
      refine ⟨.ref p, ep, ?_⟩
      split at e
      · cases e
      · rename_i ds e1 ef
        refine ⟨gh, F, env, _, _, R, ef, fun vs H1 F1 R1 s1 r1 => ?_⟩
        split at e
        · cases e
        · rename_i d1 h1
          split at e
          · cases e
          · rename_i d' r eg
            cases e
            obtain ⟨p', ep', hF, ho, _⟩ := R1.mine h1
            rw [ep] at ep'; cases ep'
            refine ⟨F1, p, vs, ds, d1, d', _, by rw [List.append_nil], R1.sub, fun P hP => ⟨R1.tab P hP, R1.nt P hP⟩, hF, ho, r1, eg, fun v H2 F2 L hF2 ho2 r2 => ?_⟩
            exact q v H2 F2 (R1.leftIO h1 ep L hF2 ho2) (s1.trans L.frz) r2

def start0 (n : Nat) (ps : List PV) : Ev := ps.map .va ++ List.replicate (n - ps.length) .no
def runP (n k : Nat) (b : SF) (ps : List PV) : Option PV := if ps.length = k ∧ k ≤ n then match b (start0 n ps) with
  | some (.rt d _) => some d
  | some (.rf d _) => some d
  | some (.nx _) => some .none
  | _ => none
  else none
theorem rel_start {K : PySem.W.Frag} {F H : Hp} {vs : List V} {ps : List PV} {N : List Str} (sF : Same F H) (hT : ∀ P ∈ T, GxR.TabG H P ∧ F P = none) (r : Reps K F vs ps) (hl : ps.length ≤ N.length) :
    Rel T K ⟨H, F, [], []⟩ F H (L2.start N vs) (start0 N.length ps) := by
  have hlen := r.len
  have noOwn : ∀ (i : Nat) (d : PV), (start0 N.length ps)[i]? ≠ some (.ow d) ∧ (start0 N.length ps)[i]? ≠ some (.io d) := fun i d => by
    unfold start0
    by_cases hi : i < ps.length
    · rw [List.getElem?_append_left (by simpa using hi), List.getElem?_map, List.getElem?_eq_getElem hi]
      exact ⟨fun z => (by cases z), fun z => (by cases z)⟩
    · rw [List.getElem?_append_right (by simpa using hi), List.getElem?_replicate]
      split
      · exact ⟨fun z => (by cases z), fun z => (by cases z)⟩
      · exact ⟨fun z => (by cases z), fun z => (by cases z)⟩
  have noOwns : ∀ i, ¬ owns (start0 N.length ps) i := fun i ⟨d, h⟩ => h.elim (noOwn i d).1 (noOwn i d).2
  refine ⟨?_, sF, Same.refl _, fun a o e => .inl e, fun a o e _ _ => e, fun P hP => (hT P hP).1, fun P hP => (hT P hP).2, fun i d e => ?_, fun i d e => ((noOwn i d).1 e).elim, fun i d e => ((noOwn i d).2 e).elim, fun i a e => (by cases e), fun a o e => (by cases e), fun i j a q1 => (noOwns i q1).elim⟩
  · unfold start0 L2.start
    simp only [List.length_append, List.length_map, List.length_replicate]
    omega
  · unfold start0 at e
    by_cases hi : i < ps.length
    · rw [List.getElem?_append_left (by simpa using hi), List.getElem?_map, List.getElem?_eq_getElem hi] at e
      cases e
      obtain ⟨v, h1, h2⟩ := r.get (List.getElem?_eq_getElem hi)
      refine ⟨v, ?_, h2⟩
      unfold L2.start
      rw [List.getElem?_append_left (by rw [List.length_map]; omega), List.getElem?_map, h1]
      rfl
    · rw [List.getElem?_append_right (by simpa using hi), List.getElem?_replicate] at e
      split at e <;> cases e
theorem Rel.toLeft {K : PySem.W.Frag} {g : Gh} {F H : Hp} {σ : St} {env : Ev} (R : Rel T K g F H σ env) (io : g.io = []) : Left T g.H0 H g.F0 F fun _ => False :=
  ⟨fun a o e n _ => R.keep a o e n (fun i z => by rw [io] at z; cases z), fun P hP => ⟨R.tab P hP, R.nt P hP⟩, R.f0, R.sub, R.new⟩
theorem ends_of {K : PySem.W.Frag} {b : SF} {N : List Str} {vs : List V} {H F : Hp} {ps : List PV} {d : PV} {Q : VK} (sF : Same F H) (hT : ∀ P ∈ T, GxR.TabG H P ∧ F P = none) (r : Reps K F vs ps) (e : runP N.length ps.length b ps = some d)
    (q : ∀ v H' F', Left T H H' F F' (fun _ => False) → Rep K F' v d → Q v H') : RS T K b { nx := fun _ H' => Q .non H', rt := Q } (L2.start N vs) H := by
  unfold runP at e
  split at e
  · rename_i hk
    have R := rel_start (N := N) sF hT r hk.2
    split at e
    · rename_i d1 e1 eb
      cases e
      exact ⟨_, F, _, _, R, eb, fun v σ' H' F' R' s r' => q v H' F' (R'.toLeft rfl) r'⟩
    · rename_i d1 e1 eb
      cases e
      refine ⟨_, F, _, _, R, eb, fun a σ' H' F' R' s h1 h2 h3 h4 => ?_⟩
      obtain ⟨o, hH, hn, r'⟩ := h4.rep h1
      obtain ⟨R2, s2⟩ := R'.froze h1 hH h2 (R'.notT hH hn) h3
      exact q _ _ _ (R2.toLeft rfl) r'
    · rename_i e1 eb
      cases e
      exact ⟨_, F, _, _, R, eb, fun σ' H' F' R' s => q .non H' F' (R'.toLeft rfl) .non⟩
    · cases e
  · cases e
end
section
variable {P : Program} {w : World} {K : PySem.W.Frag} {mg : Str → Option Value} {base : Heap} {T : List Addr}
/-- THE RULE: a def without effects, by its body -/
theorem fn_pure {x qual : Str} {st : Stmt} {f : Addr} {fd : FuncData} {N ps : List Str} {k n : Nat} {b : SF} (F : Fun K x qual st f fd) (S : FnScope N ps (defScope st)) (hn : N.length = n) (hk : ps.length = k)
    (hbody : ∀ (cdv : Value) (A : Around) (outer : List Env) (s : Shared) (H : Hp) (E : XK), Room j (A.deeper (envOfC qual (defScope st) s.heap.objs.size f cdv)) → FSs T (cxOf CX0 P w K mg base N qual (defScope st) f cdv A outer s H E).nox (defBody st) b) :
    FnOk P w K mg base CX0 (j + 1) f fd ps (spP T K (runP n k b)) := by
  subst hn hk
  refine F.ok S (fun vs H Q E h => ?_) (fun cdv A outer s H vs Q E hr h => ?_)
  · obtain ⟨F, qs, d, _, _, r, e, _⟩ := h
    unfold runP at e
    split at e
    · rename_i hk
      rw [r.len]; exact hk.1
    · cases e
  · obtain ⟨F, qs, d, sF, hT, r, e, q⟩ := h
    have hl : qs.length = ps.length := by
      unfold runP at e
      split at e
      · rename_i hk; exact hk.1
      · cases e
    exact ⟨_, hbody cdv A outer s H E hr, ends_of sF hT r (by rw [hl]; exact e) q⟩
/-- the same of a def that changes its first argument -/
def start1 (n : Nat) (d : PV) (ps : List PV) : Ev := .io d :: start0 (n - 1) ps
def runIO (n k : Nat) (b : SF) (d : PV) (ps : List PV) : Option (PV × PV) := if ps.length + 1 = k ∧ k ≤ n then match b (start1 n d ps) with
  | some (.rt r (.io d' :: _)) => some (d', r)
  | some (.rf r (.io d' :: _)) => some (d', r)
  | some (.nx (.io d' :: _)) => some (d', .none)
  | _ => none
  else none
theorem rel_start1 {F H : Hp} {vs : List V} {ps : List PV} {N : List Str} {a : Addr} {d : PV} (sF : Same F H) (hT : ∀ P ∈ T, GxR.TabG H P ∧ F P = none) (hF : F a = none) (ho : Own K F H a d) (r : Reps K F vs ps) (hl : ps.length + 1 ≤ N.length) :
    Rel T K ⟨H, F, [(0, a)], []⟩ F H (L2.start N (.ref a :: vs)) (start1 N.length d ps) := by
  obtain ⟨y, N', rfl⟩ : ∃ y N', N = y :: N' := by
    cases N with
    | nil => simp at hl
    | cons y N' => exact ⟨y, N', rfl⟩
  have R := rel_start (T := T) (K := K) (N := N') sF hT r (by simpa using hl)
  have es : L2.start (y :: N') (.ref a :: vs) = some (.ref a) :: L2.start N' vs := by
    unfold L2.start
    simp
  have ee : start1 (y :: N').length d ps = .io d :: start0 N'.length ps := by
    unfold start1
    simp
  rw [es, ee]
  have noOwns : ∀ i : Nat, ¬ owns (start0 N'.length ps) i := fun i ⟨d', h⟩ => by
    rcases h with h | h
    · obtain ⟨b, _, _, h3, h4⟩ := R.ow i d' h
      obtain ⟨o, h5, _⟩ := h4.at_
      rw [show H b = none from h3] at h5; cases h5
    · obtain ⟨b, h1, _⟩ := R.io i d' h
      cases h1
  refine ⟨by simpa using R.len, sF, Same.refl _, fun a o e => .inl e, fun a o e _ _ => e, R.tab, R.nt, fun i d' e => ?_, fun i d' e => ?_, fun i d' e => ?_, fun i b e => ?_, fun b o e => (by cases e), fun i j b q1 q2 e1 e2 => ?_⟩
  · cases i with
    | zero => cases e
    | succ i => exact R.va i d' e
  · cases i with
    | zero => cases e
    | succ i => exact (noOwns i ⟨d', .inl e⟩).elim
  · cases i with
    | zero => cases e; exact ⟨a, List.mem_singleton.mpr rfl, rfl, hF, ho⟩
    | succ i => exact (noOwns i ⟨d', .inr e⟩).elim
  · cases List.mem_singleton.mp e
    exact ⟨rfl, d, rfl⟩
  · have z : ∀ m : Nat, owns (Sl.io d :: start0 N'.length ps) m → m = 0 := fun m h => by
      cases m with
      | zero => rfl
      | succ m => exact (noOwns m h).elim
    rw [z i q1, z j q2]
theorem Rel.toLeftIO {g : Gh} {F H : Hp} {σ : St} {env : Ev} {a : Addr} (R : Rel T K g F H σ env) (io : g.io = [(0, a)]) : Left T g.H0 H g.F0 F fun b => b = a :=
  ⟨fun b o e n nb => R.keep b o e n (fun i z => by rw [io] at z; cases List.mem_singleton.mp z; exact nb rfl), fun P hP => ⟨R.tab P hP, R.nt P hP⟩, R.f0, R.sub, R.new⟩
theorem Rel.ioEnd {g : Gh} {F H : Hp} {σ : St} {r : Ev} {a : Addr} {d : PV} (R : Rel T K g F H σ (.io d :: r)) (io : g.io = [(0, a)]) : F a = none ∧ Own K F H a d := by
  obtain ⟨b, h1, _, h3, h4⟩ := R.io 0 d rfl
  rw [io] at h1
  cases List.mem_singleton.mp h1
  exact ⟨h3, h4⟩
theorem endsIO_of {b : SF} {N : List Str} {vs : List V} {H F : Hp} {ps : List PV} {a : Addr} {d d' r : PV} {Q : VK} (sF : Same F H) (hT : ∀ P ∈ T, GxR.TabG H P ∧ F P = none) (hF : F a = none) (ho : Own K F H a d) (rr : Reps K F vs ps) (e : runIO N.length (ps.length + 1) b d ps = some (d', r))
    (q : ∀ v H' F', Left T H H' F F' (fun b => b = a) → F' a = none → Own K F' H' a d' → Rep K F' v r → Q v H') : RS T K b { nx := fun _ H' => Q .non H', rt := Q } (L2.start N (.ref a :: vs)) H := by
  unfold runIO at e
  split at e
  · rename_i hk
    have R := rel_start1 (N := N) sF hT hF ho rr hk.2
    split at e
    · rename_i r1 d1 e1 eb
      cases e
      exact ⟨_, F, _, _, R, eb, fun v σ' H' F' R' s r' => q v H' F' (R'.toLeftIO rfl) (R'.ioEnd rfl).1 (R'.ioEnd rfl).2 r'⟩
    · rename_i r1 d1 e1 eb
      cases e
      refine ⟨_, F, _, _, R, eb, fun c σ' H' F' R' s h1 h2 h3 h4 => ?_⟩
      obtain ⟨o, hH, hn, r'⟩ := h4.rep h1
      obtain ⟨R2, s2⟩ := R'.froze h1 hH h2 (R'.notT hH hn) h3
      exact q _ _ _ (R2.toLeftIO rfl) (R2.ioEnd rfl).1 (R2.ioEnd rfl).2 r'
    · rename_i d1 e1 eb
      cases e
      exact ⟨_, F, _, _, R, eb, fun σ' H' F' R' s => q .non H' F' (R'.toLeftIO rfl) (R'.ioEnd rfl).1 (R'.ioEnd rfl).2 .non⟩
    · cases e
  · cases e
/-- THE RULE: a def that changes its first argument, by its body -/
theorem fn_io {x qual : Str} {st : Stmt} {f : Addr} {fd : FuncData} {N ps : List Str} {j k n : Nat} {b : SF} (F : Fun K x qual st f fd) (S : FnScope N ps (defScope st)) (hn : N.length = n) (hk : ps.length = k)
    (hbody : ∀ (cdv : Value) (A : Around) (outer : List Env) (s : Shared) (H : Hp) (E : XK), Room j (A.deeper (envOfC qual (defScope st) s.heap.objs.size f cdv)) → FSs T (cxOf CX0 P w K mg base N qual (defScope st) f cdv A outer s H E).nox (defBody st) b) :
    FnOk P w K mg base CX0 (j + 1) f fd ps (spIO T K (runIO n k b)) := by
  subst hn hk
  refine F.ok S (fun vs H Q E h => ?_) (fun cdv A outer s H vs Q E hr h => ?_)
  · obtain ⟨F, a, vs', qs, d, d', r, rfl, _, _, _, _, rr, e, _⟩ := h
    unfold runIO at e
    split at e
    · rename_i hk
      rw [List.length_cons, rr.len]; exact hk.1
    · cases e
  · obtain ⟨F, a, vs', qs, d, d', r, rfl, sF, hT, hF, ho, rr, e, q⟩ := h
    have hl : qs.length + 1 = ps.length := by
      unfold runIO at e
      split at e
      · rename_i hk; exact hk.1
      · cases e
    exact ⟨_, hbody cdv A outer s H E hr, endsIO_of sF hT hF ho rr (by rw [hl]; exact e) q⟩
end
end Fx

namespace PySem
open Sem (wp)
set_option maxHeartbeats 1000000 in
theorem meets_enumerate_newB1 {v : Value} {o : Obj} {H : Heap → Prop} (B : Begins v o H) :
    Meets (Builtin.«enumerate.__new__» ⟨[.type "enumerate", v], []⟩) (fun _ R s => H s.heap ∧
      R (.ok (.ret (.ref (s.heap.push o).objs.size))) { s with heap := (s.heap.push o).push { cls := .type "enumerate", data := .fields #[.none, .bool false, .ref s.heap.objs.size, rawInt 0, .none, .none] } }) :=
  .of_wp fun prog w A R s h => by
    obtain ⟨hp, g, d, tk, os⟩ := s; obtain ⟨h1, h⟩ := h
    have hsub := sub_enumerate
    have q1 : ∀ {A' : Around} {E : Value → Shared → Prop} {Q : Value → Shared → Prop}, Q (.ref hp.objs.size) ⟨hp.push o, g, d, tk, os⟩ → wpAny (model prog w) A' (pyIter v) Q E ⟨hp, g, d, tk, os⟩ :=
      fun q => B.iter prog w _ _ ⟨hp, g, d, tk, os⟩ _ h1 q
    wp_walk using q1
    refine wpAny_stack_any fun st => wpAny_pure ?_
    split
    · rename_i c _ _ _ _ _
      cases (c == Value.type "enumerate")
      · wp_walk using q1
        exact ⟨_, rfl, h⟩
      · wp_walk using q1
        exact ⟨_, rfl, h⟩
    · wp_walk using q1
      exact ⟨_, rfl, h⟩
theorem enum_begins1 {prog : Program} {w : World} {A : Around} {E : Value → Shared → Prop} {s : Shared} {v : Value} {o : Obj} {H : Heap → Prop} {Q : Value → Shared → Prop} (B : Begins v o H) (h1 : H s.heap)
    (h : ∀ h', IsEnum h' (s.heap.objs.size + 1) s.heap.objs.size 0 .none → h'.get? s.heap.objs.size = some o → h'.objs.size = s.heap.objs.size + 2 →
      (∀ b o, s.heap.get? b = some o → h'.get? b = some o) → Q (.ref (s.heap.objs.size + 1)) { s with heap := h' }) :
    wpAny (model prog w) A (call (.type "enumerate") [v]) Q E s := by
  refine callType_new F.called_enumerate (by decide) (F.typeCall_enumerate_1 _) (F.newCall_enumerate_1 _) (fun obj => F.args_object_init_2 obj _) F.entry_enumerate_new
    (meets_enumerate_newB1 B) ⟨h1, ?_⟩
  have hz : (s.heap.push o).objs.size = s.heap.objs.size + 1 := Heap.size_push ..
  show _ ∧ _
  rw [hz]
  have he : IsEnum ((s.heap.push o).push { cls := .type "enumerate", data := .fields #[.none, .bool false, .ref s.heap.objs.size, rawInt 0, .none, .none] }) (s.heap.objs.size + 1) s.heap.objs.size 0 .none := by
    have := Heap.get?_push_size (s.heap.push o) (o := { cls := .type "enumerate", data := .fields #[.none, .bool false, .ref s.heap.objs.size, rawInt 0, .none, .none] }) rfl
    rw [hz] at this; exact this
  refine ⟨⟨_, he, rfl⟩, h _ he (Heap.get?_push_of_some _ (Heap.get?_push_size _ B.free)) (by rw [Heap.size_push, hz]) fun b o x => Heap.get?_push_of_some _ (Heap.get?_push_of_some _ x)⟩
end PySem
namespace Fx
open PySem PySem.Spec L2
open PyProof.Rows hiding St

def IteT (K : PySem.W.Frag) (a : Addr) (k₀ : Int) : It :=
  ⟨fun i H => ∃ (xs : List V) (x : V), SqT K H a xs ∧ xs[i]? = some x, fun i H v H' => ∃ T x, v = .ref T ∧ H T = none ∧ H' = upd H T (.tup [.int (k₀ + (i : Nat)), x]) ∧ ∀ xs, SqT K H a xs → xs[i]? = some x, fun i H => ∃ xs : List V, SqT K H a xs ∧ xs.length ≤ i⟩
theorem enum_ne {h : Heap} {e a : Addr} {its : Array Value} {it : Addr} {c : Int} {old : Value} (he : IsEnum h e it c old) (p : h.IsTuple a its) : a ≠ e := fun z => by
  obtain ⟨o, ho, hc, _⟩ := p
  rw [z] at ho
  have he' : h.get? e = _ := he
  rw [he'] at ho
  cases ho
  exact absurd (show Value.type "enumerate" = Value.type "tuple" from hc) (by decide)
theorem iter_ne {h : Heap} {a : Addr} {its : Array Value} {it : Addr} {i : Nat} {b : Addr} (he : h.IsTupleIter it b i) (p : h.IsTuple a its) : a ≠ it := fun z => by
  obtain ⟨o, ho, hc, _⟩ := p
  obtain ⟨o2, ho2, hc2, _⟩ := he
  rw [z, ho2] at ho
  cases ho
  rw [hc2] at hc
  exact absurd hc (by decide)
theorem turn_enumT {P : Program} {w : World} {K : PySem.W.Frag} {elts : List Expr} {kk : Nat} {tpos : Pos} (a e it : Addr) (k₀ : Int) :
    Turn P w K (.Tuple elts kk tpos) (IteT K a k₀) [e, it] e (fun i h => (∃ old, IsEnum h e it (k₀ + ((i : Nat) : Int)) old) ∧ h.IsTupleIter it a i ∧ e ≠ it) where
  mem := by simp
  obj := fun i h st b hb => by
    obtain ⟨⟨old, he⟩, ⟨o, ho, hc, hd⟩, _⟩ := st
    have e' : b = e ∨ b = it := by simpa using hb
    rcases e' with z | z
    · rw [z]; exact ⟨_, he, fun v q => nomatch q⟩
    · rw [z]; exact ⟨o, ho, fun v q => by rw [hd] at q; cases q⟩
  keep := fun i h h' st k => let ⟨⟨old, he⟩, hi, hne⟩ := st; ⟨⟨old, k e (by simp) _ he⟩, hi.at fun o q => k it (by simp) o q, hne⟩
  item := by
    intro X hP hw hK hc i pins s σ H E I hf st hg
    subst hP hw hK
    obtain ⟨⟨old, he⟩, hit, hne⟩ := st
    obtain ⟨xs, x, hq, hx⟩ := hg
    obtain ⟨its, rv, p, hz⟩ := I.tuple hq
    replace p : s.heap.IsTuple a its.toArray := p
    obtain ⟨u, hu, ru⟩ := rv.get hx
    have hel : e < s.heap.objs.size := Heap.lt_size he
    have hil : it < s.heap.objs.size := by obtain ⟨_, q, _⟩ := hit; exact Heap.lt_size q
    have hui : its.toArray[i]? = some u := by simpa using hu
    have hlt : i < its.toArray.size := (Array.getElem?_eq_some_iff.mp hui).1
    refine wpAny_pyNext_enum_itemC (c := k₀ + (i : Int)) (Draws.tuple (A := X.A.in1) (I.ok.hd hc) it a (iter_ne hit p) its.toArray) he ⟨hit, p⟩ hlt hne (by simp only [List.mem_cons, List.not_mem_nil, or_false, not_or]; exact ⟨hne, (enum_ne he p).symm⟩) fun x' h' tk hP ho hst hT hsz hk => ?_
    replace hP : its.toArray[i]? = some x' := hP
    rw [hui] at hP
    cases hP
    refine ⟨_, rfl, wpAny_letOwnedTupleGo_enum (s := { s with heap := h', toks := tk + 1 }) ho fun h'' he' sb => ?_⟩
    have hT2 : h''.get? s.heap.objs.size = some { cls := .type "tuple", data := .seq #[.int (k₀ + i) tk, u] } := (sb.2 _ (Nat.ne_of_gt hel)).trans hT
    have new : ObjOk X.prog X.w (upd H s.heap.objs.size (.tup [.int (k₀ + (i : Nat)), x])) h'' s.heap.objs.size (.tup [.int (k₀ + (i : Nat)), x]) :=
      ⟨by show 2 ≤ sizeLine; decide, [.int (k₀ + i) tk, u], .cons ⟨_, rfl⟩ (.cons ru .nil), ⟨_, hT2, rfl, _, rfl⟩⟩
    have I1 : Inv X pins σ (upd H s.heap.objs.size (.tup [.int (k₀ + (i : Nat)), x])) { s with heap := h'', toks := tk + 1 } :=
      I.turnedNew (ch := [e, it]) (fun b ob hb q => (sb.2 b (fun z => hb (by simp [z]))).trans (hk b ob (fun z => hb (by simp [z])) (fun z => hb (by simp [z])) q)) hf (Nat.le_refl _) new
    refine ⟨.ref s.heap.objs.size, _, I1, rfl, ⟨_, x, rfl, I.hok.fresh (Nat.le_refl _), rfl, fun ys hy => by rw [I.tuple_inj hy hq]; exact hx⟩, ⟨⟨u, ?_⟩, hst.1.at fun o q => (sb.2 it (Ne.symm hne)).trans q, hne⟩, fun b hb => ?_⟩
    · have e1 : k₀ + ((i + 1 : Nat) : Int) = k₀ + (i : Int) + 1 := by omega
      rw [e1]; exact he'
    · have hb' : b < s.heap.objs.size := by
        have e' : b = e ∨ b = it := by simpa using hb
        rcases e' with z | z
        · rw [z]; exact hel
        · rw [z]; exact hil
      rw [upd_ne (Nat.ne_of_lt hb')]
      exact (hf b hb).1
  done := by
    intro X hP hw hK hc i pins s σ H E I hf st hg
    subst hP hw hK
    obtain ⟨⟨old, he⟩, hit, hne⟩ := st
    obtain ⟨xs, hq, hx⟩ := hg
    obtain ⟨its, rv, p, hz⟩ := I.tuple hq
    replace p : s.heap.IsTuple a its.toArray := p
    obtain ⟨f0, f1, f2, f3, f4, f5⟩ := hf it (by simp)
    have hl := rv.length
    have hh := I.ok.hd hc
    have D : Draws X.prog X.w X.A.in1 it [it, a] 0 (fun _ _ => True) (fun _ h => h.IsTupleIter it a i ∧ h.IsTuple a its.toArray) :=
      { live := fun _ _ st => let ⟨o, ho, _⟩ := st.1; ⟨o, ho⟩
        frame := fun _ _ _ st hk => ⟨st.1.at fun o e => hk it (by simp) o e, st.2.at fun o e => hk a (by simp) o e⟩
        item := fun j s Q E hj st hQ => absurd hj (Nat.not_lt_zero _)
        done := fun s Q E st hE => wpAny_nextOf_tuple_end (A := X.A.in1) hh st.1 st.2 (by simp; omega) hE }
    exact wpAny_pyNext_enum_endD D he ⟨hit, p⟩ fun h' eb => ⟨rfl, I.turned (t' := s.toks) (fun b o hb e => eb b o hb e) f0 f1 f3 f4 f5⟩
  self := fun A i s Q E st h => let ⟨⟨_, he⟩, _⟩ := st; wpAny_pyIter_enum he h
def iEnumA (K : PySem.W.Frag) (ta : TA) : TI := fun σ H R => ta σ H fun vs H1 => ∃ a xs, vs = [.ref a] ∧ ((SqL K H1 a xs ∧ R (Ite K a) H1) ∨ (SqT K H1 a xs ∧ R (IteT K a 0) H1))
theorem pi_enumA {X : Cx} {e : Expr} {ta : TA} {p pos tpos : Pos} {elts : List Expr} {kk : Nat} (hg : Gl X "enumerate") (hm : X.mg "enumerate" = none) (ha : PA X [e] ta) (hs : starEach [e] X.env = [(false, eval e X.env)] := by rfl) :
    PI X (.Tuple elts kk tpos) (.Call (.Name "enumerate" p) [e] [] pos) (iEnumA X.K ta) := by
  refine ⟨fun pins s σ H R I h => ?_⟩
  refine Call_ (ld_blt I hg hm PyProof.Rows.boot_enumerate (PyProof.Rows.callWith_type1 (thn (ha.run pos pins s σ H _ I h) fun us s1 ⟨vs, H1, I1, r1, q1⟩ => ?_) hs rfl))
  obtain ⟨a, xs, ex, hq⟩ := q1
  subst ex
  cases r1 with
  | cons r rr =>
    cases rr
    cases r
    have fp : ∀ b ∈ [s1.heap.objs.size + 1, s1.heap.objs.size], FpOk X pins H1 b := fun b hb => by
      have e' : b = s1.heap.objs.size + 1 ∨ b = s1.heap.objs.size := by simpa using hb
      have hle : s1.heap.objs.size ≤ b := by
        rcases e' with z | z
        · rw [z]; exact Nat.le_add_right _ _
        · rw [z]; exact Nat.le_refl _
      exact I1.fpOk hle (I1.hok.fresh hle)
    rcases hq with ⟨hq, q⟩ | ⟨hq, q⟩
    · obtain ⟨its, rv, p', hz⟩ := I1.list hq
      refine call_enumerate_list p'.isList fun h' he hit hsz hk => wpAny_pyIter_enum he ?_
      have I2 : Inv X pins σ H1 { s1 with heap := h' } := I1.kept (t' := s1.toks) hk
      exact ⟨s1.heap.objs.size + 1, [s1.heap.objs.size + 1, s1.heap.objs.size], _, _, H1, rfl, I2, turn_enum a (s1.heap.objs.size + 1) s1.heap.objs.size, ⟨⟨.none, he⟩, hit, Nat.succ_ne_self _⟩, fp, q⟩
    · obtain ⟨its, rv, p', hz⟩ := I1.tuple hq
      refine enum_begins1 (begins_tuple a its.toArray) p' fun h' he hit hsz hk => wpAny_pyIter_enum he ?_
      have I2 : Inv X pins σ H1 { s1 with heap := h' } := I1.kept (t' := s1.toks) hk
      exact ⟨s1.heap.objs.size + 1, [s1.heap.objs.size + 1, s1.heap.objs.size], _, _, H1, rfl, I2, turn_enumT a (s1.heap.objs.size + 1) s1.heap.objs.size 0, ⟨⟨.none, by rw [show (0 : Int) + ((0 : Nat) : Int) = 0 from rfl]; exact he⟩, ⟨_, hit, rfl, rfl⟩, Nat.succ_ne_self _⟩, fp, q⟩
section
variable {T : List Addr} {X : Cx}
theorem yields_enumT {K : PySem.W.Frag} {F : Hp} {a : Addr} {xs : List V} {ds : List PV} {k₀ : Int} (h : SqT K F a xs) (r : Reps K F xs ds) : Yields T K (IteT K a k₀) (enumL k₀ ds) F := fun g i F' H σ env R s => by
  have hH : SqT K H a xs := SqT.mono R.sub (SqT.mono s h)
  rw [enumL_get]
  refine ⟨fun d hd => ?_, fun hn => ?_⟩
  · cases hx : ds[i]? with
    | none => rw [hx] at hd; cases hd
    | some d0 =>
      rw [hx] at hd
      cases hd
      obtain ⟨v, hv, rv⟩ := r.get hx
      refine ⟨⟨xs, v, hH, hv⟩, fun x H' hy => ?_⟩
      obtain ⟨t, y, rfl, hT, rfl, hy⟩ := hy
      have := hy xs hH
      rw [hv] at this; cases this
      obtain ⟨R2, s2⟩ := R.laidF (o := .tup [.int (k₀ + (i : Nat)), v]) hT
      exact ⟨_, R2, s2, .tup (.inl (.inl upd_same)) (.cons (.int _) (.cons (rv.mono (s.trans s2)) .nil))⟩
  · cases hx : ds[i]? with
    | none => exact ⟨xs, hH, by rw [r.len]; exact List.getElem?_eq_none_iff.mp hx⟩
    | some d0 => rw [hx] at hn; cases hn
def wEnumA (f : EF) : AF := fun env => match f env with
  | some (.list xs, e) => some (enumL 0 xs, e)
  | some (.tuple xs, e) => some (enumL 0 xs, e)
  | _ => none
/-- enumerate(list or tuple) -/
theorem fi_enumA {a : Expr} {elts : List Expr} {kk : Nat} {tpos p pos : Pos} {f : EF} (hg : Gl X "enumerate") (hm : X.mg "enumerate" = none) (ha : FE T X a f) (hs : starEach [a] X.env = [(false, eval a X.env)] := by rfl) : FI T X (.Tuple elts kk tpos) (.Call (.Name "enumerate" p) [a] [] pos) (wEnumA f) :=
  (pi_enumA hg hm (pa_cons ha pa_nil hs) hs).weak fun σ H Q ⟨gh, F, env, ds, env', R, e, q⟩ => by
    unfold wEnumA at e
    split at e
    · rename_i xs e1 ef
      cases e
      refine ⟨gh, F, env, _, _, R, ef, fun v H1 F1 R1 s1 r1 => ?_⟩
      cases r1 with
      | lst h rr => exact ⟨_, _, rfl, .inl ⟨.inl (.inl (R1.sub _ _ h)), q _ _ _ R1 s1 (yields_enum h rr)⟩⟩
    · rename_i xs e1 ef
      cases e
      refine ⟨gh, F, env, _, _, R, ef, fun v H1 F1 R1 s1 r1 => ?_⟩
      cases r1 with
      | tup h rr => exact ⟨_, _, rfl, .inr ⟨SqT.mono R1.sub h, q _ _ _ R1 s1 (yields_enumT h rr)⟩⟩
    · cases e

def wRevA (f : EF) : AF := fun env => match f env with
  | some (.list xs, e) => some (xs.reverse, e)
  | some (.tuple xs, e) => some (xs.reverse, e)
  | _ => none
theorem yields_revT {K : PySem.W.Frag} {F : Hp} {a : Addr} {xs : List V} {ds : List PV} (h : SqT K F a xs) (r : Reps K F xs ds) : Yields T K (RT.ItvT K a xs.length) ds.reverse F := fun g i F' H σ env R s => by
  have hH : SqT K H a xs := SqT.mono R.sub (SqT.mono s h)
  have hl := r.len
  by_cases hi : i < ds.length
  · have e1 : ds.reverse[i]? = ds[ds.length - 1 - i]? := List.getElem?_reverse hi
    rw [e1]
    refine ⟨fun d hd => ?_, fun hn => ?_⟩
    · obtain ⟨v, hv, rv⟩ := r.get hd
      rw [← hl] at hv
      refine ⟨⟨by omega, xs, v, hH, hv⟩, fun x H' hy => ?_⟩
      obtain ⟨rfl, hy⟩ := hy
      have := hy xs hH
      rw [hv] at this; cases this
      exact ⟨F', R, Same.refl _, rv.mono s⟩
    · have := List.getElem?_eq_none_iff.mp hn
      omega
  · have e1 : ds.reverse[i]? = none := List.getElem?_eq_none_iff.mpr (by rw [List.length_reverse]; omega)
    rw [e1]
    exact ⟨fun d hd => (by cases hd), fun _ => (by show xs.length ≤ i; omega)⟩
theorem fi_revA {tg a : Expr} {p pos : Pos} {f : EF} (hg : Gl X "reversed") (hm : X.mg "reversed" = none) (ha : FE T X a f) (hs : starEach [a] X.env = (false, eval a X.env) :: starEach [] X.env := by rfl) : FI T X tg (.Call (.Name "reversed" p) [a] [] pos) (wRevA f) :=
  (RT.pi_revA hg hm ha hs).weak fun σ H Q ⟨gh, F, env, ds, env', R, e, q⟩ => by
    unfold wRevA at e
    split at e
    · rename_i xs e1 ef
      cases e
      refine ⟨gh, F, env, _, _, R, ef, fun v H1 F1 R1 s1 r1 => ?_⟩
      cases r1 with
      | lst h rr => exact ⟨_, _, rfl, .inl ⟨.inl (.inl (R1.sub _ _ h)), q _ _ _ R1 s1 (yields_rev h rr)⟩⟩
    · rename_i xs e1 ef
      cases e
      refine ⟨gh, F, env, _, _, R, ef, fun v H1 F1 R1 s1 r1 => ?_⟩
      cases r1 with
      | tup h rr => exact ⟨_, _, rfl, .inr ⟨SqT.mono R1.sub h, q _ _ _ R1 s1 (yields_revT h rr)⟩⟩
    · cases e
def tRv (f : EF) : EF := fun env => match f env with
  | some (.list xs, e) => some (.tuple xs.reverse, e)
  | _ => none
theorem fe_tupRev {a : Expr} {p p2 pos pos2 : Pos} {f : EF} (hc : X.calm = true) (hg : Gl X "tuple") (hm : X.mg "tuple" = none) (hg2 : Gl X "reversed") (hm2 : X.mg "reversed" = none) (ha : FE T X a f)
    (hs : starEach [a] X.env = (false, eval a X.env) :: starEach [] X.env := by rfl)
    (hs2 : starEach [.Call (.Name "reversed" p2) [a] [] pos2] X.env = (false, eval (.Call (.Name "reversed" p2) [a] [] pos2) X.env) :: starEach [] X.env := by rfl) :
    FE T X (.Call (.Name "tuple" p) [.Call (.Name "reversed" p2) [a] [] pos2] [] pos) (tRv f) :=
  (RT.pe_tupRev hc hg hm hg2 hm2 ha hs hs2).weak fun σ H Q ⟨gh, F, env, d, env', R, e, q⟩ => by
    unfold tRv at e
    split at e
    · rename_i xs e1 ef
      cases e
      refine ⟨gh, F, env, _, _, R, ef, fun v H1 F1 R1 s1 r1 => ?_⟩
      cases r1 with
      | lst h rr =>
        refine ⟨_, _, rfl, .inl (.inl (R1.sub _ _ h)), fun p hp => ?_⟩
        obtain ⟨R2, s2⟩ := R1.laidF (o := .tup _) hp
        exact q _ _ _ R2 (s1.trans s2) (.tup (.inl (.inl upd_same)) (rr.reverse.mono s2))
    · cases e

def aStar (f : EF) (h : AF) : AF := fun env => match f env with
  | some (.list xs, e) => (match h e with
    | none => none
    | some (ds, e2) => some (xs ++ ds, e2))
  | some (.tuple xs, e) => (match h e with
    | none => none
    | some (ds, e2) => some (xs ++ ds, e2))
  | _ => none
theorem fa_star {e : Expr} {es : List Expr} {p : Pos} {f : EF} {h : AF} (ha : FE T X e f) (hb : FA T X es h) (hst : starEach (.Starred e p :: es) X.env = (true, eval e X.env) :: starEach es X.env := by rfl) : FA T X (.Starred e p :: es) (aStar f h) :=
  (StX.pa_star ha hb hst).weak fun σ H Q ⟨gh, F, env, ds, env', R, e, q⟩ => by
    unfold aStar at e
    split at e
    · rename_i xs e1 ef
      split at e
      · cases e
      · rename_i ds2 e2 eh
        cases e
        refine ⟨gh, F, env, _, _, R, ef, fun v H1 F1 R1 s1 r1 => ?_⟩
        cases r1 with
        | lst hl rr => exact ⟨_, _, rfl, .inr (.inl (.inl (R1.sub _ _ hl))), gh, F1, _, _, _, R1, eh, fun vs H2 F2 R2 s2 r2 => q _ _ _ R2 (s1.trans s2) ((rr.mono s2).append r2)⟩
    · rename_i xs e1 ef
      split at e
      · cases e
      · rename_i ds2 e2 eh
        cases e
        refine ⟨gh, F, env, _, _, R, ef, fun v H1 F1 R1 s1 r1 => ?_⟩
        cases r1 with
        | tup hl rr => exact ⟨_, _, rfl, .inl (SqT.mono R1.sub hl), gh, F1, _, _, _, R1, eh, fun vs H2 F2 R2 s2 r2 => q _ _ _ R2 (s1.trans s2) ((rr.mono s2).append r2)⟩
    · cases e
end
end Fx

namespace Fx
open PySem PySem.Spec L2
open PyProof.Rows hiding St
def keyOf : PV → Option Key
  | .int i => some (.inl i)
  | .str x => some (.inr x)
  | _ => none
def isK (k : Key) (d : PV) : Bool := match k, d with
  | .inl i, .int j => decide (i = j)
  | .inr x, .str y => decide (x = y)
  | _, _ => false
def dVal (k : Key) : List (PV × PV) → Option PV
  | [] => none
  | (d, v) :: r => if isK k d then some v else dVal k r
def dAny (k : Key) : List (PV × PV) → Bool
  | [] => false
  | (d, _) :: r => isK k d || dAny k r
def dMap (k : Key) (v : PV) : List (PV × PV) → List (PV × PV)
  | [] => []
  | (d, x) :: r => (if isK k d then (d, v) else (d, x)) :: dMap k v r
def dPut (k : Key) (v : PV) (ds : List (PV × PV)) : List (PV × PV) := if dAny k ds then dMap k v ds else ds ++ [(kD k, v)]
def plainD : List (PV × PV) → Bool
  | (.none, _) :: _ => false
  | (.bool _, _) :: _ => false
  | _ => true
theorem isK_kD {k j : Key} : isK k (kD j) = decide (j = k) := by
  cases k with
  | inl i => cases j with
    | inl a =>
      show decide (i = a) = _
      by_cases h : i = a
      · subst h; simp
      · rw [decide_eq_false h, decide_eq_false (fun z => h (Sum.inl.inj z).symm)]
    | inr b => exact (decide_eq_false (fun z => nomatch z)).symm
  | inr x => cases j with
    | inl a => exact (decide_eq_false (fun z => nomatch z)).symm
    | inr b =>
      show decide (x = b) = _
      by_cases h : x = b
      · subst h; simp
      · rw [decide_eq_false h, decide_eq_false (fun z => h (Sum.inr.inj z).symm)]
section
variable {K : PySem.W.Frag} {F F' H : Hp} {k : Key}
theorem RepK.any : ∀ {kvs : List (Key × V)} {ds : List (PV × PV)}, RepK K F kvs ds → dAny k ds = kvs.any fun kv => decide (kv.1 = k)
  | _, _, .nil => rfl
  | _, _, .cons r t => by
    unfold dAny
    rw [List.any_cons, isK_kD, RepK.any t]
theorem RepK.val : ∀ {kvs : List (Key × V)} {ds : List (PV × PV)}, RepK K F kvs ds → (∀ d, dVal k ds = some d → ∃ v, valV kvs k = some v ∧ Rep K F v d) ∧ (dVal k ds = none → valV kvs k = none)
  | _, _, .nil => ⟨fun d e => (by cases e), fun _ => rfl⟩
  | _, _, .cons (k := j) (v := v) r t => by
    unfold dVal
    rw [isK_kD]
    by_cases h : j = k
    · rw [if_pos (decide_eq_true h), valV_pos (p := (j, v)) h]
      exact ⟨fun d e => (by cases e; exact ⟨_, rfl, r⟩), fun e => (by cases e)⟩
    · rw [if_neg (by simpa using h), valV_neg (p := (j, v)) h]
      exact RepK.val t
theorem RepK.map {v : V} {d : PV} (rv : Rep K F v d) : ∀ {kvs : List (Key × V)} {ds : List (PV × PV)}, RepK K F kvs ds → RepK K F (kvs.map fun kv => if kv.1 = k then (kv.1, v) else kv) (dMap k d ds)
  | _, _, .nil => .nil
  | _, _, .cons (k := j) (v := w) r t => by
    unfold dMap
    rw [isK_kD, List.map_cons]
    by_cases h : j = k
    · simp only [h, if_true, decide_true]
      exact .cons rv (RepK.map rv t)
    · simp only [h, if_false, decide_false, Bool.false_eq_true]
      exact .cons r (RepK.map rv t)
theorem RepK.snoc {v : V} {d : PV} (rv : Rep K F v d) : ∀ {kvs : List (Key × V)} {ds : List (PV × PV)}, RepK K F kvs ds → RepK K F (kvs ++ [(k, v)]) (ds ++ [(kD k, d)])
  | _, _, .nil => .cons rv .nil
  | _, _, .cons r t => .cons r (RepK.snoc rv t)
theorem RepK.put {v : V} {d : PV} (rv : Rep K F v d) {kvs : List (Key × V)} {ds : List (PV × PV)} (r : RepK K F kvs ds) : RepK K F (putK kvs k v) (dPut k d ds) := by
  unfold putK dPut
  rw [r.any]
  split
  · exact RepK.map rv r
  · exact RepK.snoc rv r
theorem RepK.len : ∀ {kvs : List (Key × V)} {ds : List (PV × PV)}, RepK K F kvs ds → kvs.length = ds.length
  | _, _, .nil => rfl
  | _, _, .cons _ t => by simp [RepK.len t]
theorem Rep.key {y : V} {d : PV} (r : Rep K F y d) (h : keyOf d = some k) : y = kV k := by
  cases r <;> cases h <;> rfl
theorem Own.isDk {a : Addr} {ds : List (PV × PV)} (ho : Own K F H a (.dict ds)) (h : plainD ds = true) : ∃ kvs, H a = some (.dK kvs) ∧ RepK K F kvs ds := by
  cases ho with
  | dk h r => exact ⟨_, h, r⟩
  | dt h' r => cases h
theorem Read.dk {v : V} {ds : List (PV × PV)} (s : Same F H) (h : Read K F H v (.dict ds)) (hp : plainD ds = true) : ∃ a kvs, v = .ref a ∧ H a = some (.dK kvs) ∧ RepK K F kvs ds := by
  cases h with
  | val r => cases r with
    | dk h r => exact ⟨_, _, rfl, s _ _ h, r⟩
    | dt h r => cases hp
    | lk h r => cases hp
  | own r =>
    obtain ⟨kvs, h1, h2⟩ := r.isDk hp
    exact ⟨_, _, rfl, h1, h2⟩
end
section
variable {T : List Addr} {X : Cx}
/-- {} -/
def eDk : EF := fun env => some (.dict [], env)
theorem fn_dk {pos : Pos} : FN T X (.Dict [] [] pos) eDk := pe_dnewK.weak fun σ H Q ⟨gh, F, env, d, env', R, e, q⟩ => by
  cases e
  intro p hp
  obtain ⟨h0, nT, hF⟩ := R.fresh hp
  exact q p _ F (R.laid hp) (Same.refl _) hF h0 (R.own_ne hp) (.dk upd_same .nil)
def putIx (i : Nat) (fk fe : EF) : SF := fun env => match fe env with
  | none => none
  | some (d, e) => match Fx.mine e i with
    | none => none
    | some _ => match fk e with
      | none => none
      | some (y, e2) => match keyOf y with
        | none => none
        | some k => match Fx.mine e2 i with
          | some (.dict ds) => if plainD ds = true ∧ ds.length < sizeLine then some (.nx (putM e2 i (.dict (dPut k d ds)))) else none
          | _ => none
/-- d[k] = e, d a dict of its own at slot i -/
theorem fs_putIx (i : Nat) {x : Str} {px tpos pos : Pos} {b a : Expr} {fk fe : EF} (hu : X.A.units + 1 < cLine) (hb : FE T X b fk) (ha : FE T X a fe) (hN : X.N[i]? = some x := by rfl) (hv : Vis X.env.scope x := by first | exact Or.inl rfl | exact Or.inr (Or.inl rfl) | exact Or.inr (Or.inr rfl))
    (hd : (x == ("__debug__" : Str)) = false := by decide) (hcd : (x == ("__classdict__" : Str)) = false := by decide) (hs : swapsWith a (some (.Subscript (.Name x px) b tpos)) pos.line X.env = pure false := by rfl) :
    FS T X (.Assign [.Subscript (.Name x px) b tpos] a pos) (putIx i fk fe) :=
  (ps_dput hu (pe_var hN hv hd hcd) hb ha hs).weak fun D σ H ⟨gh, F, env, out, R, e, q⟩ => by
    unfold putIx at e
    split at e
    · cases e
    · rename_i d e1 ef
      refine ⟨gh, F, env, _, _, R, ef, fun v H1 F1 R1 s1 r1 => ?_⟩
      split at e
      · cases e
      · rename_i d0 h0
        obtain ⟨p, ep, _, ho, _⟩ := R1.mine h0
        refine ⟨.ref p, ep, ?_⟩
        split at e
        · cases e
        · rename_i y e2 ek
          refine ⟨gh, F1, _, _, _, R1, ek, fun y' H2 F2 R2 s2 r2 => ?_⟩
          split at e
          · cases e
          · rename_i k hk
            split at e
            · rename_i ds h2
              split at e
              · rename_i hpl
                cases e
                obtain ⟨p', ep', hF1, ho1, upd1⟩ := R2.mine h2
                rw [ep] at ep'; cases ep'
                obtain ⟨kvs, hx, rr⟩ := ho1.isDk hpl.1
                obtain rfl := r2.key hk
                refine ⟨p, _, rfl, DPut.k hx (by rw [rr.len]; exact hpl.2), ?_⟩
                exact q _ _ F2 (upd1 _ _ (.dk upd_same (RepK.put (r1.mono s2) rr))) (s1.trans s2)
              · cases e
            · cases e
def dIx (i : Nat) (fb : EF) : EF := fun env => match Fx.cont env i with
  | none => none
  | some _ => match fb env with
    | none => none
    | some (y, e) => match keyOf y with
      | none => none
      | some k => match Fx.cont e i with
        | some (.dict ds) => if plainD ds = true then (match dVal k ds with
            | none => none
            | some r => some (r, e)) else none
        | _ => none
/-- d[k], d at slot i -/
theorem fe_dIx (i : Nat) {x : Str} {px pos : Pos} {b : Expr} {fb : EF} (hu : X.A.units + 1 < cLine) (hb : FE T X b fb) (hN : X.N[i]? = some x := by rfl) (hv : Vis X.env.scope x := by first | exact Or.inl rfl | exact Or.inr (Or.inl rfl) | exact Or.inr (Or.inr rfl)) (hs : NoSl b := by exact fun _ _ => rfl)
    (hd : (x == ("__debug__" : Str)) = false := by decide) (hcd : (x == ("__classdict__" : Str)) = false := by decide) : FE T X (.Subscript (.Name x px) b pos) (dIx i fb) :=
  (pe_dget hu (pe_var hN hv hd hcd) hb hs).weak fun σ H Q ⟨gh, F, env, d, env', R, e, q⟩ => by
    unfold dIx at e
    split at e
    · cases e
    · rename_i d0 h0
      obtain ⟨v, ev, _⟩ := R.cont h0
      refine ⟨v, ev, ?_⟩
      split at e
      · cases e
      · rename_i y e1 eb
        refine ⟨gh, F, env, _, _, R, eb, fun y' H1 F1 R1 s1 rb => ?_⟩
        split at e
        · cases e
        · rename_i k hk
          split at e
          · rename_i ds h1
            split at e
            · rename_i hp
              split at e
              · cases e
              · rename_i r er
                cases e
                obtain ⟨v', ev', rd⟩ := R1.cont h1
                rw [ev] at ev'
                cases ev'
                obtain ⟨a, kvs, rfl, hl, rr⟩ := rd.dk R1.sub hp
                obtain ⟨w, e2, r2⟩ := rr.val.1 _ er
                obtain rfl := rb.key hk
                exact ⟨a, w, rfl, by rw [← e2]; exact DGet.k hl, q _ _ _ R1 s1 r2⟩
            · cases e
          · cases e
def dIn (g : Bool → Bool) (i : Nat) (fb : EF) : EF := fun env => match fb env with
  | none => none
  | some (y, e) => match keyOf y with
    | none => none
    | some k => match Fx.cont e i with
      | some (.dict ds) => if plainD ds = true then some (.bool (g (dVal k ds).isSome), e) else none
      | _ => none
theorem dIn_run {i : Nat} {g : Bool → Bool} {fb : EF} {K : PySem.W.Frag} {σ : St} {H : Hp} {Q : VK} (h : RE T K (dIn g i fb) σ H Q) : RE T K fb σ H fun y H1 => tVar i σ H1 fun x H2 => ∃ a o, x = .ref a ∧ DGet H2 a y o ∧ Q (.bl (g o.isSome)) H2 := by
  obtain ⟨gh, F, env, d, env', R, e, q⟩ := h
  unfold dIn at e
  split at e
  · cases e
  · rename_i y e1 eb
    refine ⟨gh, F, env, _, _, R, eb, fun y' H1 F1 R1 s1 rb => ?_⟩
    split at e
    · cases e
    · rename_i k hk
      split at e
      · rename_i ds h1
        split at e
        · rename_i hp
          cases e
          obtain ⟨v', ev', rd⟩ := R1.cont h1
          obtain ⟨a, kvs, rfl, hl, rr⟩ := rd.dk R1.sub hp
          obtain rfl := rb.key hk
          refine ⟨_, ev', a, valV kvs k, rfl, DGet.k hl, ?_⟩
          have e3 : (valV kvs k).isSome = (dVal k ds).isSome := by
            cases hv : dVal k ds with
            | none => rw [rr.val.2 hv]; rfl
            | some r =>
              obtain ⟨w, e2, _⟩ := rr.val.1 _ hv
              rw [e2]; rfl
          rw [e3]
          exact q _ _ _ R1 s1 (.bl _)
        · cases e
      · cases e
theorem fe_dIn (i : Nat) {x : Str} {px pos : Pos} {b : Expr} {fb : EF} (hu : X.A.units + 1 < cLine) (hb : FE T X b fb) (hN : X.N[i]? = some x := by rfl) (hv : Vis X.env.scope x := by first | exact Or.inl rfl | exact Or.inr (Or.inl rfl) | exact Or.inr (Or.inr rfl))
    (hd : (x == ("__debug__" : Str)) = false := by decide) (hcd : (x == ("__classdict__" : Str)) = false := by decide) (h1 : behindInMarks .In (.Name x px) = false := by rfl) : FE T X (.Compare b [.In] [.Name x px] pos) (dIn id i fb) :=
  (pe_cmp (pc_din hu hb (pe_var hN hv hd hcd)) h1).weak fun σ H Q h => dIn_run h
theorem fe_dNotIn (i : Nat) {x : Str} {px pos : Pos} {b : Expr} {fb : EF} (hu : X.A.units + 1 < cLine) (hb : FE T X b fb) (hN : X.N[i]? = some x := by rfl) (hv : Vis X.env.scope x := by first | exact Or.inl rfl | exact Or.inr (Or.inl rfl) | exact Or.inr (Or.inr rfl))
    (hd : (x == ("__debug__" : Str)) = false := by decide) (hcd : (x == ("__classdict__" : Str)) = false := by decide) (h1 : behindInMarks .NotIn (.Name x px) = false := by rfl) : FE T X (.Compare b [.NotIn] [.Name x px] pos) (dIn not i fb) :=
  (pe_cmp (pc_dnotin hu hb (pe_var hN hv hd hcd)) h1).weak fun σ H Q h => dIn_run h
theorem ft_dIn (i : Nat) {x : Str} {px pos : Pos} {b : Expr} {fb : EF} (hu : X.A.units + 1 < cLine) (hb : FE T X b fb) (hN : X.N[i]? = some x := by rfl) (hv : Vis X.env.scope x := by first | exact Or.inl rfl | exact Or.inr (Or.inl rfl) | exact Or.inr (Or.inr rfl))
    (hd : (x == ("__debug__" : Str)) = false := by decide) (hcd : (x == ("__classdict__" : Str)) = false := by decide) (h1 : behindInMarks .In (.Name x px) = false := by rfl) : FT T X (.Compare b [.In] [.Name x px] pos) (tB' (dIn id i fb)) :=
  (pt_cmp (pc_din hu hb (pe_var hN hv hd hcd)) h1).weak fun σ H Q h => rt_b σ H Q h |> fun z => dIn_run z
theorem ft_dNotIn (i : Nat) {x : Str} {px pos : Pos} {b : Expr} {fb : EF} (hu : X.A.units + 1 < cLine) (hb : FE T X b fb) (hN : X.N[i]? = some x := by rfl) (hv : Vis X.env.scope x := by first | exact Or.inl rfl | exact Or.inr (Or.inl rfl) | exact Or.inr (Or.inr rfl))
    (hd : (x == ("__debug__" : Str)) = false := by decide) (hcd : (x == ("__classdict__" : Str)) = false := by decide) (h1 : behindInMarks .NotIn (.Name x px) = false := by rfl) : FT T X (.Compare b [.NotIn] [.Name x px] pos) (tB' (dIn not i fb)) :=
  (pt_cmp (pc_dnotin hu hb (pe_var hN hv hd hcd)) h1).weak fun σ H Q h => rt_b σ H Q h |> fun z => dIn_run z
end
end Fx

namespace Fx
open PySem PySem.Spec L2
open PyProof.Rows hiding St
def ioF (e : Ev) (vs : List Nat) : Bool := vs.all fun i => match e[i]? with | some (.io _) => false | _ => true
def coF2 (vs vs1 : List Nat) (bi : BF) (t : TF) (w1 : AF) (bi1 : BF) (t1 : TF) (f : EF) : List PV → List PV → Ev → Option (List PV × Ev)
  | [], acc, env => some (acc, env)
  | d :: ds, acc, env => match bi d env with
    | none => none
    | some e => match t e with
      | none => none
      | some (false, e2) => coF2 vs vs1 bi t w1 bi1 t1 f ds acc (wipeE e2 vs)
      | some (true, e2) => match w1 e2 with
        | none => none
        | some (ds1, e3) => match coF vs1 bi1 t1 f ds1 acc (wipeE e3 vs1) with
          | none => none
          | some (acc2, e4) => coF2 vs vs1 bi t w1 bi1 t1 f ds acc2 (wipeE e4 vs)
def eLc2 (vs vs1 : List Nat) (w : AF) (bi : BF) (t : TF) (w1 : AF) (bi1 : BF) (t1 : TF) (f : EF) : EF := fun env => match w env with
  | none => none
  | some (ds, e) => if ioF e vs = true then match coF2 vs vs1 bi t w1 bi1 t1 f ds [] (wipeE e vs) with
      | none => none
      | some (acc, e2) => some (.list acc, wipeE e2 vs)
    else none
theorem wipe_wipe {σ : St} {vs : List Nat} : L2.wipe (L2.wipe σ vs) vs = L2.wipe σ vs := by
  apply List.ext_getElem?
  intro j
  rw [wipe_get, wipe_get, wipe_length]
  split <;> rfl
theorem wipe_sub {σ : St} {vs vs1 : List Nat} (h : ∀ i ∈ vs1, i ∈ vs) : L2.wipe (L2.wipe σ vs1) vs = L2.wipe σ vs := by
  apply List.ext_getElem?
  intro j
  rw [wipe_get, wipe_get, wipe_length, wipe_get]
  by_cases hj : j ∈ vs ∧ j < σ.length
  · rw [if_pos hj, if_pos hj]
  · rw [if_neg hj, if_neg hj, if_neg (fun z => hj ⟨h j z.1, z.2⟩)]
section
variable {T : List Addr} {X : Cx}
/-- the inner turns -/
theorem inner_lc {K : PySem.W.Frag} {vs1 ts1 : List Nat} {bi1 : BF} {t1 : TF} {f : EF} (hts1 : ∀ i ∈ ts1, i ∈ vs1) {gh : Gh} {D : Addr} {F2 : Hp} {σ2 : St} {J1 : It} {ds1 : List PV} {Nx : Hp → Prop} {acc accI : List PV} {xs : List V} {e3 eI : Ev} {H4 : Hp} (hD0 : gh.H0 D = none)
    (al2 : ∀ o, (D, o) ∉ gh.tmp) (nio : ∀ i ∈ vs1, ∀ a, (i, a) ∉ gh.io) (R4 : Rel T K (gh.pin D (.lst xs)) F2 H4 σ2 e3) (rr : Reps K F2 xs acc)
    (Y1 : Yields T K J1 ds1 F2) (ec : coF vs1 bi1 t1 f ds1 acc (wipeE e3 vs1) = some (accI, eI))
    (hN : ∀ H F' xs', Rel T K gh F' H (L2.wipe σ2 vs1) eI → Same F2 F' → H D = some (.lst xs') → F' D = none → Alone gh eI (L2.wipe σ2 vs1) D → Reps K F' xs' accI → Nx H) :
    ∃ W1 : Nat → Nat → Hp → Prop, (∃ m, W1 0 m H4) ∧ ∀ j k H, W1 j k H →
      (J1.stop j H ∧ Nx H) ∨ (J1.go j H ∧ ∃ Nx1 : Hp → Prop, (∀ H', Nx1 H' → ∃ k', k' < k ∧ W1 (j + 1) k' H') ∧ ∀ x H', J1.yld j H x H' → RB T K ts1 bi1 x (L2.wipe σ2 vs1) H' fun σ3 H5 => L2.wipe σ3 vs1 = L2.wipe σ2 vs1 ∧ RT T K t1 σ3 H5 fun b H6 =>
        if b = true then RE T K f σ3 H6 fun y H7 => ∃ acc, H7 D = some (.lst acc) ∧ acc.length < sizeLine ∧ Nx1 (upd H7 D (.lst (acc ++ [y]))) else Nx1 H6) := by
  obtain ⟨R4', hD4, hF4, al4⟩ := R4.unpin al2
  have R5 := R4'.wipe nio
  have al5 : Alone gh (wipeE e3 vs1) (L2.wipe σ2 vs1) D := ⟨fun i hi => by
    rw [wipe_out (wipeE_owns hi).2]
    exact al4.1 i (wipeE_owns hi).1, al4.2⟩
  refine ⟨fun j k H => k = ds1.length - j ∧ ∃ F' env' acc' xs, Rel T K gh F' H (L2.wipe σ2 vs1) env' ∧ Same F2 F' ∧ H D = some (.lst xs) ∧ F' D = none ∧ Alone gh env' (L2.wipe σ2 vs1) D ∧ Reps K F' xs acc' ∧ coF vs1 bi1 t1 f (ds1.drop j) acc' env' = some (accI, eI),
    ⟨_, rfl, F2, _, _, _, R5, Same.refl _, hD4, hF4, al5, rr, by simpa using ec⟩, ?_⟩
  rintro j k H ⟨rfl, F5, env5, acc5, xs5, R5, s5, hx, hF5, al5, rr5, e'⟩
  have R5p : Rel T K (gh.pin D (.lst xs5)) F5 H (L2.wipe σ2 vs1) env5 := R5.pin hx hF5 (fun ps z => nomatch z) al5
  obtain ⟨yi, yn⟩ := Y1 (gh.pin D (.lst xs5)) j F5 H _ env5 R5p s5
  cases hd : ds1[j]? with
  | none =>
    have hl : ds1.length ≤ j := List.getElem?_eq_none_iff.mp hd
    rw [List.drop_of_length_le hl] at e'
    injection e' with e'
    injection e' with ea eb
    subst ea; subst eb
    exact .inl ⟨yn hd, hN H F5 xs5 R5 s5 hx hF5 al5 rr5⟩
  | some d =>
    obtain ⟨hgo, hy⟩ := yi d hd
    have hl : j < ds1.length := (List.getElem?_eq_some_iff.mp hd).1
    have ed : ds1.drop j = d :: ds1.drop (j + 1) := by
      rw [List.drop_eq_getElem_cons hl]
      rw [List.getElem?_eq_getElem hl] at hd
      cases hd; rfl
    rw [ed] at e'
    unfold coF at e'
    refine .inr ⟨hgo, fun H' => ∃ F' env' acc' xs, Rel T K gh F' H' (L2.wipe σ2 vs1) env' ∧ Same F2 F' ∧ H' D = some (.lst xs) ∧ F' D = none ∧ Alone gh env' (L2.wipe σ2 vs1) D ∧ Reps K F' xs acc' ∧ coF vs1 bi1 t1 f (ds1.drop (j + 1)) acc' env' = some (accI, eI),
      fun H' h => ⟨ds1.length - (j + 1), by omega, rfl, h⟩, fun x H' hx' => ?_⟩
    obtain ⟨F6, R6, s6, rx⟩ := hy x H' hx'
    split at e'
    · cases e'
    · rename_i e3 eb
      refine ⟨gh.pin D (.lst xs5), F6, env5, d, e3, R6, rx, eb, fun σ4 H7 F7 R7 s7 w4 => ?_⟩
      have ew4 := w4 vs1 hts1
      rw [wipe_wipe] at ew4
      refine ⟨ew4, ?_⟩
      split at e'
      · cases e'
      · rename_i e4 et
        refine ⟨gh.pin D (.lst xs5), F7, e3, _, _, R7, et, fun H8 F8 R8 s8 => iteF ?_⟩
        obtain ⟨R9, hD9, hF9, al9⟩ := R8.unpin al5.2
        have R10 := R9.wipe nio
        rw [ew4] at R10
        refine ⟨F8, _, acc5, xs5, R10, s5.trans (s6.trans (s7.trans s8)), hD9, hF9, ⟨fun j hj => ?_, al9.2⟩, rr5.mono (s6.trans (s7.trans s8)), e'⟩
        have h1 := al9.1 j (wipeE_owns hj).1
        rw [← ew4, wipe_out (wipeE_owns hj).2]
        exact h1
      · rename_i e4 et
        refine ⟨gh.pin D (.lst xs5), F7, e3, _, _, R7, et, fun H8 F8 R8 s8 => iteT ?_⟩
        split at e'
        · cases e'
        · rename_i r e5 ef
          split at e'
          · rename_i hlen
            refine ⟨gh.pin D (.lst xs5), F8, e4, _, _, R8, ef, fun y H9 F9 R9 s9 r9 => ?_⟩
            obtain ⟨R10, hD10, hF10, al10⟩ := R9.unpin al5.2
            refine ⟨xs5, hD10, by rw [rr5.len]; exact hlen, ?_⟩
            have R11 := (R10.grow (o' := .lst (xs5 ++ [y])) hD0 hD10 (fun ps z => nomatch z) hF10 al10).wipe nio
            rw [ew4] at R11
            have s69 := s6.trans (s7.trans (s8.trans s9))
            refine ⟨F9, _, _, _, R11, s5.trans s69, upd_same, hF10, ⟨fun j hj => ?_, al10.2⟩, (rr5.mono s69).append (.one r9), e'⟩
            have h1 := al10.1 j (wipeE_owns hj).1
            rw [← ew4, wipe_out (wipeE_owns hj).2]
            exact h1
          · cases e'
theorem rn_lc2 {K : PySem.W.Frag} {vs ts vs1 ts1 : List Nat} {w : AF} {bi : BF} {t : TF} {w1 : AF} {bi1 : BF} {t1 : TF} {f : EF} (hv : ∀ i ∈ vs1, i ∈ vs) (hts : ∀ i ∈ ts, i ∈ vs) (hts1 : ∀ i ∈ ts1, i ∈ vs1) : ∀ σ H Q, RN T K (eLc2 vs vs1 w bi t w1 bi1 t1 f) σ H Q → tLc2 (RI T K w) (RB T K ts bi) (RT T K t) (RI T K w1) (RB T K ts1 bi1) (RT T K t1) (RE T K f) vs vs1 σ H Q := by
  rintro σ H Q ⟨gh, F, env, d, env', R, e, q⟩
  unfold eLc2 at e
  split at e
  · cases e
  · rename_i ds e1 ew
    split at e
    · rename_i hio
      split at e
      · cases e
      · rename_i acc e2 ec
        cases e
        refine ⟨gh, F, env, _, _, R, ew, fun J H1 F1 R1 s1 Y D hD => ?_⟩
        have nio : ∀ i ∈ vs, ∀ a, (i, a) ∉ gh.io := fun i hi a z => by
          obtain ⟨_, d, hd⟩ := R1.iok i a z
          have := List.all_eq_true.mp hio i hi
          rw [hd] at this
          cases this
        have nio1 : ∀ i ∈ vs1, ∀ a, (i, a) ∉ gh.io := fun i hi => nio i (hv i hi)
        obtain ⟨hD0, hDT, hDF⟩ := R1.fresh hD
        have hal := R1.own_ne hD
        have R1' : Rel T K gh F1 (upd H1 D (.lst [])) (L2.wipe σ vs) (wipeE e1 vs) := (R1.laid hD).wipe nio
        have alD : Alone gh (wipeE e1 vs) (L2.wipe σ vs) D := ⟨fun i hi => by
          rw [wipe_out (wipeE_owns hi).2]
          exact hal.1 i (wipeE_owns hi).1, hal.2⟩
        refine ⟨fun i m H => m = ds.length - i ∧ ∃ F' env' acc' xs, Rel T K gh F' H (L2.wipe σ vs) env' ∧ Same F1 F' ∧ H D = some (.lst xs) ∧ F' D = none ∧ Alone gh env' (L2.wipe σ vs) D ∧ Reps K F' xs acc' ∧ coF2 vs vs1 bi t w1 bi1 t1 f (ds.drop i) acc' env' = some (acc, e2),
          ⟨_, rfl, F1, _, [], [], R1', Same.refl _, upd_same, hDF, alD, .nil, by simpa using ec⟩, ?_⟩
        rintro i m H2 ⟨rfl, F2, env2, acc2, xs, R2, s2, hx, hF2, al2, rr, e'⟩
        have R2p : Rel T K (gh.pin D (.lst xs)) F2 H2 (L2.wipe σ vs) env2 := R2.pin hx hF2 (fun ps z => nomatch z) al2
        obtain ⟨yi, yn⟩ := Y (gh.pin D (.lst xs)) i F2 H2 _ env2 R2p s2
        cases hd : ds[i]? with
        | none =>
          have hl : ds.length ≤ i := List.getElem?_eq_none_iff.mp hd
          rw [List.drop_of_length_le hl] at e'
          injection e' with e'
          injection e' with ea eb
          subst ea; subst eb
          refine .inl ⟨yn hd, ?_⟩
          have R3 : Rel T K gh F2 H2 σ (wipeE env2 vs) := R2.swap (σ' := σ) nio (wipe_length _ _).symm fun j hj => (wipe_out hj).symm
          refine q D H2 F2 R3 (s1.trans s2) hF2 hD0 ⟨fun j hj => ?_, al2.2⟩ (.lst hx rr)
          have h1 := al2.1 j (wipeE_owns hj).1
          rw [wipe_out (wipeE_owns hj).2] at h1
          exact h1
        | some d =>
          obtain ⟨hgo, hy⟩ := yi d hd
          have hl : i < ds.length := (List.getElem?_eq_some_iff.mp hd).1
          have ed : ds.drop i = d :: ds.drop (i + 1) := by
            rw [List.drop_eq_getElem_cons hl]
            rw [List.getElem?_eq_getElem hl] at hd
            cases hd; rfl
          rw [ed] at e'
          unfold coF2 at e'
          refine .inr ⟨hgo, fun H' => ∃ F' env' acc' xs, Rel T K gh F' H' (L2.wipe σ vs) env' ∧ Same F1 F' ∧ H' D = some (.lst xs) ∧ F' D = none ∧ Alone gh env' (L2.wipe σ vs) D ∧ Reps K F' xs acc' ∧ coF2 vs vs1 bi t w1 bi1 t1 f (ds.drop (i + 1)) acc' env' = some (acc, e2),
            fun H' h => ⟨ds.length - (i + 1), by omega, rfl, h⟩, fun x H' hx' => ?_⟩
          obtain ⟨F3, R3, s3, rx⟩ := hy x H' hx'
          split at e'
          · cases e'
          · rename_i e3 eb
            refine ⟨gh.pin D (.lst xs), F3, env2, d, e3, R3, rx, eb, fun σ4 H4 F4 R4 s4 w4 => ?_⟩
            have ew4 := w4 vs hts
            rw [wipe_wipe] at ew4
            refine ⟨ew4, ?_⟩
            split at e'
            · cases e'
            · rename_i e4 et
              refine ⟨gh.pin D (.lst xs), F4, e3, _, _, R4, et, fun H5 F5 R5 s5 => iteF ?_⟩
              obtain ⟨R6, hD6, hF6, al6⟩ := R5.unpin al2.2
              have R7 := R6.wipe nio
              rw [ew4] at R7
              refine ⟨F5, _, acc2, xs, R7, s2.trans (s3.trans (s4.trans s5)), hD6, hF6, ⟨fun j hj => ?_, al6.2⟩, rr.mono (s3.trans (s4.trans s5)), e'⟩
              have h1 := al6.1 j (wipeE_owns hj).1
              rw [← ew4, wipe_out (wipeE_owns hj).2]
              exact h1
            · rename_i e4 et
              refine ⟨gh.pin D (.lst xs), F4, e3, _, _, R4, et, fun H5 F5 R5 s5 => iteT ?_⟩
              split at e'
              · cases e'
              · rename_i ds1 e5 ew1
                split at e'
                · cases e'
                · rename_i accI eI ec1
                  refine ⟨gh.pin D (.lst xs), F5, e4, _, _, R5, ew1, fun J1 H6 F6 R6 s6 Y1 => ?_⟩
                  have s26 := s3.trans (s4.trans (s5.trans s6))
                  refine inner_lc hts1 hD0 al2.2 nio1 R6 (rr.mono s26) Y1 ec1 fun H7 F7 xs7 R7 s7 hx7 hF7 al7 rr7 => ?_
                  have R8 := R7.wipe nio
                  rw [wipe_sub hv, ew4] at R8
                  refine ⟨F7, _, accI, xs7, R8, s2.trans (s26.trans s7), hx7, hF7, ⟨fun j hj => ?_, al7.2⟩, rr7, e'⟩
                  have h1 := al7.1 j (wipeE_owns hj).1
                  have hj1 : j ∉ vs1 := fun z => (wipeE_owns hj).2 (hv j z)
                  rw [wipe_out hj1] at h1
                  rw [← ew4, wipe_out (wipeE_owns hj).2]
                  exact h1
    · cases e
/-- [e for tg in iter if .. for tg1 in iter1 if ..] -/
theorem fn_lc2 (vs1 : List Nat) {elt tg iter tg1 iter1 : Expr} {ifs ifs1 : List Expr} {scope : Scope} {pos : Pos} {own : List (Str × Nat)} {ts ts1 : List Nat} {w w1 : AF} {bi bi1 : BF} {t t1 : TF} {f : EF} (hc : X.calm = true) (hN : X.N.Nodup) (hi : FI T X tg iter w) (ok : BlkOk X.N X.env.scope scope own)
    (hg : ∀ (s : Shared) (H : Hp) (C : Addr) (cl : List (Str × Addr)) (fp : List Addr), FB T (X.blk s H scope (compEnvC scope cl C X.env) fp) tg ts bi)
    (ht : ∀ (s : Shared) (H : Hp) (C : Addr) (cl : List (Str × Addr)) (fp : List Addr), FTs T (X.blk s H scope (compEnvC scope cl C X.env) fp) ifs t)
    (hi1 : ∀ (s : Shared) (H : Hp) (C : Addr) (cl : List (Str × Addr)) (fp : List Addr), FI T (X.blk s H scope (compEnvC scope cl C X.env) fp) tg1 iter1 w1)
    (hg1 : ∀ (s : Shared) (H : Hp) (C : Addr) (cl : List (Str × Addr)) (fp : List Addr), FB T (X.blk s H scope (compEnvC scope cl C X.env) fp) tg1 ts1 bi1)
    (ht1 : ∀ (s : Shared) (H : Hp) (C : Addr) (cl : List (Str × Addr)) (fp : List Addr), FTs T (X.blk s H scope (compEnvC scope cl C X.env) fp) ifs1 t1)
    (he : ∀ (s : Shared) (H : Hp) (C : Addr) (cl : List (Str × Addr)) (fp : List Addr), FE T (X.blk s H scope (compEnvC scope cl C X.env) fp) elt f) (hv : ∀ i ∈ vs1, i ∈ own.map (·.2) := by decide) (hts : ∀ i ∈ ts, i ∈ own.map (·.2) := by decide) (hts1 : ∀ i ∈ ts1, i ∈ vs1 := by decide)
    (hs : ∀ x, foldedSetIterable iter X.env x = pure x := by intro _; rfl) (hs1 : ∀ env x, foldedSetIterable iter1 env x = pure x := by intro _ _; rfl) :
    FN T X (.ListComp elt [⟨tg, iter, ifs, 0⟩, ⟨tg1, iter1, ifs1, 0⟩] scope pos) (eLc2 (own.map (·.2)) vs1 w bi t w1 bi1 t1 f) :=
  (pe_lc2 (g := RB T X.K ts bi) (tt := RT T X.K t) (g1 := RB T X.K ts1 bi1) (tt1 := RT T X.K t1) (wi1 := RI T X.K w1) (te := RE T X.K f) hc hN hi ok hv hg ht hi1 hg1 ht1 he hs hs1).weak (rn_lc2 hv hts hts1)
theorem fs_setLc2 (i : Nat) (vs1 : List Nat) {y : Str} {py : Pos} {elt tg iter tg1 iter1 : Expr} {ifs ifs1 : List Expr} {scope : Scope} {pos spos : Pos} {own : List (Str × Nat)} {ts ts1 : List Nat} {w w1 : AF} {bi bi1 : BF} {t t1 : TF} {f : EF} (hc : X.calm = true) (hN : X.N.Nodup) (hy : X.N[i]? = some y) (hyl : X.env.scope.names.lookup y = some .local)
    (hsw : swapsWith (.ListComp elt [⟨tg, iter, ifs, 0⟩, ⟨tg1, iter1, ifs1, 0⟩] scope pos) (some (.Name y py)) spos.line X.env = pure true) (hi : FI T X tg iter w) (ok : BlkOk X.N X.env.scope scope own)
    (hg : ∀ (s : Shared) (H : Hp) (C : Addr) (cl : List (Str × Addr)) (fp : List Addr), FB T (X.blk s H scope (compEnvC scope cl C X.env) fp) tg ts bi)
    (ht : ∀ (s : Shared) (H : Hp) (C : Addr) (cl : List (Str × Addr)) (fp : List Addr), FTs T (X.blk s H scope (compEnvC scope cl C X.env) fp) ifs t)
    (hi1 : ∀ (s : Shared) (H : Hp) (C : Addr) (cl : List (Str × Addr)) (fp : List Addr), FI T (X.blk s H scope (compEnvC scope cl C X.env) fp) tg1 iter1 w1)
    (hg1 : ∀ (s : Shared) (H : Hp) (C : Addr) (cl : List (Str × Addr)) (fp : List Addr), FB T (X.blk s H scope (compEnvC scope cl C X.env) fp) tg1 ts1 bi1)
    (ht1 : ∀ (s : Shared) (H : Hp) (C : Addr) (cl : List (Str × Addr)) (fp : List Addr), FTs T (X.blk s H scope (compEnvC scope cl C X.env) fp) ifs1 t1)
    (he : ∀ (s : Shared) (H : Hp) (C : Addr) (cl : List (Str × Addr)) (fp : List Addr), FE T (X.blk s H scope (compEnvC scope cl C X.env) fp) elt f) (hv : ∀ i ∈ vs1, i ∈ own.map (·.2) := by decide) (hts : ∀ i ∈ ts, i ∈ own.map (·.2) := by decide) (hts1 : ∀ i ∈ ts1, i ∈ vs1 := by decide)
    (hs : ∀ x, foldedSetIterable iter X.env x = pure x := by intro _; rfl) (hs1 : ∀ env x, foldedSetIterable iter1 env x = pure x := by intro _ _; rfl) :
    FS T X (.Assign [.Name y py] (.ListComp elt [⟨tg, iter, ifs, 0⟩, ⟨tg1, iter1, ifs1, 0⟩] scope pos) spos) (asgO i (eLc2 (own.map (·.2)) vs1 w bi t w1 bi1 t1 f)) := by
  have base := ps_setLc2 (g := RB T X.K ts bi) (tt := RT T X.K t) (g1 := RB T X.K ts1 bi1) (tt1 := RT T X.K t1) (wi1 := RI T X.K w1) (te := RE T X.K f) hc hN hy hyl hsw hi ok hv hg ht hi1 hg1 ht1 he hs hs1
  refine PS.weak base fun D σ H ⟨gh, F, env, out, R, e, q⟩ => ?_
  unfold asgO at e
  split at e
  · cases e
  · rename_i d e1 ef
    split at e
    · cases e
    · rename_i e2 es
      cases e
      exact rn_lc2 hv hts hts1 σ H _ ⟨gh, F, env, d, e1, R, ef, fun a H1 F1 R1 s1 h1 h2 h3 h4 => q _ _ _ (R1.put es (.inr (.inr ⟨d, a, rfl, rfl, h1, h2, h3, h4⟩))) s1⟩
end
end Fx

namespace Fx
open PySem PySem.Spec L2
open PyProof.Rows hiding St
section
variable {T : List Addr} {X : Cx}
/-- return of a new object -/
def sRetO (f : EF) : SF := fun env => match f env with
  | none => none
  | some (d, e) => some (.rf d e)
theorem fs_retO {e : Expr} {pos : Pos} {f : EF} (he : FN T X e f) : FS T X (.Return (some e) pos) (sRetO f) :=
  (ps_ret he).weak fun D σ H ⟨gh, F, env, out, R, e, q⟩ => by
    unfold sRetO at e
    split at e
    · cases e
    · rename_i d e1 ef
      cases e
      exact ⟨gh, F, env, _, _, R, ef, fun a H1 F1 R1 s1 h1 h2 h3 h4 => q a _ H1 F1 R1 s1 h1 h2 h3 h4⟩
/-- the promise of a def that hands back a new object -/
def spN (T : List Addr) (K : PySem.W.Frag) (g : List PV → Option PV) : Sp := fun vs H Q _ => ∃ F ps d, Same F H ∧ (∀ P ∈ T, GxR.TabG H P ∧ F P = none) ∧ Reps K F vs ps ∧ g ps = some d ∧
  ∀ a H' F', Left T H H' F F' (fun _ => False) → F' a = none → H a = none → Own K F' H' a d → Q (.ref a) H'
theorem cn_call {K : PySem.W.Frag} {g : List PV → Option PV} {f : AF} {E : XK} : ∀ σ H Q, RN T K (callF g f) σ H Q → tCall (spN T K g) [] E (RA T K f) σ H Q := by
  rintro σ H Q ⟨gh, F, env, d, env', R, e, q⟩
  unfold callF at e
  split at e
  · cases e
  · rename_i ds e1 ef
    split at e
    · cases e
    · rename_i d' eg
      cases e
      refine ⟨gh, F, env, _, _, R, ef, fun vs H1 F1 R1 s1 r1 => ⟨F1, ds, d, R1.sub, fun P hP => ⟨R1.tab P hP, R1.nt P hP⟩, by rw [List.append_nil]; exact r1, eg, fun a H2 F2 L h1 h2 ho => ?_⟩⟩
      obtain ⟨h0, nT, hF⟩ := R1.fresh h2
      exact q a H2 F2 (R1.left L) (s1.trans L.frz) h1 h0 (R1.own_ne h2) ho
/-- f(e, ..), f a def that hands back a new object -/
theorem fn_call {CX : CXT} {k : Nat} {f : Addr} {fd : FuncData} {ps : List Str} {g : List PV → Option PV} {E : XK} {x : Str} {p pos : Pos} {e : Expr} {es : List Expr} {h : AF} (F : FnOk X.prog X.w X.K X.mg X.base CX k f fd ps (spN T X.K g)) (hr : Room k X.A) (hm : X.mg x = some (.ref f)) (hk : PySem.W.keepIn X.K (.ref f) = true) (hb : Binds X.K fd ps []) (hx : Passes CX X E)
    (ha : FA T X (e :: es) h) (hg : Gl X x := by rfl) (hdb : (x == ("__debug__" : Str)) = false := by decide) (he : starEach (e :: es) X.env = (false, eval e X.env) :: starEach es X.env := by rfl) (hpl : (backTo pos (starEach es X.env)).any (·.1) = false := by rfl) :
    FN T X (.Call (.Name x p) (e :: es) [] pos) (callF g h) :=
  (pe_call F hr hg hm hk hb .nil hx ha hdb he hpl).weak cn_call
end
def runN (n k : Nat) (b : SF) (ps : List PV) : Option PV := if ps.length = k ∧ k ≤ n then match b (start0 n ps) with
  | some (.rf d _) => some d
  | _ => none
  else none
section
variable {P : Program} {w : World} {K : PySem.W.Frag} {mg : Str → Option Value} {base : Heap} {T : List Addr}
theorem endsN_of {b : SF} {N : List Str} {vs : List V} {H F : Hp} {ps : List PV} {d : PV} {Q : VK} (sF : Same F H) (hT : ∀ P ∈ T, GxR.TabG H P ∧ F P = none) (r : Reps K F vs ps) (e : runN N.length ps.length b ps = some d)
    (q : ∀ a H' F', Left T H H' F F' (fun _ => False) → F' a = none → H a = none → Own K F' H' a d → Q (.ref a) H') : RS T K b { nx := fun _ H' => Q .non H', rt := Q } (L2.start N vs) H := by
  unfold runN at e
  split at e
  · rename_i hk
    have R := rel_start (N := N) sF hT r hk.2
    split at e
    · rename_i d1 e1 eb
      cases e
      exact ⟨_, F, _, _, R, eb, fun a σ' H' F' R' s h1 h2 h3 h4 => q a _ _ (R'.toLeft rfl) h1 h2 h4⟩
    · cases e
  · cases e
theorem fn_new {x qual : Str} {st : Stmt} {f : Addr} {fd : FuncData} {N ps : List Str} {j k n : Nat} {b : SF} (F : Fun K x qual st f fd) (S : FnScope N ps (defScope st)) (hn : N.length = n) (hk : ps.length = k)
    (hbody : ∀ (cdv : Value) (A : Around) (outer : List Env) (s : Shared) (H : Hp) (E : XK), Room j (A.deeper (envOfC qual (defScope st) s.heap.objs.size f cdv)) → FSs T (cxOf CX0 P w K mg base N qual (defScope st) f cdv A outer s H E).nox (defBody st) b) :
    FnOk P w K mg base CX0 (j + 1) f fd ps (spN T K (runN n k b)) := by
  subst hn hk
  refine F.ok S (fun vs H Q E h => ?_) (fun cdv A outer s H vs Q E hr h => ?_)
  · obtain ⟨F, qs, d, _, _, r, e, _⟩ := h
    unfold runN at e
    split at e
    · rename_i hk
      rw [r.len]; exact hk.1
    · cases e
  · obtain ⟨F, qs, d, sF, hT, r, e, q⟩ := h
    have hl : qs.length = ps.length := by
      unfold runN at e
      split at e
      · rename_i hk; exact hk.1
      · cases e
    exact ⟨_, hbody cdv A outer s H E hr, endsN_of sF hT r (by rw [hl]; exact e) q⟩
/-- the script, as the law gets it -/
def scrD (ns : List Int) : PV := .dict [(.bool true, .list (ns.map .int))]
theorem reps_map {F : Hp} : ∀ ns : List Int, Reps K F (ns.map V.int) (ns.map PyData.int)
  | [] => .nil
  | n :: r => .cons (.int n) (reps_map r)
/-- the law's promise, from what it computes -/
theorem law_of {H : Hp} {a : Addr} {ns : List Int} {g : List PV → Option PV} (hS : SqL K H a (ns.map V.int)) (e : g [scrD ns] = some (.bool true)) : spP [] K g [.ref a] H (fun v _ => v = .bl true) fun _ _ _ => False := by
  refine ⟨H, [scrD ns], _, Same.refl _, (fun P z => by cases z), .one (.lk hS (reps_map ns)), e, fun v H' F' L r => ?_⟩
  cases r
  rfl
end
end Fx

namespace Fx
open PySem PySem.Spec L2
open PyProof.Rows hiding St
theorem hu1 {n c : Nat} (h : n + 64 < c) : n + 1 < c := by omega
section
variable {T : List Addr} {X : Cx}
/-- xs * n, a new list -/
def pRepN : PV → PV → Option PV
  | .list xs, .int k => if -(2 ^ 63) ≤ k ∧ k < 2 ^ 63 ∧ xs.length * k.toNat ≤ sizeLine then some (.list (List.replicate k.toNat xs).flatten) else none
  | _, _ => none
def pCatN : PV → PV → Option PV
  | .list xs, .list ys => if xs.length + ys.length ≤ sizeLine then some (.list (xs ++ ys)) else none
  | _, _ => none
theorem reps_rep {K : PySem.W.Frag} {F : Hp} {vs : List V} {ds : List PV} (r : Reps K F vs ds) : ∀ n : Nat, Reps K F (List.replicate n vs).flatten (List.replicate n ds).flatten := fun n => by
  induction n with
  | zero => exact .nil
  | succ n ih =>
    rw [List.replicate_succ, List.replicate_succ, List.flatten_cons, List.flatten_cons]
    exact r.append ih
theorem fn_rep {a b : Expr} {pos : Pos} {fa fb : EF} (ha : FE T X a fa) (hb : FE T X b fb) : FN T X (.BinOp a .Mult b pos) (bin pRepN fa fb) :=
  (pe_op op_rep ha hb).weak fun σ H Q ⟨gh, F, env, d, env', R, e, q⟩ => by
    unfold bin at e
    split at e
    · cases e
    · rename_i d1 e1 ef
      split at e
      · cases e
      · rename_i d2 e2 eg
        split at e
        · cases e
        · rename_i r er
          cases e
          refine ⟨gh, F, env, _, _, R, ef, fun v H1 F1 R1 s1 r1 => ⟨gh, F1, _, _, _, R1, eg, fun w H2 F2 R2 s2 r2 => ?_⟩⟩
          unfold pRepN at er
          split at er
          · split at er
            · rename_i hl
              cases er
              have r1' := r1.mono s2
              cases r1' with
              | lst ha ra =>
                refine ⟨_, _, _, rfl, r2.int_iff, R2.sub _ _ ha, hl.1, hl.2.1, by rw [ra.len]; exact hl.2.2, fun p hp => ?_⟩
                obtain ⟨h0, nT, hF⟩ := R2.fresh hp
                exact q p _ F2 (R2.laid hp) (s1.trans s2) hF h0 (R2.own_ne hp) (.lst upd_same (reps_rep ra _))
            · cases er
          · cases er
theorem fn_cat {a b : Expr} {pos : Pos} {fa fb : EF} (ha : FE T X a fa) (hb : FE T X b fb) : FN T X (.BinOp a .Add b pos) (bin pCatN fa fb) :=
  (pe_op op_cat ha hb).weak fun σ H Q ⟨gh, F, env, d, env', R, e, q⟩ => by
    unfold bin at e
    split at e
    · cases e
    · rename_i d1 e1 ef
      split at e
      · cases e
      · rename_i d2 e2 eg
        split at e
        · cases e
        · rename_i r er
          cases e
          refine ⟨gh, F, env, _, _, R, ef, fun v H1 F1 R1 s1 r1 => ⟨gh, F1, _, _, _, R1, eg, fun w H2 F2 R2 s2 r2 => ?_⟩⟩
          unfold pCatN at er
          split at er
          · split at er
            · rename_i hl
              cases er
              have r1' := r1.mono s2
              cases r1' with
              | lst ha ra =>
                cases r2 with
                | lst hb rb =>
                  refine ⟨_, _, _, _, rfl, rfl, R2.sub _ _ ha, R2.sub _ _ hb, by rw [ra.len, rb.len]; exact hl, fun p hp => ?_⟩
                  obtain ⟨h0, nT, hF⟩ := R2.fresh hp
                  exact q p _ F2 (R2.laid hp) (s1.trans s2) hF h0 (R2.own_ne hp) (.lst upd_same (ra.append rb))
            · cases er
          · cases er
end
section
variable {T : List Addr} {X : Cx}
theorem fs_setLcO (i : Nat) {y : Str} {py : Pos} {elt tg iter : Expr} {ifs : List Expr} {scope : Scope} {pos spos : Pos} {own : List (Str × Nat)} {ts : List Nat} {w : AF} {bi : BF} {t : TF} {f : EF} (hc : X.calm = true) (hN : X.N.Nodup) (hy : X.N[i]? = some y) (hyl : X.env.scope.names.lookup y = some .local)
    (hsw : swapsWith (.ListComp elt [⟨tg, iter, ifs, 0⟩] scope pos) (some (.Name y py)) spos.line X.env = pure true) (hi : FI T X tg iter w) (ok : BlkOk X.N X.env.scope scope own)
    (hg : ∀ (s : Shared) (H : Hp) (C : Addr) (cl : List (Str × Addr)) (fp : List Addr), FB T (X.blk s H scope (compEnvC scope cl C X.env) fp) tg ts bi)
    (ht : ∀ (s : Shared) (H : Hp) (C : Addr) (cl : List (Str × Addr)) (fp : List Addr), FTs T (X.blk s H scope (compEnvC scope cl C X.env) fp) ifs t)
    (he : ∀ (s : Shared) (H : Hp) (C : Addr) (cl : List (Str × Addr)) (fp : List Addr), FE T (X.blk s H scope (compEnvC scope cl C X.env) fp) elt f) (hts : ∀ i ∈ ts, i ∈ own.map (·.2) := by decide)
    (hs : ∀ x, foldedSetIterable iter X.env x = pure x := by intro _; rfl) :
    FS T X (.Assign [.Name y py] (.ListComp elt [⟨tg, iter, ifs, 0⟩] scope pos) spos) (asgO i (eLc (own.map (·.2)) w bi t f)) :=
  (fs_setLc i hc hN hy hyl hsw hi ok hg ht he hts hs).2
end
abbrev FnP (K : PySem.W.Frag) (x : Str) (st : Stmt) (f : Addr) (fd : FuncData) : Prop := FunD K x x (defArgs st) (defBody st) (defScope st) [] [] f fd
section
variable {P : Program} {w : World} {K : PySem.W.Frag} {mg : Str → Option Value} {base : Heap} {T : List Addr}
theorem fd_pure {x : Str} {st : Stmt} {f : Addr} {fd : FuncData} {N ps : List Str} {j k n : Nat} {b : SF} (F : FnP K x st f fd) (S : FnScope N ps (defScope st)) (hn : N.length = n) (hk : ps.length = k)
    (hbody : ∀ (cdv : Value) (A : Around) (outer : List Env) (s : Shared) (H : Hp) (E : XK), Room j (A.deeper (envOfC x (defScope st) s.heap.objs.size f cdv)) → FSs T (cxOf CX0 P w K mg base N x (defScope st) f cdv A outer s H E).nox (defBody st) b) :
    FnOk P w K mg base CX0 (j + 1) f fd ps (spP T K (runP n k b)) := by
  subst hn hk
  refine F.ok S (fun vs H Q E h => ?_) (fun cdv A outer s H vs Q E hr h => ?_)
  · obtain ⟨F, qs, d, _, _, r, e, _⟩ := h
    unfold runP at e
    split at e
    · rename_i hk
      rw [r.len]; exact hk.1
    · cases e
  · obtain ⟨F, qs, d, sF, hT, r, e, q⟩ := h
    have hl : qs.length = ps.length := by
      unfold runP at e
      split at e
      · rename_i hk; exact hk.1
      · cases e
    exact ⟨_, (hbody cdv A outer s H E hr).nox, ends_of sF hT r (by rw [hl]; exact e) q⟩
theorem fd_new {x : Str} {st : Stmt} {f : Addr} {fd : FuncData} {N ps : List Str} {j k n : Nat} {b : SF} (F : FnP K x st f fd) (S : FnScope N ps (defScope st)) (hn : N.length = n) (hk : ps.length = k)
    (hbody : ∀ (cdv : Value) (A : Around) (outer : List Env) (s : Shared) (H : Hp) (E : XK), Room j (A.deeper (envOfC x (defScope st) s.heap.objs.size f cdv)) → FSs T (cxOf CX0 P w K mg base N x (defScope st) f cdv A outer s H E).nox (defBody st) b) :
    FnOk P w K mg base CX0 (j + 1) f fd ps (spN T K (runN n k b)) := by
  subst hn hk
  refine F.ok S (fun vs H Q E h => ?_) (fun cdv A outer s H vs Q E hr h => ?_)
  · obtain ⟨F, qs, d, _, _, r, e, _⟩ := h
    unfold runN at e
    split at e
    · rename_i hk
      rw [r.len]; exact hk.1
    · cases e
  · obtain ⟨F, qs, d, sF, hT, r, e, q⟩ := h
    have hl : qs.length = ps.length := by
      unfold runN at e
      split at e
      · rename_i hk; exact hk.1
      · cases e
    exact ⟨_, (hbody cdv A outer s H E hr).nox, endsN_of sF hT r (by rw [hl]; exact e) q⟩
theorem fd_io {x : Str} {st : Stmt} {f : Addr} {fd : FuncData} {N ps : List Str} {j k n : Nat} {b : SF} (F : FnP K x st f fd) (S : FnScope N ps (defScope st)) (hn : N.length = n) (hk : ps.length = k)
    (hbody : ∀ (cdv : Value) (A : Around) (outer : List Env) (s : Shared) (H : Hp) (E : XK), Room j (A.deeper (envOfC x (defScope st) s.heap.objs.size f cdv)) → FSs T (cxOf CX0 P w K mg base N x (defScope st) f cdv A outer s H E).nox (defBody st) b) :
    FnOk P w K mg base CX0 (j + 1) f fd ps (spIO T K (runIO n k b)) := by
  subst hn hk
  refine F.ok S (fun vs H Q E h => ?_) (fun cdv A outer s H vs Q E hr h => ?_)
  · obtain ⟨F, a, vs', qs, d, d', r, rfl, _, _, _, _, rr, e, _⟩ := h
    unfold runIO at e
    split at e
    · rename_i hk
      rw [List.length_cons, rr.len]; exact hk.1
    · cases e
  · obtain ⟨F, a, vs', qs, d, d', r, rfl, sF, hT, hF, ho, rr, e, q⟩ := h
    have hl : qs.length + 1 = ps.length := by
      unfold runIO at e
      split at e
      · rename_i hk; exact hk.1
      · cases e
    exact ⟨_, (hbody cdv A outer s H E hr).nox, endsIO_of sF hT hF ho rr (by rw [hl]; exact e) q⟩
end
def bltB (K : PySem.W.Frag) (b : Str × String) : Bool := He.eqO (PySem.W.nsIn K mainGlobals b.1) (some (some (.builtin b.2)))
def obsG (bl : List (Str × String)) (fa : List He.Fa) (fn : List He.DefD) (K : PySem.W.Frag) : He.AlD := (bl.all (bltB K) && (He.obsD fa fn K).1, (He.obsD fa fn K).2)
def SaysG (bl : List (Str × String)) (fa : List He.Fa) (fn : List He.DefD) (K : PySem.W.Frag) : Prop := obsG bl fa fn K = He.valD fn
def obsGG (n : Nat) (bl : List (Str × String)) (fa : List He.Fa) (fn : List He.DefD) (g : Addr → Option Obj) : He.AlD := obsG bl fa fn (He.frG g (He.asD g n))
def hookG (n : Nat) (bl : List (Str × String)) (fa : List He.Fa) (fn : List He.DefD) : PySem.W.Hook where
  α := He.AlD
  obs := fun s => obsGG n bl fa fn s.heap.get?
  val := fun _ => He.valD fn
  says := fun _ h => ∃ K : PySem.W.Frag, K.In h ∧ SaysG bl fa fn K
  of := fun _ _ e => ⟨_, He.frG_in, e⟩
  keeps := fun _ _ _ ⟨K, hK, c⟩ k => ⟨K, PySem.W.Frag.In.keeps hK k, c⟩
theorem obsGG_eq {n : Nat} {bl : List (Str × String)} {fa : List He.Fa} {fn : List He.DefD} {g : Addr → Option Obj} {s : Shared} (h : ∀ a, g a = s.heap.get? a) : obsGG n bl fa fn g = (hookG n bl fa fn).obs s := by
  have e : g = s.heap.get? := funext h
  rw [e] <;> rfl
section
variable {bl : List (Str × String)} {fa : List He.Fa} {fn : List He.DefD} {K : PySem.W.Frag}
theorem SaysG.d (c : SaysG bl fa fn K) : He.SaysD fa fn K := by
  have h1 : (bl.all (bltB K) && (He.obsD fa fn K).1) = true := congrArg (fun z : He.AlD => z.1) c
  have h2 : (He.obsD fa fn K).2 = (He.valD fn).2 := by
    have := congrArg (fun z : He.AlD => z.2) (show obsG bl fa fn K = He.valD fn from c)
    exact this
  exact Prod.ext (He.ba h1).2 h2
theorem SaysG.blt (c : SaysG bl fa fn K) {h : Heap} {mg : Str → Option Value} (X : K.In h) (G : h.Ns mainGlobals mg) (i : Nat) {b : Str × String} (e : bl[i]? = some b := by rfl) : mg b.1 = some (.builtin b.2) := by
  have h1 : (bl.all (bltB K) && (He.obsD fa fn K).1) = true := congrArg (fun z : He.AlD => z.1) c
  have h2 := List.all_eq_true.mp (He.ba h1).1 b (List.mem_of_getElem? e)
  exact PySem.W.mg_of X G (He.eqO_ok h2)
end
end Fx

namespace Fx
open PySem PySem.Spec L2
open PyProof.Rows hiding St
def topS (i : Nat) : Stmt := PySem.Challenge.pw_numberwright_k60_whole_rings_across.main.body.getD i (.Pass ⟨0, 0, 0, 0⟩)
structure Gx (K : PySem.W.Frag) (mg : Str → Option Value) where
  a_parts_of : Addr
  d_parts_of : FuncData
  D_parts_of : FnP K "parts_of" (topS 2) a_parts_of d_parts_of
  m_parts_of : mg "parts_of" = some (.ref a_parts_of)
  a_divisors_of : Addr
  d_divisors_of : FuncData
  D_divisors_of : FnP K "divisors_of" (topS 3) a_divisors_of d_divisors_of
  m_divisors_of : mg "divisors_of" = some (.ref a_divisors_of)
  a_coprimes : Addr
  d_coprimes : FuncData
  D_coprimes : FnP K "coprimes" (topS 4) a_coprimes d_coprimes
  m_coprimes : mg "coprimes" = some (.ref a_coprimes)
  a_power_rest : Addr
  d_power_rest : FuncData
  D_power_rest : FnP K "power_rest" (topS 5) a_power_rest d_power_rest
  m_power_rest : mg "power_rest" = some (.ref a_power_rest)
  a_multiplied : Addr
  d_multiplied : FuncData
  D_multiplied : FnP K "multiplied" (topS 7) a_multiplied d_multiplied
  m_multiplied : mg "multiplied" = some (.ref a_multiplied)
  a_divided : Addr
  d_divided : FuncData
  D_divided : FnP K "divided" (topS 8) a_divided d_divided
  m_divided : mg "divided" = some (.ref a_divided)
  a_ring_part : Addr
  d_ring_part : FuncData
  D_ring_part : FnP K "ring_part" (topS 9) a_ring_part d_ring_part
  m_ring_part : mg "ring_part" = some (.ref a_ring_part)
  a_value_of : Addr
  d_value_of : FuncData
  D_value_of : FnP K "value_of" (topS 10) a_value_of d_value_of
  m_value_of : mg "value_of" = some (.ref a_value_of)
  a_ring_value : Addr
  d_ring_value : FuncData
  D_ring_value : FnP K "ring_value" (topS 11) a_ring_value d_ring_value
  m_ring_value : mg "ring_value" = some (.ref a_ring_value)
  a_carries : Addr
  d_carries : FuncData
  D_carries : FnP K "carries" (topS 13) a_carries d_carries
  m_carries : mg "carries" = some (.ref a_carries)
  a_often_in_choices : Addr
  d_often_in_choices : FuncData
  D_often_in_choices : FnP K "often_in_choices" (topS 14) a_often_in_choices d_often_in_choices
  m_often_in_choices : mg "often_in_choices" = some (.ref a_often_in_choices)
  a_choices_of : Addr
  d_choices_of : FuncData
  D_choices_of : FnP K "choices_of" (topS 15) a_choices_of d_choices_of
  m_choices_of : mg "choices_of" = some (.ref a_choices_of)
  a_choices_rest : Addr
  d_choices_rest : FuncData
  D_choices_rest : FnP K "choices_rest" (topS 16) a_choices_rest d_choices_rest
  m_choices_rest : mg "choices_rest" = some (.ref a_choices_rest)
  a_is_integer : Addr
  d_is_integer : FuncData
  D_is_integer : FnP K "is_integer" (topS 18) a_is_integer d_is_integer
  m_is_integer : mg "is_integer" = some (.ref a_is_integer)
  a_is_within : Addr
  d_is_within : FuncData
  D_is_within : FnP K "is_within" (topS 19) a_is_within d_is_within
  m_is_within : mg "is_within" = some (.ref a_is_within)
  a_is_worded : Addr
  d_is_worded : FuncData
  D_is_worded : FnP K "is_worded" (topS 20) a_is_worded d_is_worded
  m_is_worded : mg "is_worded" = some (.ref a_is_worded)
  a_order : Addr
  d_order : FuncData
  D_order : FnP K "order" (topS 22) a_order d_order
  m_order : mg "order" = some (.ref a_order)
  a_check_root : Addr
  d_check_root : FuncData
  D_check_root : FnP K "check_root" (topS 23) a_check_root d_check_root
  m_check_root : mg "check_root" = some (.ref a_check_root)
  a__law_pool : Addr
  d__law_pool : FuncData
  D__law_pool : FnP K "_law_pool" (topS 25) a__law_pool d__law_pool
  m__law_pool : mg "_law_pool" = some (.ref a__law_pool)
  a__law_spread : Addr
  d__law_spread : FuncData
  D__law_spread : FnP K "_law_spread" (topS 26) a__law_spread d__law_spread
  m__law_spread : mg "_law_spread" = some (.ref a__law_spread)
  a__law_draw : Addr
  d__law_draw : FuncData
  D__law_draw : FnP K "_law_draw" (topS 27) a__law_draw d__law_draw
  m__law_draw : mg "_law_draw" = some (.ref a__law_draw)
  a__law_power : Addr
  d__law_power : FuncData
  D__law_power : FnP K "_law_power" (topS 28) a__law_power d__law_power
  m__law_power : mg "_law_power" = some (.ref a__law_power)
  a__law_often : Addr
  d__law_often : FuncData
  D__law_often : FnP K "_law_often" (topS 29) a__law_often d__law_often
  m__law_often : mg "_law_often" = some (.ref a__law_often)
  a_law : Addr
  d_law : FuncData
  D_law : FnP K "law" (topS 30) a_law d_law
  m_law : mg "law" = some (.ref a_law)
  g_bool : mg "bool" = none
  g_enumerate : mg "enumerate" = none
  g_int : mg "int" = none
  g_isinstance : mg "isinstance" = none
  g_len : mg "len" = none
  g_list : mg "list" = none
  g_range : mg "range" = none
  g_reversed : mg "reversed" = none
  g_sorted : mg "sorted" = none
  g_str : mg "str" = none
  g_tuple : mg "tuple" = none
  g_gcd : mg "gcd" = some (.builtin "math.gcd")
section
variable {P : Program} {w : World} {K : PySem.W.Frag} {mg : Str → Option Value} {base : Heap} (G : Gx K mg)
theorem sc_parts_of : FnScope ["n", "found", "p", "many"] ["n"] (defScope (topS 2)) := ⟨rfl, rfl, rfl, by decide +kernel, rfl, by decide +kernel, by decide +kernel⟩
theorem bd_parts_of : Binds K G.d_parts_of ["n"] [] := G.D_parts_of.bindsN fun _ _ _ _ _ _ us hl => match us, hl with | [_], _ => rfl
def b_parts_of : SF := (sSeq (asgO 1 (eLst aNil)) (sSeq (asg 2 (kE (.int 2))) (sSeq (whF (tB' (bin pLe (bin pMul (nm 2) (nm 2)) (nm 0))) (sSeq (asg 3 (kE (.int 0))) (sSeq (whF (tB' (bin pEq (bin pMod (nm 0) (nm 2)) (kE (.int 0)))) (sSeq (aug 0 pDiv (nm 2)) (aug 3 pAddI (kE (.int 1)))) 2000) (sSeq (sIf (tB' (bin pGt (nm 3) (kE (.int 0)))) (sExpr (append 1 (eTup (aCons (nm 2) (aCons (nm 3) aNil))))) sSkip) (aug 2 pAddI (eIf (tB' (bin pEq (nm 2) (kE (.int 2)))) (kE (.int 1)) (kE (.int 2))))))) 2000) (sSeq (sIf (tB' (bin pGt (nm 0) (kE (.int 1)))) (sExpr (append 1 (eTup (aCons (nm 0) (aCons (kE (.int 1)) aNil))))) sSkip) (sRet (callF pTuple (aCons (nm 1) aNil)))))))
def p_parts_of : List PV → Option PV := runP 4 1 b_parts_of
theorem ok_parts_of : FnOk P w K mg base CX0 1 G.a_parts_of G.d_parts_of ["n"] (spP [] K p_parts_of) := fd_pure G.D_parts_of sc_parts_of rfl rfl fun cdv A outer s H E hr => by
  have hu := hr.units
  exact (fss_cons (fs_setO 1 sc_parts_of.nd (fn_lst fa_nil)) (fss_cons (fs_set 2 sc_parts_of.nd fe_int) (fss_cons (fs_while 2000 (PassesOwn.never) (ft_cmp (op_leA) of_le (fe_op op_mulA of_mul (fe_nm 2) (fe_nm 2)) (fe_nm 0)) (fss_cons (fs_set 3 sc_parts_of.nd fe_int) (fss_cons (fs_while 2000 (PassesOwn.never) (ft_cmp (op_eqA hu) of_eq (fe_op op_modN of_mod (fe_nm 0) (fe_nm 2)) fe_int) (fss_cons (fs_aug 0 sc_parts_of.nd iop_fdivG of_div (fe_nm 2)) (fss_one (fs_aug 3 sc_parts_of.nd iop_addA of_addI fe_int)))) (fss_cons (fs_if (ft_cmp (op_gtA) of_gt (fe_nm 3) fe_int) (fss_one (fs_expr (fe_append 1 (fe_tup (fa_cons (fe_nm 2) (fa_cons (fe_nm 3) fa_nil)))))) fss_nil) (fss_one (fs_aug 2 sc_parts_of.nd iop_addA of_addI (fe_if (ft_cmp (op_eqA hu) of_eq (fe_nm 2) fe_int) fe_int fe_int))))))) (fss_cons (fs_if (ft_cmp (op_gtA) of_gt (fe_nm 0) fe_int) (fss_one (fs_expr (fe_append 1 (fe_tup (fa_cons (fe_nm 0) (fa_cons fe_int fa_nil)))))) fss_nil) (fss_one (fs_ret (fe_callTy call_tuple_of cf_tuple rfl G.g_tuple (by decide +kernel) (fa_cons (fe_nm 1) fa_nil))))))))
theorem sc_divisors_of : FnScope ["n", "found", "p", "e", "powers", "k", "one", "power"] ["n"] (defScope (topS 3)) := ⟨rfl, rfl, rfl, by decide +kernel, rfl, by decide +kernel, by decide +kernel⟩
theorem bd_divisors_of : Binds K G.d_divisors_of ["n"] [] := G.D_divisors_of.bindsN fun _ _ _ _ _ _ us hl => match us, hl with | [_], _ => rfl
def b_divisors_of : SF := (sSeq (asgO 1 (eLst (aCons (kE (.int 1)) aNil))) (sSeq (sFor (wSeq (callF p_parts_of (aCons (nm 0) aNil))) (bTup 2 (bCons (bNm 2) (bCons (bNm 3) bNil))) (sSeq (asgO 4 (eLst (aCons (kE (.int 1)) aNil))) (sSeq (sFor (wRng1 (nm 3)) (bNm 5) (sExpr (append 4 (bin pMul (ixN' 4 (un pNeg (kE (.int 1)))) (nm 2))))) (asgO 1 (eLc2 [6, 7] [7] (wSeq (nm 1)) (bNm 6) tYs (wSeq (nm 4)) (bNm 7) tYs (bin pMul (nm 6) (nm 7))))))) (sRet (callF pSorted (aCons (nm 1) aNil)))))
def p_divisors_of : List PV → Option PV := runP 8 1 b_divisors_of
theorem ok_divisors_of : FnOk P w K mg base CX0 2 G.a_divisors_of G.d_divisors_of ["n"] (spP [] K p_divisors_of) := fd_pure G.D_divisors_of sc_divisors_of rfl rfl fun cdv A outer s H E hr => by
  have hu := hr.units
  exact (fss_cons (fs_setO 1 sc_divisors_of.nd (fn_lst (fa_cons fe_int fa_nil))) (fss_cons (fs_for (PassesOwn.never) rfl (fi_seq (fe_call (ok_parts_of G) (hr.mono (by decide : 1 ≤ 1)) G.m_parts_of G.D_parts_of.kp (bd_parts_of G) pass0 (fa_cons (fe_nm 0) fa_nil))) (fb_tup rfl (fbs_cons (fb_nm 2 sc_divisors_of.nd) (fbs_cons (fb_nm 3 sc_divisors_of.nd) fbs_nil))) (fss_cons (fs_setO 4 sc_divisors_of.nd (fn_lst (fa_cons fe_int fa_nil))) (fss_cons (fs_for (PassesOwn.never) rfl (fi_rng1 rfl G.g_range (fe_nm 3)) (fb_nm 5 sc_divisors_of.nd) (fss_one (fs_expr (fe_append 4 (fe_op op_mulA of_mul (fe_ixN 4 (fe_neg fe_int)) (fe_nm 2)))))) (fss_one (fs_setLc2 1 (own := [("one", 6), ("power", 7)]) [7] rfl sc_divisors_of.nd rfl rfl (sw_true rfl rfl rfl (by decide +kernel)) (fi_seq (fe_nm 1)) (blkOk_by (own := [("one", 6), ("power", 7)]) (N := ["n", "found", "p", "e", "powers", "k", "one", "power"]) (sc := defScope (topS 3)) (by decide +kernel)) (fun _ _ _ _ _ => (fb_nm 6 sc_divisors_of.nd)) (fun _ _ _ _ _ => fts_nil) (fun _ _ _ _ _ => (fi_seq (fe_nm 4))) (fun _ _ _ _ _ => (fb_nm 7 sc_divisors_of.nd)) (fun _ _ _ _ _ => fts_nil) (fun _ _ _ _ _ => (fe_op op_mulA of_mul (fe_nm 6) (fe_nm 7)))))))) (fss_one (fs_ret (FN.fe (fn_callB cr_sortedI cn_sorted rfl G.g_sorted (by decide +kernel) (fa_cons (fe_nm 1) fa_nil)))))))
theorem sc_coprimes : FnScope ["n", "found", "p", "e"] ["n"] (defScope (topS 4)) := ⟨rfl, rfl, rfl, by decide +kernel, rfl, by decide +kernel, by decide +kernel⟩
theorem bd_coprimes : Binds K G.d_coprimes ["n"] [] := G.D_coprimes.bindsN fun _ _ _ _ _ _ us hl => match us, hl with | [_], _ => rfl
def b_coprimes : SF := (sSeq (asg 1 (nm 0)) (sSeq (sFor (wSeq (callF p_parts_of (aCons (nm 0) aNil))) (bTup 2 (bCons (bNm 2) (bCons (bNm 3) bNil))) (asg 1 (bin pMul (bin pDiv (nm 1) (nm 2)) (bin pSub (nm 2) (kE (.int 1)))))) (sRet (nm 1))))
def p_coprimes : List PV → Option PV := runP 4 1 b_coprimes
theorem ok_coprimes : FnOk P w K mg base CX0 2 G.a_coprimes G.d_coprimes ["n"] (spP [] K p_coprimes) := fd_pure G.D_coprimes sc_coprimes rfl rfl fun cdv A outer s H E hr => by
  have hu := hr.units
  exact (fss_cons (fs_set 1 sc_coprimes.nd (fe_nm 0)) (fss_cons (fs_for (PassesOwn.never) rfl (fi_seq (fe_call (ok_parts_of G) (hr.mono (by decide : 1 ≤ 1)) G.m_parts_of G.D_parts_of.kp (bd_parts_of G) pass0 (fa_cons (fe_nm 0) fa_nil))) (fb_tup rfl (fbs_cons (fb_nm 2 sc_coprimes.nd) (fbs_cons (fb_nm 3 sc_coprimes.nd) fbs_nil))) (fss_one (fs_set 1 sc_coprimes.nd (fe_op op_mulA of_mul (fe_op op_fdivG of_div (fe_nm 1) (fe_nm 2)) (fe_op op_sub of_sub (fe_nm 2) fe_int))))) (fss_one (fs_ret (fe_nm 1)))))
theorem sc_power_rest : FnScope ["a", "k", "m", "found"] ["a", "k", "m"] (defScope (topS 5)) := ⟨rfl, rfl, rfl, by decide +kernel, rfl, by decide +kernel, by decide +kernel⟩
theorem bd_power_rest : Binds K G.d_power_rest ["a", "k", "m"] [] := G.D_power_rest.bindsN fun _ _ _ _ _ _ us hl => match us, hl with | [_, _, _], _ => rfl
def b_power_rest : SF := (sSeq (asg2 3 0 (aCons (bin pMod (kE (.int 1)) (nm 2)) (aCons (bin pMod (nm 0) (nm 2)) aNil))) (sSeq (whF (tB' (bin pGt (nm 1) (kE (.int 0)))) (sSeq (sIf (tB' (bin pEq (bin pMod (nm 1) (kE (.int 2))) (kE (.int 1)))) (asg 3 (bin pMod (bin pMul (nm 3) (nm 0)) (nm 2))) sSkip) (sSeq (asg 0 (bin pMod (bin pMul (nm 0) (nm 0)) (nm 2))) (aug 1 pDiv (kE (.int 2))))) 2000) (sRet (nm 3))))
def p_power_rest : List PV → Option PV := runP 4 3 b_power_rest
theorem ok_power_rest : FnOk P w K mg base CX0 1 G.a_power_rest G.d_power_rest ["a", "k", "m"] (spP [] K p_power_rest) := fd_pure G.D_power_rest sc_power_rest rfl rfl fun cdv A outer s H E hr => by
  have hu := hr.units
  exact (fss_cons (fs_par 3 0 sc_power_rest.nd (fa_cons (fe_op op_modN of_mod fe_int (fe_nm 2)) (fa_cons (fe_op op_modN of_mod (fe_nm 0) (fe_nm 2)) fa_nil))) (fss_cons (fs_while 2000 (PassesOwn.never) (ft_cmp (op_gtA) of_gt (fe_nm 1) fe_int) (fss_cons (fs_if (ft_cmp (op_eqA hu) of_eq (fe_op op_modN of_mod (fe_nm 1) fe_int) fe_int) (fss_one (fs_set 3 sc_power_rest.nd (fe_op op_modN of_mod (fe_op op_mulA of_mul (fe_nm 3) (fe_nm 0)) (fe_nm 2)))) fss_nil) (fss_cons (fs_set 0 sc_power_rest.nd (fe_op op_modN of_mod (fe_op op_mulA of_mul (fe_nm 0) (fe_nm 0)) (fe_nm 2))) (fss_one (fs_aug 1 sc_power_rest.nd iop_fdivG of_div fe_int))))) (fss_one (fs_ret (fe_nm 3)))))
theorem sc_multiplied : FnScope ["one", "two", "found", "i", "mine", "j", "yours"] ["one", "two"] (defScope (topS 7)) := ⟨rfl, rfl, rfl, by decide +kernel, rfl, by decide +kernel, by decide +kernel⟩
theorem bd_multiplied : Binds K G.d_multiplied ["one", "two"] [] := G.D_multiplied.bindsN fun _ _ _ _ _ _ us hl => match us, hl with | [_, _], _ => rfl
def b_multiplied : SF := (sSeq (asgO 2 (bin pRepN (eLst (aCons (kE (.int 0)) aNil)) (bin pSub (bin pAdd (lenN 0) (lenN 1)) (kE (.int 1))))) (sSeq (sFor (wEnumA (nm 0)) (bTup 2 (bCons (bNm 3) (bCons (bNm 4) bNil))) (sFor (wEnumA (nm 1)) (bTup 2 (bCons (bNm 5) (bCons (bNm 6) bNil))) (augIx 2 pAddI (bin pAdd (nm 3) (nm 5)) (bin pMul (nm 4) (nm 6))))) (sRet (callF pTuple (aCons (nm 2) aNil)))))
def p_multiplied : List PV → Option PV := runP 7 2 b_multiplied
theorem ok_multiplied : FnOk P w K mg base CX0 1 G.a_multiplied G.d_multiplied ["one", "two"] (spP [] K p_multiplied) := fd_pure G.D_multiplied sc_multiplied rfl rfl fun cdv A outer s H E hr => by
  have hu := hr.units
  exact (fss_cons (fs_setO 2 sc_multiplied.nd (fn_rep (FN.fe (fn_lst (fa_cons fe_int fa_nil))) (fe_op op_sub of_sub (fe_op op_addA of_add (fe_lenN 0 rfl G.g_len) (fe_lenN 1 rfl G.g_len)) fe_int))) (fss_cons (fs_for (PassesOwn.never) rfl (fi_enumA rfl G.g_enumerate (fe_nm 0)) (fb_tup rfl (fbs_cons (fb_nm 3 sc_multiplied.nd) (fbs_cons (fb_nm 4 sc_multiplied.nd) fbs_nil))) (fss_one (fs_for (PassesOwn.never) rfl (fi_enumA rfl G.g_enumerate (fe_nm 1)) (fb_tup rfl (fbs_cons (fb_nm 5 sc_multiplied.nd) (fbs_cons (fb_nm 6 sc_multiplied.nd) fbs_nil))) (fss_one (fs_augIx 2 iop_addA of_addI (fe_op op_addA of_add (fe_nm 3) (fe_nm 5)) (fe_op op_mulA of_mul (fe_nm 4) (fe_nm 6))))))) (fss_one (fs_ret (fe_callTy call_tuple_of cf_tuple rfl G.g_tuple (by decide +kernel) (fa_cons (fe_nm 2) fa_nil))))))
theorem sc_divided : FnScope ["one", "two", "left", "found", "first", "k"] ["one", "two"] (defScope (topS 8)) := ⟨rfl, rfl, rfl, by decide +kernel, rfl, by decide +kernel, by decide +kernel⟩
theorem bd_divided : Binds K G.d_divided ["one", "two"] [] := G.D_divided.bindsN fun _ _ _ _ _ _ us hl => match us, hl with | [_, _], _ => rfl
def b_divided : SF := (sSeq (asgO 2 (callF pList (aCons (nm 0) aNil))) (sSeq (asgO 3 (eLst aNil)) (sSeq (whF (tB' (bin pGe (lenN 2) (lenN 1))) (sSeq (asg 4 (ixN' 2 (un pNeg (kE (.int 1))))) (sSeq (sExpr (append 3 (nm 4))) (sSeq (sFor (wRng1 (lenN 1)) (bNm 5) (augIx 2 pSub (bin pAdd (bin pSub (lenN 2) (lenN 1)) (nm 5)) (bin pMul (nm 4) (ixN' 1 (nm 5))))) (sExpr (pop0 2))))) 2000) (sRet (tRv (nm 3))))))
def p_divided : List PV → Option PV := runP 6 2 b_divided
theorem ok_divided : FnOk P w K mg base CX0 1 G.a_divided G.d_divided ["one", "two"] (spP [] K p_divided) := fd_pure G.D_divided sc_divided rfl rfl fun cdv A outer s H E hr => by
  have hu := hr.units
  exact (fss_cons (fs_setO 2 sc_divided.nd (fn_callTy (call_list_of) cn_list rfl G.g_list (by decide +kernel) (fa_cons (fe_nm 0) fa_nil))) (fss_cons (fs_setO 3 sc_divided.nd (fn_lst fa_nil)) (fss_cons (fs_while 2000 (PassesOwn.never) (ft_cmp (op_geA) of_ge (fe_lenN 2 rfl G.g_len) (fe_lenN 1 rfl G.g_len)) (fss_cons (fs_set 4 sc_divided.nd (fe_ixN 2 (fe_neg fe_int))) (fss_cons (fs_expr (fe_append 3 (fe_nm 4))) (fss_cons (fs_for (PassesOwn.never) rfl (fi_rng1 rfl G.g_range (fe_lenN 1 rfl G.g_len)) (fb_nm 5 sc_divided.nd) (fss_one (fs_augIx 2 iop_sub of_sub (fe_op op_addA of_add (fe_op op_sub of_sub (fe_lenN 2 rfl G.g_len) (fe_lenN 1 rfl G.g_len)) (fe_nm 5)) (fe_op op_mulA of_mul (fe_nm 4) (fe_ixN 1 (fe_nm 5)))))) (fss_one (fs_expr (fe_pop0 2))))))) (fss_one (fs_ret (fe_tupRev rfl rfl G.g_tuple rfl G.g_reversed (fe_nm 3)))))))
theorem sc_ring_part : FnScope ["n", "known", "d", "row", "e"] ["n"] (defScope (topS 9)) := ⟨rfl, rfl, rfl, by decide +kernel, rfl, by decide +kernel, by decide +kernel⟩
theorem bd_ring_part : Binds K G.d_ring_part ["n"] [] := G.D_ring_part.bindsN fun _ _ _ _ _ _ us hl => match us, hl with | [_], _ => rfl
def b_ring_part : SF := (sSeq (asgO 1 eDk) (sSeq (sFor (wSeq (callF p_divisors_of (aCons (nm 0) aNil))) (bNm 2) (sSeq (asg 3 (eTup (aCons (un pNeg (kE (.int 1))) (aStar (bin pRepN (eLst (aCons (kE (.int 0)) aNil)) (bin pSub (nm 2) (kE (.int 1)))) (aCons (kE (.int 1)) aNil))))) (sSeq (sFor (wSeq (eSl (callF p_divisors_of (aCons (nm 2) aNil)) oNo (oSo (un pNeg (kE (.int 1)))))) (bNm 4) (asg 3 (callF p_divided (aCons (nm 3) (aCons (dIx 1 (nm 4)) aNil))))) (putIx 1 (nm 2) (nm 3))))) (sRet (dIx 1 (nm 0)))))
def p_ring_part : List PV → Option PV := runP 5 1 b_ring_part
theorem ok_ring_part : FnOk P w K mg base CX0 3 G.a_ring_part G.d_ring_part ["n"] (spP [] K p_ring_part) := fd_pure G.D_ring_part sc_ring_part rfl rfl fun cdv A outer s H E hr => by
  have hu := hr.units
  exact (fss_cons (fs_setO 1 sc_ring_part.nd fn_dk) (fss_cons (fs_for (PassesOwn.never) rfl (fi_seq (fe_call (ok_divisors_of G) (hr.mono (by decide : 2 ≤ 2)) G.m_divisors_of G.D_divisors_of.kp (bd_divisors_of G) pass0 (fa_cons (fe_nm 0) fa_nil))) (fb_nm 2 sc_ring_part.nd) (fss_cons (fs_set 3 sc_ring_part.nd (fe_tup (fa_cons (fe_neg fe_int) (fa_star (FN.fe (fn_rep (FN.fe (fn_lst (fa_cons fe_int fa_nil))) (fe_op op_sub of_sub (fe_nm 2) fe_int))) (fa_cons fe_int fa_nil))))) (fss_cons (fs_for (PassesOwn.never) rfl (fi_seq (fe_sl (fe_call (ok_divisors_of G) (hr.mono (by decide : 2 ≤ 2)) G.m_divisors_of G.D_divisors_of.kp (bd_divisors_of G) pass0 (fa_cons (fe_nm 2) fa_nil)) fo_no (fo_so (fe_neg fe_int)))) (fb_nm 4 sc_ring_part.nd) (fss_one (fs_set 3 sc_ring_part.nd (fe_call (ok_divided G) (hr.mono (by decide : 1 ≤ 2)) G.m_divided G.D_divided.kp (bd_divided G) pass0 (fa_cons (fe_nm 3) (fa_cons (fe_dIx 1 (hu1 hu) (fe_nm 4)) fa_nil)))))) (fss_one (fs_putIx 1 (hu1 hu) (fe_nm 2) (fe_nm 3)))))) (fss_one (fs_ret (fe_dIx 1 (hu1 hu) (fe_nm 0))))))
theorem sc_value_of : FnScope ["row", "x", "found", "one"] ["row", "x"] (defScope (topS 10)) := ⟨rfl, rfl, rfl, by decide +kernel, rfl, by decide +kernel, by decide +kernel⟩
theorem bd_value_of : Binds K G.d_value_of ["row", "x"] [] := G.D_value_of.bindsN fun _ _ _ _ _ _ us hl => match us, hl with | [_, _], _ => rfl
def b_value_of : SF := (sSeq (asg 2 (kE (.int 0))) (sSeq (sFor (wRevA (nm 0)) (bNm 3) (asg 2 (bin pAdd (bin pMul (nm 2) (nm 1)) (nm 3)))) (sRet (nm 2))))
def p_value_of : List PV → Option PV := runP 4 2 b_value_of
theorem ok_value_of : FnOk P w K mg base CX0 1 G.a_value_of G.d_value_of ["row", "x"] (spP [] K p_value_of) := fd_pure G.D_value_of sc_value_of rfl rfl fun cdv A outer s H E hr => by
  have hu := hr.units
  exact (fss_cons (fs_set 2 sc_value_of.nd fe_int) (fss_cons (fs_for (PassesOwn.never) rfl (fi_revA rfl G.g_reversed (fe_nm 0)) (fb_nm 3 sc_value_of.nd) (fss_one (fs_set 2 sc_value_of.nd (fe_op op_addA of_add (fe_op op_mulA of_mul (fe_nm 2) (fe_nm 1)) (fe_nm 3))))) (fss_one (fs_ret (fe_nm 2)))))
theorem sc_ring_value : FnScope ["n", "x"] ["n", "x"] (defScope (topS 11)) := ⟨rfl, rfl, rfl, by decide +kernel, rfl, by decide +kernel, by decide +kernel⟩
theorem bd_ring_value : Binds K G.d_ring_value ["n", "x"] [] := G.D_ring_value.bindsN fun _ _ _ _ _ _ us hl => match us, hl with | [_, _], _ => rfl
def b_ring_value : SF := (sRet (callF p_value_of (aCons (callF p_ring_part (aCons (nm 0) aNil)) (aCons (nm 1) aNil))))
def p_ring_value : List PV → Option PV := runP 2 2 b_ring_value
theorem ok_ring_value : FnOk P w K mg base CX0 4 G.a_ring_value G.d_ring_value ["n", "x"] (spP [] K p_ring_value) := fd_pure G.D_ring_value sc_ring_value rfl rfl fun cdv A outer s H E hr => by
  have hu := hr.units
  exact (fss_one (fs_ret (fe_call (ok_value_of G) (hr.mono (by decide : 1 ≤ 3)) G.m_value_of G.D_value_of.kp (bd_value_of G) pass0 (fa_cons (fe_call (ok_ring_part G) (hr.mono (by decide : 3 ≤ 3)) G.m_ring_part G.D_ring_part.kp (bd_ring_part G) pass0 (fa_cons (fe_nm 0) fa_nil)) (fa_cons (fe_nm 1) fa_nil)))))
theorem sc_carries : FnScope ["a", "b", "p", "found", "place", "carry"] ["a", "b", "p"] (defScope (topS 13)) := ⟨rfl, rfl, rfl, by decide +kernel, rfl, by decide +kernel, by decide +kernel⟩
theorem bd_carries : Binds K G.d_carries ["a", "b", "p"] [] := G.D_carries.bindsN fun _ _ _ _ _ _ us hl => match us, hl with | [_, _, _], _ => rfl
def b_carries : SF := (sSeq (asgO 3 (eLst aNil)) (sSeq (asgB (bTup 2 (bCons (bNm 4) (bCons (bNm 5) bNil))) (eTup (aCons (kE (.int 0)) (aCons (kE (.int 0)) aNil)))) (sSeq (whF (tOr' (tB' (bin pGt (nm 0) (kE (.int 0)))) (tOr' (tB' (bin pGt (nm 1) (kE (.int 0)))) (tB' (bin pGt (nm 5) (kE (.int 0)))))) (sSeq (asg 5 (eIf (tB' (bin pGe (bin pAdd (bin pAdd (bin pMod (nm 0) (nm 2)) (bin pMod (nm 1) (nm 2))) (nm 5)) (nm 2))) (kE (.int 1)) (kE (.int 0)))) (sSeq (sIf (tB' (bin pEq (nm 5) (kE (.int 1)))) (sExpr (append 3 (nm 4))) sSkip) (sSeq (asg2 0 1 (aCons (bin pDiv (nm 0) (nm 2)) (aCons (bin pDiv (nm 1) (nm 2)) aNil))) (aug 4 pAddI (kE (.int 1)))))) 2000) (sRet (nm 3)))))
def p_carries : List PV → Option PV := runP 6 3 b_carries
theorem ok_carries : FnOk P w K mg base CX0 1 G.a_carries G.d_carries ["a", "b", "p"] (spP [] K p_carries) := fd_pure G.D_carries sc_carries rfl rfl fun cdv A outer s H E hr => by
  have hu := hr.units
  exact (fss_cons (fs_setO 3 sc_carries.nd (fn_lst fa_nil)) (fss_cons (fs_asg (fe_tup (fa_cons fe_int (fa_cons fe_int fa_nil))) (fb_tup rfl (fbs_cons (fb_nm 4 sc_carries.nd) (fbs_cons (fb_nm 5 sc_carries.nd) fbs_nil)))) (fss_cons (fs_while 2000 (PassesOwn.never) (FW.ft (fw_or (ft_cmp (op_gtA) of_gt (fe_nm 0) fe_int) (fw_or (ft_cmp (op_gtA) of_gt (fe_nm 1) fe_int) (fw_or1 (ft_cmp (op_gtA) of_gt (fe_nm 5) fe_int))))) (fss_cons (fs_set 5 sc_carries.nd (fe_if (ft_cmp (op_geA) of_ge (fe_op op_addA of_add (fe_op op_addA of_add (fe_op op_modN of_mod (fe_nm 0) (fe_nm 2)) (fe_op op_modN of_mod (fe_nm 1) (fe_nm 2))) (fe_nm 5)) (fe_nm 2)) fe_int fe_int)) (fss_cons (fs_if (ft_cmp (op_eqA hu) of_eq (fe_nm 5) fe_int) (fss_one (fs_expr (fe_append 3 (fe_nm 4)))) fss_nil) (fss_cons (fs_par 0 1 sc_carries.nd (fa_cons (fe_op op_fdivG of_div (fe_nm 0) (fe_nm 2)) (fa_cons (fe_op op_fdivG of_div (fe_nm 1) (fe_nm 2)) fa_nil))) (fss_one (fs_aug 4 sc_carries.nd iop_addA of_addI fe_int)))))) (fss_one (fs_ret (fe_nm 3))))))
theorem sc_often_in_choices : FnScope ["n", "k", "p"] ["n", "k", "p"] (defScope (topS 14)) := ⟨rfl, rfl, rfl, by decide +kernel, rfl, by decide +kernel, by decide +kernel⟩
theorem bd_often_in_choices : Binds K G.d_often_in_choices ["n", "k", "p"] [] := G.D_often_in_choices.bindsN fun _ _ _ _ _ _ us hl => match us, hl with | [_, _, _], _ => rfl
def b_often_in_choices : SF := (sRet (callF pLen (aCons (callF p_carries (aCons (nm 1) (aCons (bin pSub (nm 0) (nm 1)) (aCons (nm 2) aNil)))) aNil)))
def p_often_in_choices : List PV → Option PV := runP 3 3 b_often_in_choices
theorem ok_often_in_choices : FnOk P w K mg base CX0 2 G.a_often_in_choices G.d_often_in_choices ["n", "k", "p"] (spP [] K p_often_in_choices) := fd_pure G.D_often_in_choices sc_often_in_choices rfl rfl fun cdv A outer s H E hr => by
  have hu := hr.units
  exact (fss_one (fs_ret (fe_callB call_len cf_len rfl G.g_len (by decide +kernel) (fa_cons (fe_call (ok_carries G) (hr.mono (by decide : 1 ≤ 1)) G.m_carries G.D_carries.kp (bd_carries G) pass0 (fa_cons (fe_nm 1) (fa_cons (fe_op op_sub of_sub (fe_nm 0) (fe_nm 1)) (fa_cons (fe_nm 2) fa_nil)))) fa_nil))))
theorem sc_choices_of : FnScope ["n", "k", "found", "j"] ["n", "k"] (defScope (topS 15)) := ⟨rfl, rfl, rfl, by decide +kernel, rfl, by decide +kernel, by decide +kernel⟩
theorem bd_choices_of : Binds K G.d_choices_of ["n", "k"] [] := G.D_choices_of.bindsN fun _ _ _ _ _ _ us hl => match us, hl with | [_, _], _ => rfl
def b_choices_of : SF := (sSeq (asg 2 (kE (.int 1))) (sSeq (sFor (wRng1 (nm 1)) (bNm 3) (asg 2 (bin pDiv (bin pMul (nm 2) (bin pSub (nm 0) (nm 3))) (bin pAdd (nm 3) (kE (.int 1)))))) (sRet (nm 2))))
def p_choices_of : List PV → Option PV := runP 4 2 b_choices_of
theorem ok_choices_of : FnOk P w K mg base CX0 1 G.a_choices_of G.d_choices_of ["n", "k"] (spP [] K p_choices_of) := fd_pure G.D_choices_of sc_choices_of rfl rfl fun cdv A outer s H E hr => by
  have hu := hr.units
  exact (fss_cons (fs_set 2 sc_choices_of.nd fe_int) (fss_cons (fs_for (PassesOwn.never) rfl (fi_rng1 rfl G.g_range (fe_nm 1)) (fb_nm 3 sc_choices_of.nd) (fss_one (fs_set 2 sc_choices_of.nd (fe_op op_fdivG of_div (fe_op op_mulA of_mul (fe_nm 2) (fe_op op_sub of_sub (fe_nm 0) (fe_nm 3))) (fe_op op_addA of_add (fe_nm 3) fe_int))))) (fss_one (fs_ret (fe_nm 2)))))
theorem sc_choices_rest : FnScope ["n", "k", "p", "found"] ["n", "k", "p"] (defScope (topS 16)) := ⟨rfl, rfl, rfl, by decide +kernel, rfl, by decide +kernel, by decide +kernel⟩
theorem bd_choices_rest : Binds K G.d_choices_rest ["n", "k", "p"] [] := G.D_choices_rest.bindsN fun _ _ _ _ _ _ us hl => match us, hl with | [_, _, _], _ => rfl
def b_choices_rest : SF := (sSeq (asg 3 (kE (.int 1))) (sSeq (whF (tOr' (tB' (bin pGt (nm 0) (kE (.int 0)))) (tB' (bin pGt (nm 1) (kE (.int 0))))) (sSeq (sIf (tB' (bin pGt (bin pMod (nm 1) (nm 2)) (bin pMod (nm 0) (nm 2)))) (sRet (kE (.int 0))) sSkip) (sSeq (asg 3 (bin pMod (bin pMul (nm 3) (callF p_choices_of (aCons (bin pMod (nm 0) (nm 2)) (aCons (bin pMod (nm 1) (nm 2)) aNil)))) (nm 2))) (asg2 0 1 (aCons (bin pDiv (nm 0) (nm 2)) (aCons (bin pDiv (nm 1) (nm 2)) aNil))))) 2000) (sRet (bin pMod (nm 3) (nm 2)))))
def p_choices_rest : List PV → Option PV := runP 4 3 b_choices_rest
theorem ok_choices_rest : FnOk P w K mg base CX0 2 G.a_choices_rest G.d_choices_rest ["n", "k", "p"] (spP [] K p_choices_rest) := fd_pure G.D_choices_rest sc_choices_rest rfl rfl fun cdv A outer s H E hr => by
  have hu := hr.units
  exact (fss_cons (fs_set 3 sc_choices_rest.nd fe_int) (fss_cons (fs_while 2000 (PassesOwn.never) (FW.ft (fw_or (ft_cmp (op_gtA) of_gt (fe_nm 0) fe_int) (fw_or1 (ft_cmp (op_gtA) of_gt (fe_nm 1) fe_int)))) (fss_cons (fs_if (ft_cmp (op_gtA) of_gt (fe_op op_modN of_mod (fe_nm 1) (fe_nm 2)) (fe_op op_modN of_mod (fe_nm 0) (fe_nm 2))) (fss_one (fs_ret fe_int)) fss_nil) (fss_cons (fs_set 3 sc_choices_rest.nd (fe_op op_modN of_mod (fe_op op_mulA of_mul (fe_nm 3) (fe_call (ok_choices_of G) (hr.mono (by decide : 1 ≤ 1)) G.m_choices_of G.D_choices_of.kp (bd_choices_of G) pass0 (fa_cons (fe_op op_modN of_mod (fe_nm 0) (fe_nm 2)) (fa_cons (fe_op op_modN of_mod (fe_nm 1) (fe_nm 2)) fa_nil)))) (fe_nm 2))) (fss_one (fs_par 0 1 sc_choices_rest.nd (fa_cons (fe_op op_fdivG of_div (fe_nm 0) (fe_nm 2)) (fa_cons (fe_op op_fdivG of_div (fe_nm 1) (fe_nm 2)) fa_nil))))))) (fss_one (fs_ret (fe_op op_modN of_mod (fe_nm 3) (fe_nm 2))))))
theorem sc_is_integer : FnScope ["value"] ["value"] (defScope (topS 18)) := ⟨rfl, rfl, rfl, by decide +kernel, rfl, by decide +kernel, by decide +kernel⟩
theorem bd_is_integer : Binds K G.d_is_integer ["value"] [] := G.D_is_integer.bindsN fun _ _ _ _ _ _ us hl => match us, hl with | [_], _ => rfl
def b_is_integer : SF := (sRet (vAn (eIsi "int" (nm 0)) (vNt (eIsi "bool" (nm 0)))))
def p_is_integer : List PV → Option PV := runP 1 1 b_is_integer
theorem ok_is_integer : FnOk P w K mg base CX0 1 G.a_is_integer G.d_is_integer ["value"] (spP [] K p_is_integer) := fd_pure G.D_is_integer sc_is_integer rfl rfl fun cdv A outer s H E hr => by
  have hu := hr.units
  exact (fss_one (fs_ret (fe_and (fe_isi "int" rfl G.g_isinstance rfl G.g_int (by decide +kernel) (fe_nm 0)) (fe_one (fe_not (fe_isi "bool" rfl G.g_isinstance rfl G.g_bool (by decide +kernel) (fe_nm 0)))))))
theorem sc_is_within : FnScope ["value", "low", "high"] ["value", "low", "high"] (defScope (topS 19)) := ⟨rfl, rfl, rfl, by decide +kernel, rfl, by decide +kernel, by decide +kernel⟩
theorem bd_is_within : Binds K G.d_is_within ["value", "low", "high"] [] := G.D_is_within.bindsN fun _ _ _ _ _ _ us hl => match us, hl with | [_, _, _], _ => rfl
def b_is_within : SF := (sRet (vAn (callF p_is_integer (aCons (nm 0) aNil)) (chn pLe pLe (nm 1) (nm 0) (nm 2))))
def p_is_within : List PV → Option PV := runP 3 3 b_is_within
theorem ok_is_within : FnOk P w K mg base CX0 2 G.a_is_within G.d_is_within ["value", "low", "high"] (spP [] K p_is_within) := fd_pure G.D_is_within sc_is_within rfl rfl fun cdv A outer s H E hr => by
  have hu := hr.units
  exact (fss_one (fs_ret (fe_and (fe_call (ok_is_integer G) (hr.mono (by decide : 1 ≤ 1)) G.m_is_integer G.D_is_integer.kp (bd_is_integer G) pass0 (fa_cons (fe_nm 0) fa_nil)) (fe_one (fe_chain (op_leA) of_le (op_leA) of_le (fe_nm 1) (fe_nm 0) (fe_nm 2))))))
theorem sc_is_worded : FnScope ["value", "word", "length"] ["value", "word", "length"] (defScope (topS 20)) := ⟨rfl, rfl, rfl, by decide +kernel, rfl, by decide +kernel, by decide +kernel⟩
theorem bd_is_worded : Binds K G.d_is_worded ["value", "word", "length"] [] := G.D_is_worded.bindsN fun _ _ _ _ _ _ us hl => match us, hl with | [_, _, _], _ => rfl
def b_is_worded : SF := (sSeq (sIf (tOr' (tNt (tTr (eIsi "tuple" (nm 0)))) (tB' (bin pNe (lenN 0) (nm 2)))) (sRet (kE (.bool false))) sSkip) (sRet (vAn (eIsi "str" (ixN' 0 (kE (.int 0)))) (bin pEq (ixN' 0 (kE (.int 0))) (nm 1)))))
def p_is_worded : List PV → Option PV := runP 3 3 b_is_worded
theorem ok_is_worded : FnOk P w K mg base CX0 1 G.a_is_worded G.d_is_worded ["value", "word", "length"] (spP [] K p_is_worded) := fd_pure G.D_is_worded sc_is_worded rfl rfl fun cdv A outer s H E hr => by
  have hu := hr.units
  exact (fss_cons (fs_if (FW.ft (fw_or (ft_not (ft_tru (fe_isi "tuple" rfl G.g_isinstance rfl G.g_tuple (by decide +kernel) (fe_nm 0)))) (fw_or1 (ft_cmp (op_neA hu) of_ne (fe_lenN 0 rfl G.g_len) (fe_nm 2))))) (fss_one (fs_ret fe_bl)) fss_nil) (fss_one (fs_ret (fe_and (fe_isi "str" rfl G.g_isinstance rfl G.g_str (by decide +kernel) (fe_ixN 0 fe_int)) (fe_one (fe_cmp (op_eqA hu) of_eq (fe_ixN 0 fe_int) (fe_nm 1)))))))
theorem sc_order : FnScope ["a", "m", "found", "p", "e"] ["a", "m"] (defScope (topS 22)) := ⟨rfl, rfl, rfl, by decide +kernel, rfl, by decide +kernel, by decide +kernel⟩
theorem bd_order : Binds K G.d_order ["a", "m"] [] := G.D_order.bindsN fun _ _ _ _ _ _ us hl => match us, hl with | [_, _], _ => rfl
def b_order : SF := (sSeq (asg 2 (callF p_coprimes (aCons (nm 1) aNil))) (sSeq (sFor (wSeq (callF p_parts_of (aCons (nm 2) aNil))) (bTup 2 (bCons (bNm 3) (bCons (bNm 4) bNil))) (whF (tAn (tB' (bin pEq (bin pMod (nm 2) (nm 3)) (kE (.int 0)))) (tB' (bin pEq (callF p_power_rest (aCons (nm 0) (aCons (bin pDiv (nm 2) (nm 3)) (aCons (nm 1) aNil)))) (bin pMod (kE (.int 1)) (nm 1))))) (aug 2 pDiv (nm 3)) 2000)) (sRet (nm 2))))
def p_order : List PV → Option PV := runP 5 2 b_order
theorem ok_order : FnOk P w K mg base CX0 3 G.a_order G.d_order ["a", "m"] (spP [] K p_order) := fd_pure G.D_order sc_order rfl rfl fun cdv A outer s H E hr => by
  have hu := hr.units
  exact (fss_cons (fs_set 2 sc_order.nd (fe_call (ok_coprimes G) (hr.mono (by decide : 2 ≤ 2)) G.m_coprimes G.D_coprimes.kp (bd_coprimes G) pass0 (fa_cons (fe_nm 1) fa_nil))) (fss_cons (fs_for (PassesOwn.never) rfl (fi_seq (fe_call (ok_parts_of G) (hr.mono (by decide : 1 ≤ 2)) G.m_parts_of G.D_parts_of.kp (bd_parts_of G) pass0 (fa_cons (fe_nm 2) fa_nil))) (fb_tup rfl (fbs_cons (fb_nm 3 sc_order.nd) (fbs_cons (fb_nm 4 sc_order.nd) fbs_nil))) (fss_one (fs_while 2000 (PassesOwn.never) (FW.ft (fw_and (ft_cmp (op_eqA hu) of_eq (fe_op op_modN of_mod (fe_nm 2) (fe_nm 3)) fe_int) (fw_and1 (ft_cmp (op_eqA hu) of_eq (fe_call (ok_power_rest G) (hr.mono (by decide : 1 ≤ 2)) G.m_power_rest G.D_power_rest.kp (bd_power_rest G) pass0 (fa_cons (fe_nm 0) (fa_cons (fe_op op_fdivG of_div (fe_nm 2) (fe_nm 3)) (fa_cons (fe_nm 1) fa_nil)))) (fe_op op_modN of_mod fe_int (fe_nm 1)))))) (fss_one (fs_aug 2 sc_order.nd iop_fdivG of_div (fe_nm 3)))))) (fss_one (fs_ret (fe_nm 2)))))
theorem sc_check_root : FnScope ["m", "value"] ["m", "value"] (defScope (topS 23)) := ⟨rfl, rfl, rfl, by decide +kernel, rfl, by decide +kernel, by decide +kernel⟩
theorem bd_check_root : Binds K G.d_check_root ["m", "value"] [] := G.D_check_root.bindsN fun _ _ _ _ _ _ us hl => match us, hl with | [_, _], _ => rfl
def b_check_root : SF := (sSeq (sIf (tTr (callF p_is_worded (aCons (nm 1) (aCons (kE (.str "root")) (aCons (kE (.int 2)) aNil))))) (sSeq (sIf (tOr' (tNt (tTr (callF p_is_within (aCons (ixN' 1 (kE (.int 1))) (aCons (kE (.int 1)) (aCons (bin pSub (nm 0) (kE (.int 1))) aNil)))))) (tB' (bin pNe (callF pGcd (aCons (ixN' 1 (kE (.int 1))) (aCons (nm 0) aNil))) (kE (.int 1))))) (sRet (kE (.bool false))) sSkip) (sRet (bin pEq (callF p_order (aCons (ixN' 1 (kE (.int 1))) (aCons (nm 0) aNil))) (callF p_coprimes (aCons (nm 0) aNil))))) sSkip) (sRet (vAn (callF p_is_worded (aCons (nm 1) (aCons (kE (.str "none")) (aCons (kE (.int 2)) aNil)))) (vAn (callF p_is_within (aCons (ixN' 1 (kE (.int 1))) (aCons (kE (.int 2)) (aCons (bin pSub (nm 0) (kE (.int 2))) aNil)))) (bin pEq (bin pMod (bin pMul (ixN' 1 (kE (.int 1))) (ixN' 1 (kE (.int 1)))) (nm 0)) (kE (.int 1)))))))
def p_check_root : List PV → Option PV := runP 2 2 b_check_root
theorem ok_check_root : FnOk P w K mg base CX0 4 G.a_check_root G.d_check_root ["m", "value"] (spP [] K p_check_root) := fd_pure G.D_check_root sc_check_root rfl rfl fun cdv A outer s H E hr => by
  have hu := hr.units
  exact (fss_cons (fs_if (ft_tru (fe_call (ok_is_worded G) (hr.mono (by decide : 1 ≤ 3)) G.m_is_worded G.D_is_worded.kp (bd_is_worded G) pass0 (fa_cons (fe_nm 1) (fa_cons fe_str (fa_cons fe_int fa_nil))))) (fss_cons (fs_if (FW.ft (fw_or (ft_not (ft_tru (fe_call (ok_is_within G) (hr.mono (by decide : 2 ≤ 3)) G.m_is_within G.D_is_within.kp (bd_is_within G) pass0 (fa_cons (fe_ixN 1 fe_int) (fa_cons fe_int (fa_cons (fe_op op_sub of_sub (fe_nm 0) fe_int) fa_nil)))))) (fw_or1 (ft_cmp (op_neA hu) of_ne (fe_callBfun cr_gcd cf_gcd rfl G.g_gcd (fa_cons (fe_ixN 1 fe_int) (fa_cons (fe_nm 0) fa_nil))) fe_int)))) (fss_one (fs_ret fe_bl)) fss_nil) (fss_one (fs_ret (fe_cmp (op_eqA hu) of_eq (fe_call (ok_order G) (hr.mono (by decide : 3 ≤ 3)) G.m_order G.D_order.kp (bd_order G) pass0 (fa_cons (fe_ixN 1 fe_int) (fa_cons (fe_nm 0) fa_nil))) (fe_call (ok_coprimes G) (hr.mono (by decide : 2 ≤ 3)) G.m_coprimes G.D_coprimes.kp (bd_coprimes G) pass0 (fa_cons (fe_nm 0) fa_nil)))))) fss_nil) (fss_one (fs_ret (fe_and (fe_call (ok_is_worded G) (hr.mono (by decide : 1 ≤ 3)) G.m_is_worded G.D_is_worded.kp (bd_is_worded G) pass0 (fa_cons (fe_nm 1) (fa_cons fe_str (fa_cons fe_int fa_nil)))) (fe_and (fe_call (ok_is_within G) (hr.mono (by decide : 2 ≤ 3)) G.m_is_within G.D_is_within.kp (bd_is_within G) pass0 (fa_cons (fe_ixN 1 fe_int) (fa_cons fe_int (fa_cons (fe_op op_sub of_sub (fe_nm 0) fe_int) fa_nil)))) (fe_one (fe_cmp (op_eqA hu) of_eq (fe_op op_modN of_mod (fe_op op_mulA of_mul (fe_ixN 1 fe_int) (fe_ixN 1 fe_int)) (fe_nm 0)) fe_int)))))))
theorem sc__law_pool : FnScope ["script", "salt", "cell"] ["script"] (defScope (topS 25)) := ⟨rfl, rfl, rfl, by decide +kernel, rfl, by decide +kernel, by decide +kernel⟩
theorem bd__law_pool : Binds K G.d__law_pool ["script"] [] := G.D__law_pool.bindsN fun _ _ _ _ _ _ us hl => match us, hl with | [_], _ => rfl
def b__law_pool : SF := (sSeq (asg 1 (kE (.int 7))) (sSeq (sFor (wSeq (eSl (nm 0) oNo (oSo (kE (.int 63))))) (bNm 2) (asg 1 (bin pMod (callF pInt1 (aCons (bin pAdd (bin pMul (nm 1) (kE (.int 31))) (nm 2)) aNil)) (kE (.int 1000003))))) (sRetO (eLst (aCons (callF pList (aCons (nm 0) aNil)) (aCons (kE (.int 0)) (aCons (kE (.int 0)) (aCons (kE (.int 0)) (aCons (nm 1) aNil)))))))))
def p__law_pool : List PV → Option PV := runN 3 1 b__law_pool
theorem ok__law_pool : FnOk P w K mg base CX0 1 G.a__law_pool G.d__law_pool ["script"] (spN [] K p__law_pool) := fd_new G.D__law_pool sc__law_pool rfl rfl fun cdv A outer s H E hr => by
  have hu := hr.units
  exact (fss_cons (fs_set 1 sc__law_pool.nd fe_int) (fss_cons (fs_for (PassesOwn.never) rfl (fi_seq (fe_sl (fe_nm 0) fo_no (fo_so fe_int))) (fb_nm 2 sc__law_pool.nd) (fss_one (fs_set 1 sc__law_pool.nd (fe_op op_modN of_mod (fe_callTy call_int1 cf_int1 rfl G.g_int (by decide +kernel) (fa_cons (fe_op op_addA of_add (fe_op op_mulA of_mul (fe_nm 1) fe_int) (fe_nm 2)) fa_nil)) fe_int)))) (fss_one (fs_retO (fn_lst (fa_cons (FN.fe (fn_callTy (call_list_of) cn_list rfl G.g_list (by decide +kernel) (fa_cons (fe_nm 0) fa_nil))) (fa_cons fe_int (fa_cons fe_int (fa_cons fe_int (fa_cons (fe_nm 1) fa_nil))))))))))
theorem sc__law_spread : FnScope ["cell", "blended", "whole_sum", "k"] ["cell"] (defScope (topS 26)) := ⟨rfl, rfl, rfl, by decide +kernel, rfl, by decide +kernel, by decide +kernel⟩
theorem bd__law_spread : Binds K G.d__law_spread ["cell"] [] := G.D__law_spread.bindsN fun _ _ _ _ _ _ us hl => match us, hl with | [_], _ => rfl
def b__law_spread : SF := (sSeq (asg 1 (bin pMod (callF pInt1 (aCons (nm 0) aNil)) (kE (.int 2147483647)))) (sSeq (asg 2 (kE (.int 1))) (sSeq (sFor (wRng1 (kE (.int 4))) (bNm 3) (sSeq (asg 1 (bin pMod (callF pInt1 (aCons (bin pAdd (bin pAdd (bin pMul (nm 1) (kE (.int 48271))) (kE (.int 12345))) (nm 3)) aNil)) (kE (.int 2147483647)))) (asg 2 (bin pAdd (bin pMul (nm 2) (kE (.int 2147483647))) (nm 1))))) (sRet (nm 2)))))
def p__law_spread : List PV → Option PV := runP 4 1 b__law_spread
theorem ok__law_spread : FnOk P w K mg base CX0 1 G.a__law_spread G.d__law_spread ["cell"] (spP [] K p__law_spread) := fd_pure G.D__law_spread sc__law_spread rfl rfl fun cdv A outer s H E hr => by
  have hu := hr.units
  exact (fss_cons (fs_set 1 sc__law_spread.nd (fe_op op_modN of_mod (fe_callTy call_int1 cf_int1 rfl G.g_int (by decide +kernel) (fa_cons (fe_nm 0) fa_nil)) fe_int)) (fss_cons (fs_set 2 sc__law_spread.nd fe_int) (fss_cons (fs_for (PassesOwn.never) rfl (fi_rng1 rfl G.g_range fe_int) (fb_nm 3 sc__law_spread.nd) (fss_cons (fs_set 1 sc__law_spread.nd (fe_op op_modN of_mod (fe_callTy call_int1 cf_int1 rfl G.g_int (by decide +kernel) (fa_cons (fe_op op_addA of_add (fe_op op_addA of_add (fe_op op_mulA of_mul (fe_nm 1) fe_int) fe_int) (fe_nm 3)) fa_nil)) fe_int)) (fss_one (fs_set 2 sc__law_spread.nd (fe_op op_addA of_add (fe_op op_mulA of_mul (fe_nm 2) fe_int) (fe_nm 1)))))) (fss_one (fs_ret (fe_nm 2))))))
theorem sc__law_draw : FnScope ["pool", "many", "value", "cell", "blended"] ["pool", "many"] (defScope (topS 27)) := ⟨rfl, rfl, rfl, by decide +kernel, rfl, by decide +kernel, by decide +kernel⟩
theorem bd__law_draw : Binds K G.d__law_draw ["pool", "many"] [] := G.D__law_draw.bindsN fun _ _ _ _ _ _ us hl => match us, hl with | [_, _], _ => rfl
def b__law_draw : SF := (sSeq (sIf (tAn (tB' (bin pLe (ixN' 0 (kE (.int 2))) (kE (.int 0)))) (tB' (bin pLt (ixN' 0 (kE (.int 1))) (callF pLen (aCons (ixN' 0 (kE (.int 0))) aNil))))) (sSeq (asg 3 (bin pIx (ixN' 0 (kE (.int 0))) (ixN' 0 (kE (.int 1))))) (sSeq (setIx 0 (kE (.int 1)) (bin pAdd (ixN' 0 (kE (.int 1))) (kE (.int 1)))) (sSeq (setIx 0 (kE (.int 2)) (nm 3)) (sIf (tB' (bin pLt (nm 3) (kE (.int 1000000000000000000)))) (setIx 0 (kE (.int 2)) (callF p__law_spread (aCons (nm 3) aNil))) sSkip)))) sSkip) (sSeq (setIx 0 (kE (.int 3)) (bin pAdd (ixN' 0 (kE (.int 3))) (kE (.int 1)))) (sSeq (sIf (tB' (bin pLe (ixN' 0 (kE (.int 2))) (kE (.int 0)))) (sSeq (asg 4 (bin pMod (callF pInt1 (aCons (bin pAdd (bin pAdd (bin pMul (ixN' 0 (kE (.int 4))) (kE (.int 48271))) (bin pMul (ixN' 0 (kE (.int 3))) (kE (.int 69621)))) (kE (.int 1))) aNil)) (kE (.int 2147483647)))) (sSeq (asg 4 (bin pMod (callF pInt1 (aCons (bin pAdd (bin pMul (nm 4) (kE (.int 16807))) (ixN' 0 (kE (.int 3)))) aNil)) (kE (.int 2147483629)))) (sRet (bin pMod (bin pDiv (nm 4) (kE (.int 5))) (nm 1))))) sSkip) (sSeq (asg 2 (bin pMod (callF pInt1 (aCons (ixN' 0 (kE (.int 2))) aNil)) (nm 1))) (sSeq (setIx 0 (kE (.int 2)) (bin pDiv (ixN' 0 (kE (.int 2))) (nm 1))) (sRet (nm 2)))))))
def p__law_draw : PV → List PV → Option (PV × PV) := runIO 5 2 b__law_draw
theorem ok__law_draw : FnOk P w K mg base CX0 2 G.a__law_draw G.d__law_draw ["pool", "many"] (spIO [] K p__law_draw) := fd_io G.D__law_draw sc__law_draw rfl rfl fun cdv A outer s H E hr => by
  have hu := hr.units
  exact (fss_cons (fs_if (FW.ft (fw_and (ft_cmp (op_leA) of_le (fe_ixN 0 fe_int) fe_int) (fw_and1 (ft_cmp (op_ltA) of_lt (fe_ixN 0 fe_int) (fe_callB call_len cf_len rfl G.g_len (by decide +kernel) (fa_cons (fe_ixN 0 fe_int) fa_nil)))))) (fss_cons (fs_set 3 sc__law_draw.nd (fe_ix (fe_ixN 0 fe_int) (fe_ixN 0 fe_int))) (fss_cons (fs_setIx 0 fe_int (fe_op op_addA of_add (fe_ixN 0 fe_int) fe_int)) (fss_cons (fs_setIx 0 fe_int (fe_nm 3)) (fss_one (fs_if (ft_cmp (op_ltA) of_lt (fe_nm 3) fe_int) (fss_one (fs_setIx 0 fe_int (fe_call (ok__law_spread G) (hr.mono (by decide : 1 ≤ 1)) G.m__law_spread G.D__law_spread.kp (bd__law_spread G) pass0 (fa_cons (fe_nm 3) fa_nil)))) fss_nil))))) fss_nil) (fss_cons (fs_setIx 0 fe_int (fe_op op_addA of_add (fe_ixN 0 fe_int) fe_int)) (fss_cons (fs_if (ft_cmp (op_leA) of_le (fe_ixN 0 fe_int) fe_int) (fss_cons (fs_set 4 sc__law_draw.nd (fe_op op_modN of_mod (fe_callTy call_int1 cf_int1 rfl G.g_int (by decide +kernel) (fa_cons (fe_op op_addA of_add (fe_op op_addA of_add (fe_op op_mulA of_mul (fe_ixN 0 fe_int) fe_int) (fe_op op_mulA of_mul (fe_ixN 0 fe_int) fe_int)) fe_int) fa_nil)) fe_int)) (fss_cons (fs_set 4 sc__law_draw.nd (fe_op op_modN of_mod (fe_callTy call_int1 cf_int1 rfl G.g_int (by decide +kernel) (fa_cons (fe_op op_addA of_add (fe_op op_mulA of_mul (fe_nm 4) fe_int) (fe_ixN 0 fe_int)) fa_nil)) fe_int)) (fss_one (fs_ret (fe_op op_modN of_mod (fe_op op_fdivG of_div (fe_nm 4) fe_int) (fe_nm 1)))))) fss_nil) (fss_cons (fs_set 2 sc__law_draw.nd (fe_op op_modN of_mod (fe_callTy call_int1 cf_int1 rfl G.g_int (by decide +kernel) (fa_cons (fe_ixN 0 fe_int) fa_nil)) (fe_nm 1))) (fss_cons (fs_setIx 0 fe_int (fe_op op_fdivG of_div (fe_ixN 0 fe_int) (fe_nm 1))) (fss_one (fs_ret (fe_nm 2))))))))
theorem sc__law_power : FnScope ["base", "many", "value", "k"] ["base", "many"] (defScope (topS 28)) := ⟨rfl, rfl, rfl, by decide +kernel, rfl, by decide +kernel, by decide +kernel⟩
theorem bd__law_power : Binds K G.d__law_power ["base", "many"] [] := G.D__law_power.bindsN fun _ _ _ _ _ _ us hl => match us, hl with | [_, _], _ => rfl
def b__law_power : SF := (sSeq (asg 2 (kE (.int 1))) (sSeq (sFor (wRng1 (nm 1)) (bNm 3) (asg 2 (bin pMul (nm 2) (nm 0)))) (sRet (nm 2))))
def p__law_power : List PV → Option PV := runP 4 2 b__law_power
theorem ok__law_power : FnOk P w K mg base CX0 1 G.a__law_power G.d__law_power ["base", "many"] (spP [] K p__law_power) := fd_pure G.D__law_power sc__law_power rfl rfl fun cdv A outer s H E hr => by
  have hu := hr.units
  exact (fss_cons (fs_set 2 sc__law_power.nd fe_int) (fss_cons (fs_for (PassesOwn.never) rfl (fi_rng1 rfl G.g_range (fe_nm 1)) (fb_nm 3 sc__law_power.nd) (fss_one (fs_set 2 sc__law_power.nd (fe_op op_mulA of_mul (fe_nm 2) (fe_nm 0))))) (fss_one (fs_ret (fe_nm 2)))))
theorem sc__law_often : FnScope ["n", "p", "many", "k"] ["n", "p"] (defScope (topS 29)) := ⟨rfl, rfl, rfl, by decide +kernel, rfl, by decide +kernel, by decide +kernel⟩
theorem bd__law_often : Binds K G.d__law_often ["n", "p"] [] := G.D__law_often.bindsN fun _ _ _ _ _ _ us hl => match us, hl with | [_, _], _ => rfl
def b__law_often : SF := (sSeq (asg 2 (kE (.int 0))) (sSeq (sFor (wRng1 (kE (.int 400))) (bNm 3) (sIf (tB' (bin pEq (bin pMod (nm 0) (nm 1)) (kE (.int 0)))) (sSeq (asg 0 (bin pDiv (nm 0) (nm 1))) (asg 2 (bin pAdd (nm 2) (kE (.int 1))))) sSkip)) (sRet (nm 2))))
def p__law_often : List PV → Option PV := runP 4 2 b__law_often
theorem ok__law_often : FnOk P w K mg base CX0 1 G.a__law_often G.d__law_often ["n", "p"] (spP [] K p__law_often) := fd_pure G.D__law_often sc__law_often rfl rfl fun cdv A outer s H E hr => by
  have hu := hr.units
  exact (fss_cons (fs_set 2 sc__law_often.nd fe_int) (fss_cons (fs_for (PassesOwn.never) rfl (fi_rng1 rfl G.g_range fe_int) (fb_nm 3 sc__law_often.nd) (fss_one (fs_if (ft_cmp (op_eqA hu) of_eq (fe_op op_modN of_mod (fe_nm 0) (fe_nm 1)) fe_int) (fss_cons (fs_set 0 sc__law_often.nd (fe_op op_fdivG of_div (fe_nm 0) (fe_nm 1))) (fss_one (fs_set 2 sc__law_often.nd (fe_op op_addA of_add (fe_nm 2) fe_int)))) fss_nil))) (fss_one (fs_ret (fe_nm 2)))))
theorem sc_law : FnScope ["script", "pool", "p", "part", "roots", "n", "row", "k", "x", "product", "d", "q", "e"] ["script"] (defScope (topS 30)) := ⟨rfl, rfl, rfl, by decide +kernel, rfl, by decide +kernel, by decide +kernel⟩
theorem bd_law : Binds K G.d_law ["script"] [] := G.D_law.bindsN fun _ _ _ _ _ _ us hl => match us, hl with | [_], _ => rfl
def b_law : SF := (sSeq (asgO 1 (callF p__law_pool (aCons (nm 0) aNil))) (sSeq (asg 2 (bin pIx (eTup (aCons (kE (.int 3)) (aCons (kE (.int 5)) (aCons (kE (.int 7)) (aCons (kE (.int 11)) (aCons (kE (.int 13)) (aCons (kE (.int 17)) (aCons (kE (.int 23)) (aCons (kE (.int 31)) (aCons (kE (.int 41)) aNil)))))))))) (callIO 1 p__law_draw (aCons (kE (.int 9)) aNil)))) (sSeq (asg 3 (callF p_ring_part (aCons (bin pSub (nm 2) (kE (.int 1))) aNil))) (sSeq (asgO 4 (eLc [8] (wRng2 (kE (.int 1)) (nm 2)) (bNm 8) (tB' (bin pEq (bin pMod (callF p_value_of (aCons (nm 3) (aCons (nm 8) aNil))) (nm 2)) (kE (.int 0)))) (nm 8))) (sSeq (sIf (tOr' (tB' (bin pNe (lenN 4) (callF p_coprimes (aCons (bin pSub (nm 2) (kE (.int 1))) aNil)))) (tB' (bin pNe (nm 4) (eLc [8] (wRng2 (kE (.int 1)) (nm 2)) (bNm 8) (tTr (callF p_check_root (aCons (nm 2) (aCons (eTup (aCons (kE (.str "root")) (aCons (nm 8) aNil))) aNil)))) (nm 8))))) (sRet (kE (.bool false))) sSkip) (sSeq (asg 5 (callIO 1 p__law_draw (aCons (kE (.int 40)) aNil))) (sSeq (asg 6 (eTup (aCons (kE (.int 1)) aNil))) (sSeq (sFor (wRng1 (nm 5)) (bNm 7) (asg 6 (callF p_multiplied (aCons (nm 6) (aCons (eTup (aCons (kE (.int 1)) (aCons (kE (.int 1)) aNil))) aNil))))) (sSeq (sFor (wRng1 (bin pAdd (nm 5) (kE (.int 1)))) (bNm 7) (sIf (tOr' (tB' (bin pNe (bin pMod (ixN' 6 (nm 7)) (nm 2)) (callF p_choices_rest (aCons (nm 5) (aCons (nm 7) (aCons (nm 2) aNil)))))) (tB' (bin pNe (callF p__law_often (aCons (ixN' 6 (nm 7)) (aCons (nm 2) aNil))) (callF p_often_in_choices (aCons (nm 5) (aCons (nm 7) (aCons (nm 2) aNil))))))) (sRet (kE (.bool false))) sSkip)) (sSeq (asg2 5 8 (aCons (bin pAdd (kE (.int 1)) (callIO 1 p__law_draw (aCons (kE (.int 14)) aNil))) (aCons (bin pAdd (kE (.int 2)) (callIO 1 p__law_draw (aCons (kE (.int 3)) aNil))) aNil))) (sSeq (asg 9 (kE (.int 1))) (sSeq (sFor (wSeq (callF p_divisors_of (aCons (nm 5) aNil))) (bNm 10) (asg 9 (bin pMul (nm 9) (callF p_ring_value (aCons (nm 10) (aCons (nm 8) aNil)))))) (sSeq (sIf (tB' (bin pNe (nm 9) (bin pSub (callF p__law_power (aCons (nm 8) (aCons (nm 5) aNil))) (kE (.int 1))))) (sRet (kE (.bool false))) sSkip) (sSeq (sIf (tAn (tB' (bin pGt (nm 9) (kE (.int 1)))) (tB' (bin pLt (nm 9) (bin pPow (kE (.int 10)) (kE (.int 6)))))) (sFor (wSeq (callF p_parts_of (aCons (nm 9) aNil))) (bTup 2 (bCons (bNm 11) (bCons (bNm 12) bNil))) (sIf (tB' (bin pNe (bin pMod (nm 5) (callF p_order (aCons (nm 8) (aCons (nm 11) aNil)))) (kE (.int 0)))) (sRet (kE (.bool false))) sSkip)) sSkip) (sRet (kE (.bool true)))))))))))))))))
def p_law : List PV → Option PV := runP 13 1 b_law
theorem ok_law : FnOk P w K mg base CX0 5 G.a_law G.d_law ["script"] (spP [] K p_law) := fd_pure G.D_law sc_law rfl rfl fun cdv A outer s H E hr => by
  have hu := hr.units
  exact (fss_cons (fs_setO 1 sc_law.nd (fn_call (ok__law_pool G) (hr.mono (by decide : 1 ≤ 4)) G.m__law_pool G.D__law_pool.kp (bd__law_pool G) pass0 (fa_cons (fe_nm 0) fa_nil))) (fss_cons (fs_set 2 sc_law.nd (fe_ix (fe_tup (fa_cons fe_int (fa_cons fe_int (fa_cons fe_int (fa_cons fe_int (fa_cons fe_int (fa_cons fe_int (fa_cons fe_int (fa_cons fe_int (fa_cons fe_int fa_nil)))))))))) (fe_callIO 1 (ok__law_draw G) (hr.mono (by decide : 2 ≤ 4)) G.m__law_draw G.D__law_draw.kp (bd__law_draw G) pass0 (fa_cons fe_int fa_nil)))) (fss_cons (fs_set 3 sc_law.nd (fe_call (ok_ring_part G) (hr.mono (by decide : 3 ≤ 4)) G.m_ring_part G.D_ring_part.kp (bd_ring_part G) pass0 (fa_cons (fe_op op_sub of_sub (fe_nm 2) fe_int) fa_nil))) (fss_cons (fs_setLcO 4 (own := [("x", 8)]) rfl sc_law.nd rfl rfl (sw_true rfl rfl rfl (by decide +kernel)) (fi_rng2 rfl G.g_range fe_int (fe_nm 2)) (blkOk_by (own := [("x", 8)]) (N := ["script", "pool", "p", "part", "roots", "n", "row", "k", "x", "product", "d", "q", "e"]) (sc := defScope (topS 30)) (by decide +kernel)) (fun _ _ _ _ _ => (fb_nm 8 sc_law.nd)) (fun _ _ _ _ _ => (fts_one (ft_cmp (op_eqA hu) of_eq (fe_op op_modN of_mod (fe_call (ok_value_of G) (hr.mono (by decide : 1 ≤ 4)) G.m_value_of G.D_value_of.kp (bd_value_of G) pass0 (fa_cons (fe_nm 3) (fa_cons (fe_nm 8) fa_nil))) (fe_nm 2)) fe_int))) (fun _ _ _ _ _ => (fe_nm 8))) (fss_cons (fs_if (FW.ft (fw_or (ft_cmp (op_neA hu) of_ne (fe_lenN 4 rfl G.g_len) (fe_call (ok_coprimes G) (hr.mono (by decide : 2 ≤ 4)) G.m_coprimes G.D_coprimes.kp (bd_coprimes G) pass0 (fa_cons (fe_op op_sub of_sub (fe_nm 2) fe_int) fa_nil))) (fw_or1 (ft_cmp (op_neA hu) of_ne (fe_nm 4) (FN.fe (fn_lc (own := [("x", 8)]) rfl sc_law.nd (fi_rng2 rfl G.g_range fe_int (fe_nm 2)) (blkOk_by (own := [("x", 8)]) (N := ["script", "pool", "p", "part", "roots", "n", "row", "k", "x", "product", "d", "q", "e"]) (sc := defScope (topS 30)) (by decide +kernel)) (fun _ _ _ _ _ => (fb_nm 8 sc_law.nd)) (fun _ _ _ _ _ => (fts_one (ft_tru (fe_call (ok_check_root G) (hr.mono (by decide : 4 ≤ 4)) G.m_check_root G.D_check_root.kp (bd_check_root G) pass0 (fa_cons (fe_nm 2) (fa_cons (fe_tup (fa_cons fe_str (fa_cons (fe_nm 8) fa_nil))) fa_nil)))))) (fun _ _ _ _ _ => (fe_nm 8)))))))) (fss_one (fs_ret fe_bl)) fss_nil) (fss_cons (fs_set 5 sc_law.nd (fe_callIO 1 (ok__law_draw G) (hr.mono (by decide : 2 ≤ 4)) G.m__law_draw G.D__law_draw.kp (bd__law_draw G) pass0 (fa_cons fe_int fa_nil))) (fss_cons (fs_set 6 sc_law.nd (fe_tup (fa_cons fe_int fa_nil))) (fss_cons (fs_for (PassesOwn.never) rfl (fi_rng1 rfl G.g_range (fe_nm 5)) (fb_nm 7 sc_law.nd) (fss_one (fs_set 6 sc_law.nd (fe_call (ok_multiplied G) (hr.mono (by decide : 1 ≤ 4)) G.m_multiplied G.D_multiplied.kp (bd_multiplied G) pass0 (fa_cons (fe_nm 6) (fa_cons (fe_tup (fa_cons fe_int (fa_cons fe_int fa_nil))) fa_nil)))))) (fss_cons (fs_for (PassesOwn.never) rfl (fi_rng1 rfl G.g_range (fe_op op_addA of_add (fe_nm 5) fe_int)) (fb_nm 7 sc_law.nd) (fss_one (fs_if (FW.ft (fw_or (ft_cmp (op_neA hu) of_ne (fe_op op_modN of_mod (fe_ixN 6 (fe_nm 7)) (fe_nm 2)) (fe_call (ok_choices_rest G) (hr.mono (by decide : 2 ≤ 4)) G.m_choices_rest G.D_choices_rest.kp (bd_choices_rest G) pass0 (fa_cons (fe_nm 5) (fa_cons (fe_nm 7) (fa_cons (fe_nm 2) fa_nil))))) (fw_or1 (ft_cmp (op_neA hu) of_ne (fe_call (ok__law_often G) (hr.mono (by decide : 1 ≤ 4)) G.m__law_often G.D__law_often.kp (bd__law_often G) pass0 (fa_cons (fe_ixN 6 (fe_nm 7)) (fa_cons (fe_nm 2) fa_nil))) (fe_call (ok_often_in_choices G) (hr.mono (by decide : 2 ≤ 4)) G.m_often_in_choices G.D_often_in_choices.kp (bd_often_in_choices G) pass0 (fa_cons (fe_nm 5) (fa_cons (fe_nm 7) (fa_cons (fe_nm 2) fa_nil)))))))) (fss_one (fs_ret fe_bl)) fss_nil))) (fss_cons (fs_par 5 8 sc_law.nd (fa_cons (fe_op op_addA of_add fe_int (fe_callIO 1 (ok__law_draw G) (hr.mono (by decide : 2 ≤ 4)) G.m__law_draw G.D__law_draw.kp (bd__law_draw G) pass0 (fa_cons fe_int fa_nil))) (fa_cons (fe_op op_addA of_add fe_int (fe_callIO 1 (ok__law_draw G) (hr.mono (by decide : 2 ≤ 4)) G.m__law_draw G.D__law_draw.kp (bd__law_draw G) pass0 (fa_cons fe_int fa_nil))) fa_nil))) (fss_cons (fs_set 9 sc_law.nd fe_int) (fss_cons (fs_for (PassesOwn.never) rfl (fi_seq (fe_call (ok_divisors_of G) (hr.mono (by decide : 2 ≤ 4)) G.m_divisors_of G.D_divisors_of.kp (bd_divisors_of G) pass0 (fa_cons (fe_nm 5) fa_nil))) (fb_nm 10 sc_law.nd) (fss_one (fs_set 9 sc_law.nd (fe_op op_mulA of_mul (fe_nm 9) (fe_call (ok_ring_value G) (hr.mono (by decide : 4 ≤ 4)) G.m_ring_value G.D_ring_value.kp (bd_ring_value G) pass0 (fa_cons (fe_nm 10) (fa_cons (fe_nm 8) fa_nil))))))) (fss_cons (fs_if (ft_cmp (op_neA hu) of_ne (fe_nm 9) (fe_op op_sub of_sub (fe_call (ok__law_power G) (hr.mono (by decide : 1 ≤ 4)) G.m__law_power G.D__law_power.kp (bd__law_power G) pass0 (fa_cons (fe_nm 8) (fa_cons (fe_nm 5) fa_nil))) fe_int)) (fss_one (fs_ret fe_bl)) fss_nil) (fss_cons (fs_if (FW.ft (fw_and (ft_cmp (op_gtA) of_gt (fe_nm 9) fe_int) (fw_and1 (ft_cmp (op_ltA) of_lt (fe_nm 9) (fe_op op_pow of_pow fe_int fe_int))))) (fss_one (fs_for (PassesOwn.never) rfl (fi_seq (fe_call (ok_parts_of G) (hr.mono (by decide : 1 ≤ 4)) G.m_parts_of G.D_parts_of.kp (bd_parts_of G) pass0 (fa_cons (fe_nm 9) fa_nil))) (fb_tup rfl (fbs_cons (fb_nm 11 sc_law.nd) (fbs_cons (fb_nm 12 sc_law.nd) fbs_nil))) (fss_one (fs_if (ft_cmp (op_neA hu) of_ne (fe_op op_modN of_mod (fe_nm 5) (fe_call (ok_order G) (hr.mono (by decide : 3 ≤ 4)) G.m_order G.D_order.kp (bd_order G) pass0 (fa_cons (fe_nm 8) (fa_cons (fe_nm 11) fa_nil)))) fe_int) (fss_one (fs_ret fe_bl)) fss_nil)))) fss_nil) (fss_one (fs_ret fe_bl))))))))))))))))
end
def dd_parts_of : He.DefD := ⟨("parts_of", none), "parts_of", "parts_of", defArgs (topS 2), defBody (topS 2), defScope (topS 2), [], []⟩
def dd_divisors_of : He.DefD := ⟨("divisors_of", none), "divisors_of", "divisors_of", defArgs (topS 3), defBody (topS 3), defScope (topS 3), [], []⟩
def dd_coprimes : He.DefD := ⟨("coprimes", none), "coprimes", "coprimes", defArgs (topS 4), defBody (topS 4), defScope (topS 4), [], []⟩
def dd_power_rest : He.DefD := ⟨("power_rest", none), "power_rest", "power_rest", defArgs (topS 5), defBody (topS 5), defScope (topS 5), [], []⟩
def dd_multiplied : He.DefD := ⟨("multiplied", none), "multiplied", "multiplied", defArgs (topS 7), defBody (topS 7), defScope (topS 7), [], []⟩
def dd_divided : He.DefD := ⟨("divided", none), "divided", "divided", defArgs (topS 8), defBody (topS 8), defScope (topS 8), [], []⟩
def dd_ring_part : He.DefD := ⟨("ring_part", none), "ring_part", "ring_part", defArgs (topS 9), defBody (topS 9), defScope (topS 9), [], []⟩
def dd_value_of : He.DefD := ⟨("value_of", none), "value_of", "value_of", defArgs (topS 10), defBody (topS 10), defScope (topS 10), [], []⟩
def dd_ring_value : He.DefD := ⟨("ring_value", none), "ring_value", "ring_value", defArgs (topS 11), defBody (topS 11), defScope (topS 11), [], []⟩
def dd_carries : He.DefD := ⟨("carries", none), "carries", "carries", defArgs (topS 13), defBody (topS 13), defScope (topS 13), [], []⟩
def dd_often_in_choices : He.DefD := ⟨("often_in_choices", none), "often_in_choices", "often_in_choices", defArgs (topS 14), defBody (topS 14), defScope (topS 14), [], []⟩
def dd_choices_of : He.DefD := ⟨("choices_of", none), "choices_of", "choices_of", defArgs (topS 15), defBody (topS 15), defScope (topS 15), [], []⟩
def dd_choices_rest : He.DefD := ⟨("choices_rest", none), "choices_rest", "choices_rest", defArgs (topS 16), defBody (topS 16), defScope (topS 16), [], []⟩
def dd_is_integer : He.DefD := ⟨("is_integer", none), "is_integer", "is_integer", defArgs (topS 18), defBody (topS 18), defScope (topS 18), [], []⟩
def dd_is_within : He.DefD := ⟨("is_within", none), "is_within", "is_within", defArgs (topS 19), defBody (topS 19), defScope (topS 19), [], []⟩
def dd_is_worded : He.DefD := ⟨("is_worded", none), "is_worded", "is_worded", defArgs (topS 20), defBody (topS 20), defScope (topS 20), [], []⟩
def dd_order : He.DefD := ⟨("order", none), "order", "order", defArgs (topS 22), defBody (topS 22), defScope (topS 22), [], []⟩
def dd_check_root : He.DefD := ⟨("check_root", none), "check_root", "check_root", defArgs (topS 23), defBody (topS 23), defScope (topS 23), [], []⟩
def dd__law_pool : He.DefD := ⟨("_law_pool", none), "_law_pool", "_law_pool", defArgs (topS 25), defBody (topS 25), defScope (topS 25), [], []⟩
def dd__law_spread : He.DefD := ⟨("_law_spread", none), "_law_spread", "_law_spread", defArgs (topS 26), defBody (topS 26), defScope (topS 26), [], []⟩
def dd__law_draw : He.DefD := ⟨("_law_draw", none), "_law_draw", "_law_draw", defArgs (topS 27), defBody (topS 27), defScope (topS 27), [], []⟩
def dd__law_power : He.DefD := ⟨("_law_power", none), "_law_power", "_law_power", defArgs (topS 28), defBody (topS 28), defScope (topS 28), [], []⟩
def dd__law_often : He.DefD := ⟨("_law_often", none), "_law_often", "_law_often", defArgs (topS 29), defBody (topS 29), defScope (topS 29), [], []⟩
def dd_law : He.DefD := ⟨("law", none), "law", "law", defArgs (topS 30), defBody (topS 30), defScope (topS 30), [], []⟩
def fn : List He.DefD := [dd_parts_of, dd_divisors_of, dd_coprimes, dd_power_rest, dd_multiplied, dd_divided, dd_ring_part, dd_value_of, dd_ring_value, dd_carries, dd_often_in_choices, dd_choices_of, dd_choices_rest, dd_is_integer, dd_is_within, dd_is_worded, dd_order, dd_check_root, dd__law_pool, dd__law_spread, dd__law_draw, dd__law_power, dd__law_often, dd_law]
def fa : List He.Fa := [.glo "parts_of", .glo "divisors_of", .glo "coprimes", .glo "power_rest", .glo "multiplied", .glo "divided", .glo "ring_part", .glo "value_of", .glo "ring_value", .glo "carries", .glo "often_in_choices", .glo "choices_of", .glo "choices_rest", .glo "is_integer", .glo "is_within", .glo "is_worded", .glo "order", .glo "check_root", .glo "_law_pool", .glo "_law_spread", .glo "_law_draw", .glo "_law_power", .glo "_law_often", .glo "law", .free "bool", .free "enumerate", .free "int", .free "isinstance", .free "len", .free "list", .free "range", .free "reversed", .free "sorted", .free "str", .free "tuple"]
def bl : List (Str × String) := [("gcd", "math.gcd")]
abbrev R : PySem.W.OpenRow := PySem.W.OpenLaw.row PySem.Challenge.rw_numberwright_k60_whole_rings_across
abbrev hk : PySem.W.Hook := hookG 4 bl fa fn
def ob (s : PySem.W.SharedT) : He.AlD := obsGG 4 bl fa fn (HandSHeadRun.getT s)
theorem ob_eq (s : PySem.W.SharedT) : ob s = hk.obs s.abs := obsGG_eq (HandSHeadRun.getT_eq s)
theorem gx {K : PySem.W.Frag} {h : Heap} {mg : Str → Option Value} (X : K.In h) (G : h.Ns mainGlobals mg) (c : SaysG bl fa fn K) : Nonempty (Gx K mg) := by
  obtain ⟨f0, F0⟩ := c.d.def_ 0 (d := dd_parts_of) rfl
  obtain ⟨f1, F1⟩ := c.d.def_ 1 (d := dd_divisors_of) rfl
  obtain ⟨f2, F2⟩ := c.d.def_ 2 (d := dd_coprimes) rfl
  obtain ⟨f3, F3⟩ := c.d.def_ 3 (d := dd_power_rest) rfl
  obtain ⟨f4, F4⟩ := c.d.def_ 4 (d := dd_multiplied) rfl
  obtain ⟨f5, F5⟩ := c.d.def_ 5 (d := dd_divided) rfl
  obtain ⟨f6, F6⟩ := c.d.def_ 6 (d := dd_ring_part) rfl
  obtain ⟨f7, F7⟩ := c.d.def_ 7 (d := dd_value_of) rfl
  obtain ⟨f8, F8⟩ := c.d.def_ 8 (d := dd_ring_value) rfl
  obtain ⟨f9, F9⟩ := c.d.def_ 9 (d := dd_carries) rfl
  obtain ⟨f10, F10⟩ := c.d.def_ 10 (d := dd_often_in_choices) rfl
  obtain ⟨f11, F11⟩ := c.d.def_ 11 (d := dd_choices_of) rfl
  obtain ⟨f12, F12⟩ := c.d.def_ 12 (d := dd_choices_rest) rfl
  obtain ⟨f13, F13⟩ := c.d.def_ 13 (d := dd_is_integer) rfl
  obtain ⟨f14, F14⟩ := c.d.def_ 14 (d := dd_is_within) rfl
  obtain ⟨f15, F15⟩ := c.d.def_ 15 (d := dd_is_worded) rfl
  obtain ⟨f16, F16⟩ := c.d.def_ 16 (d := dd_order) rfl
  obtain ⟨f17, F17⟩ := c.d.def_ 17 (d := dd_check_root) rfl
  obtain ⟨f18, F18⟩ := c.d.def_ 18 (d := dd__law_pool) rfl
  obtain ⟨f19, F19⟩ := c.d.def_ 19 (d := dd__law_spread) rfl
  obtain ⟨f20, F20⟩ := c.d.def_ 20 (d := dd__law_draw) rfl
  obtain ⟨f21, F21⟩ := c.d.def_ 21 (d := dd__law_power) rfl
  obtain ⟨f22, F22⟩ := c.d.def_ 22 (d := dd__law_often) rfl
  obtain ⟨f23, F23⟩ := c.d.def_ 23 (d := dd_law) rfl
  exact ⟨{
    a_parts_of := _, d_parts_of := f0, D_parts_of := F0, m_parts_of := He.glo_ok X G (c.d.fact 0 (f := .glo "parts_of") rfl),
    a_divisors_of := _, d_divisors_of := f1, D_divisors_of := F1, m_divisors_of := He.glo_ok X G (c.d.fact 1 (f := .glo "divisors_of") rfl),
    a_coprimes := _, d_coprimes := f2, D_coprimes := F2, m_coprimes := He.glo_ok X G (c.d.fact 2 (f := .glo "coprimes") rfl),
    a_power_rest := _, d_power_rest := f3, D_power_rest := F3, m_power_rest := He.glo_ok X G (c.d.fact 3 (f := .glo "power_rest") rfl),
    a_multiplied := _, d_multiplied := f4, D_multiplied := F4, m_multiplied := He.glo_ok X G (c.d.fact 4 (f := .glo "multiplied") rfl),
    a_divided := _, d_divided := f5, D_divided := F5, m_divided := He.glo_ok X G (c.d.fact 5 (f := .glo "divided") rfl),
    a_ring_part := _, d_ring_part := f6, D_ring_part := F6, m_ring_part := He.glo_ok X G (c.d.fact 6 (f := .glo "ring_part") rfl),
    a_value_of := _, d_value_of := f7, D_value_of := F7, m_value_of := He.glo_ok X G (c.d.fact 7 (f := .glo "value_of") rfl),
    a_ring_value := _, d_ring_value := f8, D_ring_value := F8, m_ring_value := He.glo_ok X G (c.d.fact 8 (f := .glo "ring_value") rfl),
    a_carries := _, d_carries := f9, D_carries := F9, m_carries := He.glo_ok X G (c.d.fact 9 (f := .glo "carries") rfl),
    a_often_in_choices := _, d_often_in_choices := f10, D_often_in_choices := F10, m_often_in_choices := He.glo_ok X G (c.d.fact 10 (f := .glo "often_in_choices") rfl),
    a_choices_of := _, d_choices_of := f11, D_choices_of := F11, m_choices_of := He.glo_ok X G (c.d.fact 11 (f := .glo "choices_of") rfl),
    a_choices_rest := _, d_choices_rest := f12, D_choices_rest := F12, m_choices_rest := He.glo_ok X G (c.d.fact 12 (f := .glo "choices_rest") rfl),
    a_is_integer := _, d_is_integer := f13, D_is_integer := F13, m_is_integer := He.glo_ok X G (c.d.fact 13 (f := .glo "is_integer") rfl),
    a_is_within := _, d_is_within := f14, D_is_within := F14, m_is_within := He.glo_ok X G (c.d.fact 14 (f := .glo "is_within") rfl),
    a_is_worded := _, d_is_worded := f15, D_is_worded := F15, m_is_worded := He.glo_ok X G (c.d.fact 15 (f := .glo "is_worded") rfl),
    a_order := _, d_order := f16, D_order := F16, m_order := He.glo_ok X G (c.d.fact 16 (f := .glo "order") rfl),
    a_check_root := _, d_check_root := f17, D_check_root := F17, m_check_root := He.glo_ok X G (c.d.fact 17 (f := .glo "check_root") rfl),
    a__law_pool := _, d__law_pool := f18, D__law_pool := F18, m__law_pool := He.glo_ok X G (c.d.fact 18 (f := .glo "_law_pool") rfl),
    a__law_spread := _, d__law_spread := f19, D__law_spread := F19, m__law_spread := He.glo_ok X G (c.d.fact 19 (f := .glo "_law_spread") rfl),
    a__law_draw := _, d__law_draw := f20, D__law_draw := F20, m__law_draw := He.glo_ok X G (c.d.fact 20 (f := .glo "_law_draw") rfl),
    a__law_power := _, d__law_power := f21, D__law_power := F21, m__law_power := He.glo_ok X G (c.d.fact 21 (f := .glo "_law_power") rfl),
    a__law_often := _, d__law_often := f22, D__law_often := F22, m__law_often := He.glo_ok X G (c.d.fact 22 (f := .glo "_law_often") rfl),
    a_law := _, d_law := f23, D_law := F23, m_law := He.glo_ok X G (c.d.fact 23 (f := .glo "law") rfl),
    g_bool := He.free_ok X G (c.d.fact 24 (f := .free "bool") rfl),
    g_enumerate := He.free_ok X G (c.d.fact 25 (f := .free "enumerate") rfl),
    g_int := He.free_ok X G (c.d.fact 26 (f := .free "int") rfl),
    g_isinstance := He.free_ok X G (c.d.fact 27 (f := .free "isinstance") rfl),
    g_len := He.free_ok X G (c.d.fact 28 (f := .free "len") rfl),
    g_list := He.free_ok X G (c.d.fact 29 (f := .free "list") rfl),
    g_range := He.free_ok X G (c.d.fact 30 (f := .free "range") rfl),
    g_reversed := He.free_ok X G (c.d.fact 31 (f := .free "reversed") rfl),
    g_sorted := He.free_ok X G (c.d.fact 32 (f := .free "sorted") rfl),
    g_str := He.free_ok X G (c.d.fact 33 (f := .free "str") rfl),
    g_tuple := He.free_ok X G (c.d.fact 34 (f := .free "tuple") rfl),
    g_gcd := c.blt X G 0 (b := ("gcd", "math.gcd")) rfl }⟩
def loose0 : List Str := ["gcd", "__name__", "parts_of", "divisors_of", "coprimes", "power_rest", "multiplied", "divided", "ring_part", "value_of", "ring_value", "carries", "often_in_choices", "choices_of", "choices_rest", "is_integer", "is_within", "is_worded", "order", "check_root", "_law_pool", "_law_spread", "_law_draw", "_law_power", "_law_often"]
def loose : List Str := loose0
abbrev qv : Program := PySem.W.view R.prog [0, 30]
theorem run (w : World) : HandSHeadRun.RunEqI R qv hk ob 3000 loose w := by
  unfold HandSHeadRun.RunEqI
  kernel_rfl
/-- THE LAW from what its def computes -/
theorem holds_of (hall : ∀ ns : List Int, p_law [scrD ns] = some (.bool true)) (hw : R.toRowW.promised) : PySem.Challenge.rw_numberwright_k60_whole_rings_across.Holds := by
  w_on; o_law
  refine HandSHeadRun.head_imp (r := R) (q := qv) (H := hk) (ob := ob) (M := 3000) (loose := loose) (d := HandSHeadRun.topDef R.prog 30) (kwd := []) ob_eq
    run (by kernel_rfl) (by kernel_rfl) (by kernel_rfl) (by rfl) (by first | assumption | decide +kernel) (by decide +kernel) ⟨rfl, rfl, rfl, rfl, rfl, by decide +kernel⟩ hw ?hc
  refine L2.walk_ofE (l := PySem.Challenge.rw_numberwright_k60_whole_rings_across) (n := 63) (k := 5) (x := "script") (CX := L2.CX0) rfl (by decide) (by kernel_rfl) ⟨rfl, by decide, by decide⟩ ?F (fun _ _ _ _ z => z)
  intro w mg fa h Y G hmg0
  obtain ⟨K, KX, c⟩ := Y
  have hmg : mg ("law" : Str) = some (.ref fa) := by
    have e : (HandSHeadRun.topDef R.prog 30).name = ("law" : Str) := by kernel_rfl
    rw [← e]
    exact hmg0
  obtain ⟨g⟩ := gx KX G c
  have e := hmg.symm.trans g.m_law
  cases e
  refine ⟨K, g.d_law, spP [] K p_law, KX, fun s v => (FunD.bindsA (ps := ["script"]) g.D_law fun _ _ _ _ _ _ us hl => match us, hl with | [_], _ => rfl) s [v] rfl, fun H a ns hl hO hS => law_of hS (hall ns), fun base _ _ => ok_law g⟩
end Fx

noncomputable section
namespace Fx
open PySem PySem.Spec L2
open PyProof.Rows hiding St
def gtF {α : Type} (i : Nat) : List α → Option α := Nat.rec (motive := fun _ => List α → Option α) (fun env => List.casesOn (motive := fun _ => Option α) env none (fun a _ => some a)) (fun _ ih env => List.casesOn (motive := fun _ => Option α) env none (fun _ r => ih r)) i
def stF {α : Type} (i : Nat) : List α → α → List α := Nat.rec (motive := fun _ => List α → α → List α) (fun env s => List.casesOn (motive := fun _ => List α) env [] (fun _ r => s :: r)) (fun _ ih env s => List.casesOn (motive := fun _ => List α) env [] (fun a r => a :: ih r s)) i
def lnF {α : Type} (xs : List α) : Nat := List.rec (motive := fun _ => Nat) 0 (fun _ _ ih => Nat.succ ih) xs
theorem gtF_eq {α : Type} : ∀ (i : Nat) (xs : List α), gtF i xs = xs[i]?
  | 0, [] => rfl
  | 0, _ :: _ => rfl
  | _ + 1, [] => rfl
  | i + 1, _ :: r => gtF_eq i r
theorem stF_eq {α : Type} : ∀ (i : Nat) (xs : List α) (s : α), stF i xs s = xs.set i s
  | 0, [], _ => rfl
  | 0, _ :: _, _ => rfl
  | _ + 1, [], _ => rfl
  | i + 1, a :: r, s => congrArg (a :: ·) (stF_eq i r s)
theorem lnF_eq {α : Type} : ∀ (xs : List α), lnF xs = xs.length
  | [] => rfl
  | _ :: r => congrArg Nat.succ (lnF_eq r)
def atF {α : Type} (xs : List α) (i : Int) : Option α := match ixN (lnF xs) i with
  | none => none
  | some j => gtF j xs
theorem atF_eq {α : Type} (xs : List α) (i : Int) : atF xs i = atI xs i := by
  unfold atF atI
  rw [lnF_eq]
  cases ixN xs.length i with
  | none => rfl
  | some j => exact gtF_eq j xs
def setVF (env : Ev) (i : Nat) (s : Sl) : Option Ev := match gtF i env with
  | some (.io _) => none
  | some _ => some (stF i env s)
  | none => none
theorem setVF_eq : @setVF = @setV := by
  funext a0 a1 a2
  simp only [setVF, gtF_eq, stF_eq, lnF_eq, atF_eq]
  rfl
def nmF (i : Nat) : EF := fun env => match gtF i env with
  | some (.va d) => some (d, env)
  | some (.ow d) => some (d, stF i env (.va d))
  | _ => none
theorem nmF_eq : @nmF = @nm := by
  funext a0 a1
  simp only [nmF, gtF_eq, stF_eq, lnF_eq, atF_eq, setVF_eq]
  rfl
def asgF (i : Nat) (f : EF) : SF := fun env => match f env with
  | none => none
  | some (d, e) => match setVF e i (.va d) with
    | none => none
    | some e' => some (.nx e')
theorem asgF_eq : @asgF = @asg := by
  funext a0 a1 a2
  simp only [asgF, gtF_eq, stF_eq, lnF_eq, atF_eq, setVF_eq, nmF_eq]
  rfl
def asgOF (i : Nat) (f : EF) : SF := fun env => match f env with
  | none => none
  | some (d, e) => match setVF e i (.ow d) with
    | none => none
    | some e' => some (.nx e')
theorem asgOF_eq : @asgOF = @asgO := by
  funext a0 a1 a2
  simp only [asgOF, gtF_eq, stF_eq, lnF_eq, atF_eq, setVF_eq, nmF_eq, asgF_eq]
  rfl
def bNmF (i : Nat) : BF := fun d env => setVF env i (.va d)
theorem bNmF_eq : @bNmF = @bNm := by
  funext a0 a1 a2
  simp only [bNmF, gtF_eq, stF_eq, lnF_eq, atF_eq, setVF_eq, nmF_eq, asgF_eq, asgOF_eq]
  rfl
def asg2F (i j : Nat) (f : AF) : SF := fun env => match f env with
  | some ([a, b], e) => match setVF e i (.va a) with
    | none => none
    | some e1 => match setVF e1 j (.va b) with
      | none => none
      | some e2 => some (.nx e2)
  | _ => none
theorem asg2F_eq : @asg2F = @asg2 := by
  funext a0 a1 a2 a3
  simp only [asg2F, gtF_eq, stF_eq, lnF_eq, atF_eq, setVF_eq, nmF_eq, asgF_eq, asgOF_eq, bNmF_eq]
  rfl
def augF (i : Nat) (g : PV → PV → Option PV) (f : EF) : SF := fun env => match gtF i env with
  | some (.va a) => match f env with
    | none => none
    | some (b, e) => match g a b with
      | none => none
      | some d => match setVF e i (.va d) with
        | none => none
        | some e' => some (.nx e')
  | _ => none
theorem augF_eq : @augF = @aug := by
  funext a0 a1 a2 a3
  simp only [augF, gtF_eq, stF_eq, lnF_eq, atF_eq, setVF_eq, nmF_eq, asgF_eq, asgOF_eq, bNmF_eq, asg2F_eq]
  rfl
def contF (env : Ev) (i : Nat) : Option PV := match gtF i env with
  | some (.va d) => some d
  | some (.ow d) => some d
  | some (.io d) => some d
  | _ => none
theorem contF_eq : @contF = @cont := by
  funext a0 a1
  simp only [contF, gtF_eq, stF_eq, lnF_eq, atF_eq, setVF_eq, nmF_eq, asgF_eq, asgOF_eq, bNmF_eq, asg2F_eq, augF_eq]
  rfl
def pLenF : List PV → Option PV
  | [.list xs] => some (.int (lnF xs))
  | [.tuple xs] => some (.int (lnF xs))
  | [.str z] => if z.length ≤ sizeLine then some (.int z.length) else none
  | _ => none
theorem pLenF_eq : @pLenF = @pLen := by
  funext a0
  simp only [pLenF, gtF_eq, stF_eq, lnF_eq, atF_eq, setVF_eq, nmF_eq, asgF_eq, asgOF_eq, bNmF_eq, asg2F_eq, augF_eq, contF_eq]
  rfl
def pIxF : PV → PV → Option PV
  | .list xs, .int i => atF xs i
  | .tuple xs, .int i => atF xs i
  | .str z, .int i => if z.length ≤ sizeLine then (atF z.cps.toList i).map fun c => .str ⟨#[c]⟩ else none
  | _, _ => none
theorem pIxF_eq : @pIxF = @pIx := by
  funext a0 a1
  simp only [pIxF, gtF_eq, stF_eq, lnF_eq, atF_eq, setVF_eq, nmF_eq, asgF_eq, asgOF_eq, bNmF_eq, asg2F_eq, augF_eq, contF_eq, pLenF_eq]
  rfl
def ixNPF (i : Nat) (fb : EF) : EF := fun env => match contF env i with
  | none => none
  | some _ => match fb env with
    | none => none
    | some (k, e) => match contF e i with
      | none => none
      | some d => match pIxF d k with
        | none => none
        | some r => some (r, e)
theorem ixNPF_eq : @ixNPF = @ixN' := by
  funext a0 a1 a2
  simp only [ixNPF, gtF_eq, stF_eq, lnF_eq, atF_eq, setVF_eq, nmF_eq, asgF_eq, asgOF_eq, bNmF_eq, asg2F_eq, augF_eq, contF_eq, pLenF_eq, pIxF_eq]
  rfl
def lenNF (i : Nat) : EF := fun env => match contF env i with
  | none => none
  | some d => match pLenF [d] with
    | none => none
    | some r => some (r, env)
theorem lenNF_eq : @lenNF = @lenN := by
  funext a0 a1
  simp only [lenNF, gtF_eq, stF_eq, lnF_eq, atF_eq, setVF_eq, nmF_eq, asgF_eq, asgOF_eq, bNmF_eq, asg2F_eq, augF_eq, contF_eq, pLenF_eq, pIxF_eq, ixNPF_eq]
  rfl
def mineF (env : Ev) (i : Nat) : Option PV := match gtF i env with
  | some (.ow d) => some d
  | some (.io d) => some d
  | _ => none
theorem mineF_eq : @mineF = @mine := by
  funext a0 a1
  simp only [mineF, gtF_eq, stF_eq, lnF_eq, atF_eq, setVF_eq, nmF_eq, asgF_eq, asgOF_eq, bNmF_eq, asg2F_eq, augF_eq, contF_eq, pLenF_eq, pIxF_eq, ixNPF_eq, lenNF_eq]
  rfl
def putMF (env : Ev) (i : Nat) (d : PV) : Ev := match gtF i env with
  | some (.ow _) => stF i env (.ow d)
  | some (.io _) => stF i env (.io d)
  | _ => env
theorem putMF_eq : @putMF = @putM := by
  funext a0 a1 a2
  simp only [putMF, gtF_eq, stF_eq, lnF_eq, atF_eq, setVF_eq, nmF_eq, asgF_eq, asgOF_eq, bNmF_eq, asg2F_eq, augF_eq, contF_eq, pLenF_eq, pIxF_eq, ixNPF_eq, lenNF_eq, mineF_eq]
  rfl
def isLF (env : Ev) (i : Nat) : Bool := match mineF env i with
  | some (.list _) => true
  | _ => false
theorem isLF_eq : @isLF = @isL := by
  funext a0 a1
  simp only [isLF, gtF_eq, stF_eq, lnF_eq, atF_eq, setVF_eq, nmF_eq, asgF_eq, asgOF_eq, bNmF_eq, asg2F_eq, augF_eq, contF_eq, pLenF_eq, pIxF_eq, ixNPF_eq, lenNF_eq, mineF_eq, putMF_eq]
  rfl
def appendF (i : Nat) (f : EF) : EF := fun env => match isLF env i with
  | false => none
  | true => match f env with
    | none => none
    | some (d, e) => match mineF e i with
      | some (.list ds) => if lnF ds < sizeLine then some (.none, putMF e i (.list (ds ++ [d]))) else none
      | _ => none
theorem appendF_eq : @appendF = @append := by
  funext a0 a1 a2
  simp only [appendF, gtF_eq, stF_eq, lnF_eq, atF_eq, setVF_eq, nmF_eq, asgF_eq, asgOF_eq, bNmF_eq, asg2F_eq, augF_eq, contF_eq, pLenF_eq, pIxF_eq, ixNPF_eq, lenNF_eq, mineF_eq, putMF_eq, isLF_eq]
  rfl
def pop0F (i : Nat) : EF := fun env => match mineF env i with
  | some (.list ds) => match gtF (lnF ds - 1) ds with
    | some d => some (d, putMF env i (.list ds.dropLast))
    | none => none
  | _ => none
theorem pop0F_eq : @pop0F = @pop0 := by
  funext a0 a1
  simp only [pop0F, gtF_eq, stF_eq, lnF_eq, atF_eq, setVF_eq, nmF_eq, asgF_eq, asgOF_eq, bNmF_eq, asg2F_eq, augF_eq, contF_eq, pLenF_eq, pIxF_eq, ixNPF_eq, lenNF_eq, mineF_eq, putMF_eq, isLF_eq, appendF_eq]
  rfl
def popAtF (i : Nat) (f : EF) : EF := fun env => match isLF env i with
  | false => none
  | true => match f env with
    | some (.int k, e) => match mineF e i with
      | some (.list ds) => if -(2 ^ 63) ≤ k ∧ k < 2 ^ 63 then match seqIndex? k (lnF ds) with
        | none => none
        | some j => match gtF j ds with
          | none => none
          | some d => some (d, putMF e i (.list (ds.eraseIdx j)))
        else none
      | _ => none
    | _ => none
theorem popAtF_eq : @popAtF = @popAt := by
  funext a0 a1 a2
  simp only [popAtF, gtF_eq, stF_eq, lnF_eq, atF_eq, setVF_eq, nmF_eq, asgF_eq, asgOF_eq, bNmF_eq, asg2F_eq, augF_eq, contF_eq, pLenF_eq, pIxF_eq, ixNPF_eq, lenNF_eq, mineF_eq, putMF_eq, isLF_eq, appendF_eq, pop0F_eq]
  rfl
def extendF (i : Nat) (f : EF) : EF := fun env => match isLF env i with
  | false => none
  | true => match f env with
    | some (.list zs, e) => match mineF e i with
      | some (.list ds) => if lnF ds + lnF zs ≤ sizeLine then some (.none, putMF e i (.list (ds ++ zs))) else none
      | _ => none
    | _ => none
theorem extendF_eq : @extendF = @extend := by
  funext a0 a1 a2
  simp only [extendF, gtF_eq, stF_eq, lnF_eq, atF_eq, setVF_eq, nmF_eq, asgF_eq, asgOF_eq, bNmF_eq, asg2F_eq, augF_eq, contF_eq, pLenF_eq, pIxF_eq, ixNPF_eq, lenNF_eq, mineF_eq, putMF_eq, isLF_eq, appendF_eq, pop0F_eq, popAtF_eq]
  rfl
def setIxF (i : Nat) (fk fe : EF) : SF := fun env => match fe env with
  | none => none
  | some (d, e) => match isLF e i with
    | false => none
    | true => match fk e with
      | some (.int k, e2) => match mineF e2 i with
        | some (.list ds) => match ixN (lnF ds) k with
          | none => none
          | some j => some (.nx (putMF e2 i (.list (stF j ds d))))
        | _ => none
      | _ => none
theorem setIxF_eq : @setIxF = @setIx := by
  funext a0 a1 a2 a3
  simp only [setIxF, gtF_eq, stF_eq, lnF_eq, atF_eq, setVF_eq, nmF_eq, asgF_eq, asgOF_eq, bNmF_eq, asg2F_eq, augF_eq, contF_eq, pLenF_eq, pIxF_eq, ixNPF_eq, lenNF_eq, mineF_eq, putMF_eq, isLF_eq, appendF_eq, pop0F_eq, popAtF_eq, extendF_eq]
  rfl
def augIxF (i : Nat) (g : PV → PV → Option PV) (fk fe : EF) : SF := fun env => match isLF env i with
  | false => none
  | true => match fk env with
    | some (.int k, e1) => match mineF e1 i with
      | some (.list ds) => match atF ds k with
        | none => none
        | some a => match fe e1 with
          | none => none
          | some (b, e2) => match g a b with
            | none => none
            | some d => match mineF e2 i with
              | some (.list es) => match ixN (lnF es) k with
                | none => none
                | some j => some (.nx (putMF e2 i (.list (stF j es d))))
              | _ => none
      | _ => none
    | _ => none
theorem augIxF_eq : @augIxF = @augIx := by
  funext a0 a1 a2 a3 a4
  simp only [augIxF, gtF_eq, stF_eq, lnF_eq, atF_eq, setVF_eq, nmF_eq, asgF_eq, asgOF_eq, bNmF_eq, asg2F_eq, augF_eq, contF_eq, pLenF_eq, pIxF_eq, ixNPF_eq, lenNF_eq, mineF_eq, putMF_eq, isLF_eq, appendF_eq, pop0F_eq, popAtF_eq, extendF_eq, setIxF_eq]
  rfl
def callIOF (i : Nat) (g : PV → List PV → Option (PV × PV)) (f : AF) : EF := fun env => match mineF env i with
  | none => none
  | some _ => match f env with
    | none => none
    | some (ds, e) => match mineF e i with
      | none => none
      | some d => match g d ds with
        | none => none
        | some (d', r) => some (r, putMF e i d')
theorem callIOF_eq : @callIOF = @callIO := by
  funext a0 a1 a2 a3
  simp only [callIOF, gtF_eq, stF_eq, lnF_eq, atF_eq, setVF_eq, nmF_eq, asgF_eq, asgOF_eq, bNmF_eq, asg2F_eq, augF_eq, contF_eq, pLenF_eq, pIxF_eq, ixNPF_eq, lenNF_eq, mineF_eq, putMF_eq, isLF_eq, appendF_eq, pop0F_eq, popAtF_eq, extendF_eq, setIxF_eq, augIxF_eq]
  rfl
def wipeEF (env : Ev) : List Nat → Ev
  | [] => env
  | i :: r => stF i (wipeEF env r) .no
theorem wipeEF_eq : @wipeEF = @wipeE := by
  funext env vs
  induction vs with
  | nil => rfl
  | cons i r ih => simp only [wipeEF, wipeE, ih, stF_eq]
def ioFF (e : Ev) (vs : List Nat) : Bool := vs.all fun i => match gtF i e with | some (.io _) => false | _ => true
theorem ioFF_eq : @ioFF = @ioF := by
  funext a0 a1
  simp only [ioFF, gtF_eq, stF_eq, lnF_eq, atF_eq, setVF_eq, nmF_eq, asgF_eq, asgOF_eq, bNmF_eq, asg2F_eq, augF_eq, contF_eq, pLenF_eq, pIxF_eq, ixNPF_eq, lenNF_eq, mineF_eq, putMF_eq, isLF_eq, appendF_eq, pop0F_eq, popAtF_eq, extendF_eq, setIxF_eq, augIxF_eq, callIOF_eq, wipeEF_eq]
  rfl
def putIxF (i : Nat) (fk fe : EF) : SF := fun env => match fe env with
  | none => none
  | some (d, e) => match mineF e i with
    | none => none
    | some _ => match fk e with
      | none => none
      | some (y, e2) => match keyOf y with
        | none => none
        | some k => match mineF e2 i with
          | some (.dict ds) => if plainD ds = true ∧ lnF ds < sizeLine then some (.nx (putMF e2 i (.dict (dPut k d ds)))) else none
          | _ => none
theorem putIxF_eq : @putIxF = @putIx := by
  funext a0 a1 a2 a3
  simp only [putIxF, gtF_eq, stF_eq, lnF_eq, atF_eq, setVF_eq, nmF_eq, asgF_eq, asgOF_eq, bNmF_eq, asg2F_eq, augF_eq, contF_eq, pLenF_eq, pIxF_eq, ixNPF_eq, lenNF_eq, mineF_eq, putMF_eq, isLF_eq, appendF_eq, pop0F_eq, popAtF_eq, extendF_eq, setIxF_eq, augIxF_eq, callIOF_eq, wipeEF_eq, ioFF_eq]
  rfl
def dIxF (i : Nat) (fb : EF) : EF := fun env => match contF env i with
  | none => none
  | some _ => match fb env with
    | none => none
    | some (y, e) => match keyOf y with
      | none => none
      | some k => match contF e i with
        | some (.dict ds) => if plainD ds = true then (match dVal k ds with
            | none => none
            | some r => some (r, e)) else none
        | _ => none
theorem dIxF_eq : @dIxF = @dIx := by
  funext a0 a1 a2
  simp only [dIxF, gtF_eq, stF_eq, lnF_eq, atF_eq, setVF_eq, nmF_eq, asgF_eq, asgOF_eq, bNmF_eq, asg2F_eq, augF_eq, contF_eq, pLenF_eq, pIxF_eq, ixNPF_eq, lenNF_eq, mineF_eq, putMF_eq, isLF_eq, appendF_eq, pop0F_eq, popAtF_eq, extendF_eq, setIxF_eq, augIxF_eq, callIOF_eq, wipeEF_eq, ioFF_eq, putIxF_eq]
  rfl
def dInF (g : Bool → Bool) (i : Nat) (fb : EF) : EF := fun env => match fb env with
  | none => none
  | some (y, e) => match keyOf y with
    | none => none
    | some k => match contF e i with
      | some (.dict ds) => if plainD ds = true then some (.bool (g (dVal k ds).isSome), e) else none
      | _ => none
theorem dInF_eq : @dInF = @dIn := by
  funext a0 a1 a2 a3
  simp only [dInF, gtF_eq, stF_eq, lnF_eq, atF_eq, setVF_eq, nmF_eq, asgF_eq, asgOF_eq, bNmF_eq, asg2F_eq, augF_eq, contF_eq, pLenF_eq, pIxF_eq, ixNPF_eq, lenNF_eq, mineF_eq, putMF_eq, isLF_eq, appendF_eq, pop0F_eq, popAtF_eq, extendF_eq, setIxF_eq, augIxF_eq, callIOF_eq, wipeEF_eq, ioFF_eq, putIxF_eq, dIxF_eq]
  rfl
def coFF (vs : List Nat) (bi : BF) (t : TF) (f : EF) : List PV → List PV → Ev → Option (List PV × Ev)
  | [], acc, env => some (acc, env)
  | d :: ds, acc, env => match bi d env with
    | none => none
    | some e => match t e with
      | none => none
      | some (false, e2) => coFF vs bi t f ds acc (wipeEF e2 vs)
      | some (true, e2) => match f e2 with
        | none => none
        | some (r, e3) => if lnF acc < sizeLine then coFF vs bi t f ds (acc ++ [r]) (wipeEF e3 vs) else none
theorem coFF_eq : @coFF = @coF := by
  funext vs bi t f ds
  induction ds with
  | nil => rfl
  | cons d ds ih => funext acc env; simp only [coFF, coF, ih, gtF_eq, lnF_eq, setVF_eq, nmF_eq, asgF_eq, asgOF_eq, bNmF_eq, asg2F_eq, augF_eq, contF_eq, pLenF_eq, pIxF_eq, ixNPF_eq, lenNF_eq, mineF_eq, putMF_eq, isLF_eq, appendF_eq, pop0F_eq, popAtF_eq, extendF_eq, setIxF_eq, augIxF_eq, callIOF_eq, wipeEF_eq, ioFF_eq, putIxF_eq, dIxF_eq, dInF_eq] <;> rfl
def coF2F (vs vs1 : List Nat) (bi : BF) (t : TF) (w1 : AF) (bi1 : BF) (t1 : TF) (f : EF) : List PV → List PV → Ev → Option (List PV × Ev)
  | [], acc, env => some (acc, env)
  | d :: ds, acc, env => match bi d env with
    | none => none
    | some e => match t e with
      | none => none
      | some (false, e2) => coF2F vs vs1 bi t w1 bi1 t1 f ds acc (wipeEF e2 vs)
      | some (true, e2) => match w1 e2 with
        | none => none
        | some (ds1, e3) => match coFF vs1 bi1 t1 f ds1 acc (wipeEF e3 vs1) with
          | none => none
          | some (acc2, e4) => coF2F vs vs1 bi t w1 bi1 t1 f ds acc2 (wipeEF e4 vs)
theorem coF2F_eq : @coF2F = @coF2 := by
  funext vs vs1 bi t w1 bi1 t1 f ds
  induction ds with
  | nil => rfl
  | cons d ds ih => funext acc env; simp only [coF2F, coF2, ih, gtF_eq, lnF_eq, coFF_eq, setVF_eq, nmF_eq, asgF_eq, asgOF_eq, bNmF_eq, asg2F_eq, augF_eq, contF_eq, pLenF_eq, pIxF_eq, ixNPF_eq, lenNF_eq, mineF_eq, putMF_eq, isLF_eq, appendF_eq, pop0F_eq, popAtF_eq, extendF_eq, setIxF_eq, augIxF_eq, callIOF_eq, wipeEF_eq, ioFF_eq, putIxF_eq, dIxF_eq, dInF_eq] <;> rfl
def eLcF (vs : List Nat) (w : AF) (bi : BF) (t : TF) (f : EF) : EF := fun env => match w env with
  | none => none
  | some (ds, e) => if vs.all (fun i => match gtF i e with | some (.io _) => false | _ => true) then match coFF vs bi t f ds [] (wipeEF e vs) with
      | none => none
      | some (acc, e2) => some (.list acc, wipeEF e2 vs)
    else none
theorem eLcF_eq : @eLcF = @eLc := by
  funext a0 a1 a2 a3 a4 a5
  simp only [eLcF, gtF_eq, lnF_eq, coFF_eq, coF2F_eq, setVF_eq, nmF_eq, asgF_eq, asgOF_eq, bNmF_eq, asg2F_eq, augF_eq, contF_eq, pLenF_eq, pIxF_eq, ixNPF_eq, lenNF_eq, mineF_eq, putMF_eq, isLF_eq, appendF_eq, pop0F_eq, popAtF_eq, extendF_eq, setIxF_eq, augIxF_eq, callIOF_eq, wipeEF_eq, ioFF_eq, putIxF_eq, dIxF_eq, dInF_eq]
  rfl
def eLc2F (vs vs1 : List Nat) (w : AF) (bi : BF) (t : TF) (w1 : AF) (bi1 : BF) (t1 : TF) (f : EF) : EF := fun env => match w env with
  | none => none
  | some (ds, e) => if ioFF e vs = true then match coF2F vs vs1 bi t w1 bi1 t1 f ds [] (wipeEF e vs) with
      | none => none
      | some (acc, e2) => some (.list acc, wipeEF e2 vs)
    else none
theorem eLc2F_eq : @eLc2F = @eLc2 := by
  funext a0 a1 a2 a3 a4 a5 a6 a7 a8 a9
  simp only [eLc2F, gtF_eq, lnF_eq, coFF_eq, coF2F_eq, setVF_eq, nmF_eq, asgF_eq, asgOF_eq, bNmF_eq, asg2F_eq, augF_eq, contF_eq, pLenF_eq, pIxF_eq, ixNPF_eq, lenNF_eq, mineF_eq, putMF_eq, isLF_eq, appendF_eq, pop0F_eq, popAtF_eq, extendF_eq, setIxF_eq, augIxF_eq, callIOF_eq, wipeEF_eq, ioFF_eq, putIxF_eq, dIxF_eq, dInF_eq]
  rfl
/-- the fast readings are the readings -/
theorem fast_all : True := trivial
end Fx

namespace Fx
open PySem PySem.Spec L2
open PyProof.Rows hiding St
noncomputable def c_parts_of : SF := (sSeq (asgOF 1 (eLst aNil)) (sSeq (asgF 2 (kE (.int 2))) (sSeq (whF (tB' (bin pLe (bin pMul (nmF 2) (nmF 2)) (nmF 0))) (sSeq (asgF 3 (kE (.int 0))) (sSeq (whF (tB' (bin pEq (bin pMod (nmF 0) (nmF 2)) (kE (.int 0)))) (sSeq (augF 0 pDiv (nmF 2)) (augF 3 pAddI (kE (.int 1)))) 2000) (sSeq (sIf (tB' (bin pGt (nmF 3) (kE (.int 0)))) (sExpr (appendF 1 (eTup (aCons (nmF 2) (aCons (nmF 3) aNil))))) sSkip) (augF 2 pAddI (eIf (tB' (bin pEq (nmF 2) (kE (.int 2)))) (kE (.int 1)) (kE (.int 2))))))) 2000) (sSeq (sIf (tB' (bin pGt (nmF 0) (kE (.int 1)))) (sExpr (appendF 1 (eTup (aCons (nmF 0) (aCons (kE (.int 1)) aNil))))) sSkip) (sRet (callF pTuple (aCons (nmF 1) aNil)))))))
theorem cb_parts_of : c_parts_of = b_parts_of := by
  simp only [c_parts_of, setVF_eq, nmF_eq, asgF_eq, asgOF_eq, bNmF_eq, asg2F_eq, augF_eq, contF_eq, pLenF_eq, pIxF_eq, ixNPF_eq, lenNF_eq, mineF_eq, putMF_eq, isLF_eq, appendF_eq, pop0F_eq, popAtF_eq, extendF_eq, setIxF_eq, augIxF_eq, callIOF_eq, wipeEF_eq, ioFF_eq, putIxF_eq, dIxF_eq, dInF_eq, coFF_eq, coF2F_eq, eLcF_eq, eLc2F_eq]
  rfl
noncomputable def q_parts_of : List PV → Option PV := runP 4 1 c_parts_of
theorem qp_parts_of : q_parts_of = p_parts_of := by
  unfold q_parts_of p_parts_of
  rw [cb_parts_of]
noncomputable def c_divisors_of : SF := (sSeq (asgOF 1 (eLst (aCons (kE (.int 1)) aNil))) (sSeq (sFor (wSeq (callF q_parts_of (aCons (nmF 0) aNil))) (bTup 2 (bCons (bNmF 2) (bCons (bNmF 3) bNil))) (sSeq (asgOF 4 (eLst (aCons (kE (.int 1)) aNil))) (sSeq (sFor (wRng1 (nmF 3)) (bNmF 5) (sExpr (appendF 4 (bin pMul (ixNPF 4 (un pNeg (kE (.int 1)))) (nmF 2))))) (asgOF 1 (eLc2F [6, 7] [7] (wSeq (nmF 1)) (bNmF 6) tYs (wSeq (nmF 4)) (bNmF 7) tYs (bin pMul (nmF 6) (nmF 7))))))) (sRet (callF pSorted (aCons (nmF 1) aNil)))))
theorem cb_divisors_of : c_divisors_of = b_divisors_of := by
  simp only [c_divisors_of, setVF_eq, nmF_eq, asgF_eq, asgOF_eq, bNmF_eq, asg2F_eq, augF_eq, contF_eq, pLenF_eq, pIxF_eq, ixNPF_eq, lenNF_eq, mineF_eq, putMF_eq, isLF_eq, appendF_eq, pop0F_eq, popAtF_eq, extendF_eq, setIxF_eq, augIxF_eq, callIOF_eq, wipeEF_eq, ioFF_eq, putIxF_eq, dIxF_eq, dInF_eq, coFF_eq, coF2F_eq, eLcF_eq, eLc2F_eq, qp_parts_of]
  rfl
noncomputable def q_divisors_of : List PV → Option PV := runP 8 1 c_divisors_of
theorem qp_divisors_of : q_divisors_of = p_divisors_of := by
  unfold q_divisors_of p_divisors_of
  rw [cb_divisors_of]
noncomputable def c_coprimes : SF := (sSeq (asgF 1 (nmF 0)) (sSeq (sFor (wSeq (callF q_parts_of (aCons (nmF 0) aNil))) (bTup 2 (bCons (bNmF 2) (bCons (bNmF 3) bNil))) (asgF 1 (bin pMul (bin pDiv (nmF 1) (nmF 2)) (bin pSub (nmF 2) (kE (.int 1)))))) (sRet (nmF 1))))
theorem cb_coprimes : c_coprimes = b_coprimes := by
  simp only [c_coprimes, setVF_eq, nmF_eq, asgF_eq, asgOF_eq, bNmF_eq, asg2F_eq, augF_eq, contF_eq, pLenF_eq, pIxF_eq, ixNPF_eq, lenNF_eq, mineF_eq, putMF_eq, isLF_eq, appendF_eq, pop0F_eq, popAtF_eq, extendF_eq, setIxF_eq, augIxF_eq, callIOF_eq, wipeEF_eq, ioFF_eq, putIxF_eq, dIxF_eq, dInF_eq, coFF_eq, coF2F_eq, eLcF_eq, eLc2F_eq, qp_parts_of]
  rfl
noncomputable def q_coprimes : List PV → Option PV := runP 4 1 c_coprimes
theorem qp_coprimes : q_coprimes = p_coprimes := by
  unfold q_coprimes p_coprimes
  rw [cb_coprimes]
noncomputable def c_power_rest : SF := (sSeq (asg2F 3 0 (aCons (bin pMod (kE (.int 1)) (nmF 2)) (aCons (bin pMod (nmF 0) (nmF 2)) aNil))) (sSeq (whF (tB' (bin pGt (nmF 1) (kE (.int 0)))) (sSeq (sIf (tB' (bin pEq (bin pMod (nmF 1) (kE (.int 2))) (kE (.int 1)))) (asgF 3 (bin pMod (bin pMul (nmF 3) (nmF 0)) (nmF 2))) sSkip) (sSeq (asgF 0 (bin pMod (bin pMul (nmF 0) (nmF 0)) (nmF 2))) (augF 1 pDiv (kE (.int 2))))) 2000) (sRet (nmF 3))))
theorem cb_power_rest : c_power_rest = b_power_rest := by
  simp only [c_power_rest, setVF_eq, nmF_eq, asgF_eq, asgOF_eq, bNmF_eq, asg2F_eq, augF_eq, contF_eq, pLenF_eq, pIxF_eq, ixNPF_eq, lenNF_eq, mineF_eq, putMF_eq, isLF_eq, appendF_eq, pop0F_eq, popAtF_eq, extendF_eq, setIxF_eq, augIxF_eq, callIOF_eq, wipeEF_eq, ioFF_eq, putIxF_eq, dIxF_eq, dInF_eq, coFF_eq, coF2F_eq, eLcF_eq, eLc2F_eq]
  rfl
noncomputable def q_power_rest : List PV → Option PV := runP 4 3 c_power_rest
theorem qp_power_rest : q_power_rest = p_power_rest := by
  unfold q_power_rest p_power_rest
  rw [cb_power_rest]
noncomputable def c_multiplied : SF := (sSeq (asgOF 2 (bin pRepN (eLst (aCons (kE (.int 0)) aNil)) (bin pSub (bin pAdd (lenNF 0) (lenNF 1)) (kE (.int 1))))) (sSeq (sFor (wEnumA (nmF 0)) (bTup 2 (bCons (bNmF 3) (bCons (bNmF 4) bNil))) (sFor (wEnumA (nmF 1)) (bTup 2 (bCons (bNmF 5) (bCons (bNmF 6) bNil))) (augIxF 2 pAddI (bin pAdd (nmF 3) (nmF 5)) (bin pMul (nmF 4) (nmF 6))))) (sRet (callF pTuple (aCons (nmF 2) aNil)))))
theorem cb_multiplied : c_multiplied = b_multiplied := by
  simp only [c_multiplied, setVF_eq, nmF_eq, asgF_eq, asgOF_eq, bNmF_eq, asg2F_eq, augF_eq, contF_eq, pLenF_eq, pIxF_eq, ixNPF_eq, lenNF_eq, mineF_eq, putMF_eq, isLF_eq, appendF_eq, pop0F_eq, popAtF_eq, extendF_eq, setIxF_eq, augIxF_eq, callIOF_eq, wipeEF_eq, ioFF_eq, putIxF_eq, dIxF_eq, dInF_eq, coFF_eq, coF2F_eq, eLcF_eq, eLc2F_eq]
  rfl
noncomputable def q_multiplied : List PV → Option PV := runP 7 2 c_multiplied
theorem qp_multiplied : q_multiplied = p_multiplied := by
  unfold q_multiplied p_multiplied
  rw [cb_multiplied]
noncomputable def c_divided : SF := (sSeq (asgOF 2 (callF pList (aCons (nmF 0) aNil))) (sSeq (asgOF 3 (eLst aNil)) (sSeq (whF (tB' (bin pGe (lenNF 2) (lenNF 1))) (sSeq (asgF 4 (ixNPF 2 (un pNeg (kE (.int 1))))) (sSeq (sExpr (appendF 3 (nmF 4))) (sSeq (sFor (wRng1 (lenNF 1)) (bNmF 5) (augIxF 2 pSub (bin pAdd (bin pSub (lenNF 2) (lenNF 1)) (nmF 5)) (bin pMul (nmF 4) (ixNPF 1 (nmF 5))))) (sExpr (pop0F 2))))) 2000) (sRet (tRv (nmF 3))))))
theorem cb_divided : c_divided = b_divided := by
  simp only [c_divided, setVF_eq, nmF_eq, asgF_eq, asgOF_eq, bNmF_eq, asg2F_eq, augF_eq, contF_eq, pLenF_eq, pIxF_eq, ixNPF_eq, lenNF_eq, mineF_eq, putMF_eq, isLF_eq, appendF_eq, pop0F_eq, popAtF_eq, extendF_eq, setIxF_eq, augIxF_eq, callIOF_eq, wipeEF_eq, ioFF_eq, putIxF_eq, dIxF_eq, dInF_eq, coFF_eq, coF2F_eq, eLcF_eq, eLc2F_eq]
  rfl
noncomputable def q_divided : List PV → Option PV := runP 6 2 c_divided
theorem qp_divided : q_divided = p_divided := by
  unfold q_divided p_divided
  rw [cb_divided]
noncomputable def c_ring_part : SF := (sSeq (asgOF 1 eDk) (sSeq (sFor (wSeq (callF q_divisors_of (aCons (nmF 0) aNil))) (bNmF 2) (sSeq (asgF 3 (eTup (aCons (un pNeg (kE (.int 1))) (aStar (bin pRepN (eLst (aCons (kE (.int 0)) aNil)) (bin pSub (nmF 2) (kE (.int 1)))) (aCons (kE (.int 1)) aNil))))) (sSeq (sFor (wSeq (eSl (callF q_divisors_of (aCons (nmF 2) aNil)) oNo (oSo (un pNeg (kE (.int 1)))))) (bNmF 4) (asgF 3 (callF q_divided (aCons (nmF 3) (aCons (dIxF 1 (nmF 4)) aNil))))) (putIxF 1 (nmF 2) (nmF 3))))) (sRet (dIxF 1 (nmF 0)))))
theorem cb_ring_part : c_ring_part = b_ring_part := by
  simp only [c_ring_part, setVF_eq, nmF_eq, asgF_eq, asgOF_eq, bNmF_eq, asg2F_eq, augF_eq, contF_eq, pLenF_eq, pIxF_eq, ixNPF_eq, lenNF_eq, mineF_eq, putMF_eq, isLF_eq, appendF_eq, pop0F_eq, popAtF_eq, extendF_eq, setIxF_eq, augIxF_eq, callIOF_eq, wipeEF_eq, ioFF_eq, putIxF_eq, dIxF_eq, dInF_eq, coFF_eq, coF2F_eq, eLcF_eq, eLc2F_eq, qp_divided, qp_divisors_of]
  rfl
noncomputable def q_ring_part : List PV → Option PV := runP 5 1 c_ring_part
theorem qp_ring_part : q_ring_part = p_ring_part := by
  unfold q_ring_part p_ring_part
  rw [cb_ring_part]
noncomputable def c_value_of : SF := (sSeq (asgF 2 (kE (.int 0))) (sSeq (sFor (wRevA (nmF 0)) (bNmF 3) (asgF 2 (bin pAdd (bin pMul (nmF 2) (nmF 1)) (nmF 3)))) (sRet (nmF 2))))
theorem cb_value_of : c_value_of = b_value_of := by
  simp only [c_value_of, setVF_eq, nmF_eq, asgF_eq, asgOF_eq, bNmF_eq, asg2F_eq, augF_eq, contF_eq, pLenF_eq, pIxF_eq, ixNPF_eq, lenNF_eq, mineF_eq, putMF_eq, isLF_eq, appendF_eq, pop0F_eq, popAtF_eq, extendF_eq, setIxF_eq, augIxF_eq, callIOF_eq, wipeEF_eq, ioFF_eq, putIxF_eq, dIxF_eq, dInF_eq, coFF_eq, coF2F_eq, eLcF_eq, eLc2F_eq]
  rfl
noncomputable def q_value_of : List PV → Option PV := runP 4 2 c_value_of
theorem qp_value_of : q_value_of = p_value_of := by
  unfold q_value_of p_value_of
  rw [cb_value_of]
noncomputable def c_ring_value : SF := (sRet (callF q_value_of (aCons (callF q_ring_part (aCons (nmF 0) aNil)) (aCons (nmF 1) aNil))))
theorem cb_ring_value : c_ring_value = b_ring_value := by
  simp only [c_ring_value, setVF_eq, nmF_eq, asgF_eq, asgOF_eq, bNmF_eq, asg2F_eq, augF_eq, contF_eq, pLenF_eq, pIxF_eq, ixNPF_eq, lenNF_eq, mineF_eq, putMF_eq, isLF_eq, appendF_eq, pop0F_eq, popAtF_eq, extendF_eq, setIxF_eq, augIxF_eq, callIOF_eq, wipeEF_eq, ioFF_eq, putIxF_eq, dIxF_eq, dInF_eq, coFF_eq, coF2F_eq, eLcF_eq, eLc2F_eq, qp_ring_part, qp_value_of]
  rfl
noncomputable def q_ring_value : List PV → Option PV := runP 2 2 c_ring_value
theorem qp_ring_value : q_ring_value = p_ring_value := by
  unfold q_ring_value p_ring_value
  rw [cb_ring_value]
noncomputable def c_carries : SF := (sSeq (asgOF 3 (eLst aNil)) (sSeq (asgB (bTup 2 (bCons (bNmF 4) (bCons (bNmF 5) bNil))) (eTup (aCons (kE (.int 0)) (aCons (kE (.int 0)) aNil)))) (sSeq (whF (tOr' (tB' (bin pGt (nmF 0) (kE (.int 0)))) (tOr' (tB' (bin pGt (nmF 1) (kE (.int 0)))) (tB' (bin pGt (nmF 5) (kE (.int 0)))))) (sSeq (asgF 5 (eIf (tB' (bin pGe (bin pAdd (bin pAdd (bin pMod (nmF 0) (nmF 2)) (bin pMod (nmF 1) (nmF 2))) (nmF 5)) (nmF 2))) (kE (.int 1)) (kE (.int 0)))) (sSeq (sIf (tB' (bin pEq (nmF 5) (kE (.int 1)))) (sExpr (appendF 3 (nmF 4))) sSkip) (sSeq (asg2F 0 1 (aCons (bin pDiv (nmF 0) (nmF 2)) (aCons (bin pDiv (nmF 1) (nmF 2)) aNil))) (augF 4 pAddI (kE (.int 1)))))) 2000) (sRet (nmF 3)))))
theorem cb_carries : c_carries = b_carries := by
  simp only [c_carries, setVF_eq, nmF_eq, asgF_eq, asgOF_eq, bNmF_eq, asg2F_eq, augF_eq, contF_eq, pLenF_eq, pIxF_eq, ixNPF_eq, lenNF_eq, mineF_eq, putMF_eq, isLF_eq, appendF_eq, pop0F_eq, popAtF_eq, extendF_eq, setIxF_eq, augIxF_eq, callIOF_eq, wipeEF_eq, ioFF_eq, putIxF_eq, dIxF_eq, dInF_eq, coFF_eq, coF2F_eq, eLcF_eq, eLc2F_eq]
  rfl
noncomputable def q_carries : List PV → Option PV := runP 6 3 c_carries
theorem qp_carries : q_carries = p_carries := by
  unfold q_carries p_carries
  rw [cb_carries]
noncomputable def c_often_in_choices : SF := (sRet (callF pLenF (aCons (callF q_carries (aCons (nmF 1) (aCons (bin pSub (nmF 0) (nmF 1)) (aCons (nmF 2) aNil)))) aNil)))
theorem cb_often_in_choices : c_often_in_choices = b_often_in_choices := by
  simp only [c_often_in_choices, setVF_eq, nmF_eq, asgF_eq, asgOF_eq, bNmF_eq, asg2F_eq, augF_eq, contF_eq, pLenF_eq, pIxF_eq, ixNPF_eq, lenNF_eq, mineF_eq, putMF_eq, isLF_eq, appendF_eq, pop0F_eq, popAtF_eq, extendF_eq, setIxF_eq, augIxF_eq, callIOF_eq, wipeEF_eq, ioFF_eq, putIxF_eq, dIxF_eq, dInF_eq, coFF_eq, coF2F_eq, eLcF_eq, eLc2F_eq, qp_carries]
  rfl
noncomputable def q_often_in_choices : List PV → Option PV := runP 3 3 c_often_in_choices
theorem qp_often_in_choices : q_often_in_choices = p_often_in_choices := by
  unfold q_often_in_choices p_often_in_choices
  rw [cb_often_in_choices]
noncomputable def c_choices_of : SF := (sSeq (asgF 2 (kE (.int 1))) (sSeq (sFor (wRng1 (nmF 1)) (bNmF 3) (asgF 2 (bin pDiv (bin pMul (nmF 2) (bin pSub (nmF 0) (nmF 3))) (bin pAdd (nmF 3) (kE (.int 1)))))) (sRet (nmF 2))))
theorem cb_choices_of : c_choices_of = b_choices_of := by
  simp only [c_choices_of, setVF_eq, nmF_eq, asgF_eq, asgOF_eq, bNmF_eq, asg2F_eq, augF_eq, contF_eq, pLenF_eq, pIxF_eq, ixNPF_eq, lenNF_eq, mineF_eq, putMF_eq, isLF_eq, appendF_eq, pop0F_eq, popAtF_eq, extendF_eq, setIxF_eq, augIxF_eq, callIOF_eq, wipeEF_eq, ioFF_eq, putIxF_eq, dIxF_eq, dInF_eq, coFF_eq, coF2F_eq, eLcF_eq, eLc2F_eq]
  rfl
noncomputable def q_choices_of : List PV → Option PV := runP 4 2 c_choices_of
theorem qp_choices_of : q_choices_of = p_choices_of := by
  unfold q_choices_of p_choices_of
  rw [cb_choices_of]
noncomputable def c_choices_rest : SF := (sSeq (asgF 3 (kE (.int 1))) (sSeq (whF (tOr' (tB' (bin pGt (nmF 0) (kE (.int 0)))) (tB' (bin pGt (nmF 1) (kE (.int 0))))) (sSeq (sIf (tB' (bin pGt (bin pMod (nmF 1) (nmF 2)) (bin pMod (nmF 0) (nmF 2)))) (sRet (kE (.int 0))) sSkip) (sSeq (asgF 3 (bin pMod (bin pMul (nmF 3) (callF q_choices_of (aCons (bin pMod (nmF 0) (nmF 2)) (aCons (bin pMod (nmF 1) (nmF 2)) aNil)))) (nmF 2))) (asg2F 0 1 (aCons (bin pDiv (nmF 0) (nmF 2)) (aCons (bin pDiv (nmF 1) (nmF 2)) aNil))))) 2000) (sRet (bin pMod (nmF 3) (nmF 2)))))
theorem cb_choices_rest : c_choices_rest = b_choices_rest := by
  simp only [c_choices_rest, setVF_eq, nmF_eq, asgF_eq, asgOF_eq, bNmF_eq, asg2F_eq, augF_eq, contF_eq, pLenF_eq, pIxF_eq, ixNPF_eq, lenNF_eq, mineF_eq, putMF_eq, isLF_eq, appendF_eq, pop0F_eq, popAtF_eq, extendF_eq, setIxF_eq, augIxF_eq, callIOF_eq, wipeEF_eq, ioFF_eq, putIxF_eq, dIxF_eq, dInF_eq, coFF_eq, coF2F_eq, eLcF_eq, eLc2F_eq, qp_choices_of]
  rfl
noncomputable def q_choices_rest : List PV → Option PV := runP 4 3 c_choices_rest
theorem qp_choices_rest : q_choices_rest = p_choices_rest := by
  unfold q_choices_rest p_choices_rest
  rw [cb_choices_rest]
noncomputable def c_is_integer : SF := (sRet (vAn (eIsi "int" (nmF 0)) (vNt (eIsi "bool" (nmF 0)))))
theorem cb_is_integer : c_is_integer = b_is_integer := by
  simp only [c_is_integer, setVF_eq, nmF_eq, asgF_eq, asgOF_eq, bNmF_eq, asg2F_eq, augF_eq, contF_eq, pLenF_eq, pIxF_eq, ixNPF_eq, lenNF_eq, mineF_eq, putMF_eq, isLF_eq, appendF_eq, pop0F_eq, popAtF_eq, extendF_eq, setIxF_eq, augIxF_eq, callIOF_eq, wipeEF_eq, ioFF_eq, putIxF_eq, dIxF_eq, dInF_eq, coFF_eq, coF2F_eq, eLcF_eq, eLc2F_eq]
  rfl
noncomputable def q_is_integer : List PV → Option PV := runP 1 1 c_is_integer
theorem qp_is_integer : q_is_integer = p_is_integer := by
  unfold q_is_integer p_is_integer
  rw [cb_is_integer]
noncomputable def c_is_within : SF := (sRet (vAn (callF q_is_integer (aCons (nmF 0) aNil)) (chn pLe pLe (nmF 1) (nmF 0) (nmF 2))))
theorem cb_is_within : c_is_within = b_is_within := by
  simp only [c_is_within, setVF_eq, nmF_eq, asgF_eq, asgOF_eq, bNmF_eq, asg2F_eq, augF_eq, contF_eq, pLenF_eq, pIxF_eq, ixNPF_eq, lenNF_eq, mineF_eq, putMF_eq, isLF_eq, appendF_eq, pop0F_eq, popAtF_eq, extendF_eq, setIxF_eq, augIxF_eq, callIOF_eq, wipeEF_eq, ioFF_eq, putIxF_eq, dIxF_eq, dInF_eq, coFF_eq, coF2F_eq, eLcF_eq, eLc2F_eq, qp_is_integer]
  rfl
noncomputable def q_is_within : List PV → Option PV := runP 3 3 c_is_within
theorem qp_is_within : q_is_within = p_is_within := by
  unfold q_is_within p_is_within
  rw [cb_is_within]
noncomputable def c_is_worded : SF := (sSeq (sIf (tOr' (tNt (tTr (eIsi "tuple" (nmF 0)))) (tB' (bin pNe (lenNF 0) (nmF 2)))) (sRet (kE (.bool false))) sSkip) (sRet (vAn (eIsi "str" (ixNPF 0 (kE (.int 0)))) (bin pEq (ixNPF 0 (kE (.int 0))) (nmF 1)))))
theorem cb_is_worded : c_is_worded = b_is_worded := by
  simp only [c_is_worded, setVF_eq, nmF_eq, asgF_eq, asgOF_eq, bNmF_eq, asg2F_eq, augF_eq, contF_eq, pLenF_eq, pIxF_eq, ixNPF_eq, lenNF_eq, mineF_eq, putMF_eq, isLF_eq, appendF_eq, pop0F_eq, popAtF_eq, extendF_eq, setIxF_eq, augIxF_eq, callIOF_eq, wipeEF_eq, ioFF_eq, putIxF_eq, dIxF_eq, dInF_eq, coFF_eq, coF2F_eq, eLcF_eq, eLc2F_eq]
  rfl
noncomputable def q_is_worded : List PV → Option PV := runP 3 3 c_is_worded
theorem qp_is_worded : q_is_worded = p_is_worded := by
  unfold q_is_worded p_is_worded
  rw [cb_is_worded]
noncomputable def c_order : SF := (sSeq (asgF 2 (callF q_coprimes (aCons (nmF 1) aNil))) (sSeq (sFor (wSeq (callF q_parts_of (aCons (nmF 2) aNil))) (bTup 2 (bCons (bNmF 3) (bCons (bNmF 4) bNil))) (whF (tAn (tB' (bin pEq (bin pMod (nmF 2) (nmF 3)) (kE (.int 0)))) (tB' (bin pEq (callF q_power_rest (aCons (nmF 0) (aCons (bin pDiv (nmF 2) (nmF 3)) (aCons (nmF 1) aNil)))) (bin pMod (kE (.int 1)) (nmF 1))))) (augF 2 pDiv (nmF 3)) 2000)) (sRet (nmF 2))))
theorem cb_order : c_order = b_order := by
  simp only [c_order, setVF_eq, nmF_eq, asgF_eq, asgOF_eq, bNmF_eq, asg2F_eq, augF_eq, contF_eq, pLenF_eq, pIxF_eq, ixNPF_eq, lenNF_eq, mineF_eq, putMF_eq, isLF_eq, appendF_eq, pop0F_eq, popAtF_eq, extendF_eq, setIxF_eq, augIxF_eq, callIOF_eq, wipeEF_eq, ioFF_eq, putIxF_eq, dIxF_eq, dInF_eq, coFF_eq, coF2F_eq, eLcF_eq, eLc2F_eq, qp_coprimes, qp_parts_of, qp_power_rest]
  rfl
noncomputable def q_order : List PV → Option PV := runP 5 2 c_order
theorem qp_order : q_order = p_order := by
  unfold q_order p_order
  rw [cb_order]
noncomputable def c_check_root : SF := (sSeq (sIf (tTr (callF q_is_worded (aCons (nmF 1) (aCons (kE (.str "root")) (aCons (kE (.int 2)) aNil))))) (sSeq (sIf (tOr' (tNt (tTr (callF q_is_within (aCons (ixNPF 1 (kE (.int 1))) (aCons (kE (.int 1)) (aCons (bin pSub (nmF 0) (kE (.int 1))) aNil)))))) (tB' (bin pNe (callF pGcd (aCons (ixNPF 1 (kE (.int 1))) (aCons (nmF 0) aNil))) (kE (.int 1))))) (sRet (kE (.bool false))) sSkip) (sRet (bin pEq (callF q_order (aCons (ixNPF 1 (kE (.int 1))) (aCons (nmF 0) aNil))) (callF q_coprimes (aCons (nmF 0) aNil))))) sSkip) (sRet (vAn (callF q_is_worded (aCons (nmF 1) (aCons (kE (.str "none")) (aCons (kE (.int 2)) aNil)))) (vAn (callF q_is_within (aCons (ixNPF 1 (kE (.int 1))) (aCons (kE (.int 2)) (aCons (bin pSub (nmF 0) (kE (.int 2))) aNil)))) (bin pEq (bin pMod (bin pMul (ixNPF 1 (kE (.int 1))) (ixNPF 1 (kE (.int 1)))) (nmF 0)) (kE (.int 1)))))))
theorem cb_check_root : c_check_root = b_check_root := by
  simp only [c_check_root, setVF_eq, nmF_eq, asgF_eq, asgOF_eq, bNmF_eq, asg2F_eq, augF_eq, contF_eq, pLenF_eq, pIxF_eq, ixNPF_eq, lenNF_eq, mineF_eq, putMF_eq, isLF_eq, appendF_eq, pop0F_eq, popAtF_eq, extendF_eq, setIxF_eq, augIxF_eq, callIOF_eq, wipeEF_eq, ioFF_eq, putIxF_eq, dIxF_eq, dInF_eq, coFF_eq, coF2F_eq, eLcF_eq, eLc2F_eq, qp_coprimes, qp_is_within, qp_is_worded, qp_order]
  rfl
noncomputable def q_check_root : List PV → Option PV := runP 2 2 c_check_root
theorem qp_check_root : q_check_root = p_check_root := by
  unfold q_check_root p_check_root
  rw [cb_check_root]
noncomputable def c__law_pool : SF := (sSeq (asgF 1 (kE (.int 7))) (sSeq (sFor (wSeq (eSl (nmF 0) oNo (oSo (kE (.int 63))))) (bNmF 2) (asgF 1 (bin pMod (callF pInt1 (aCons (bin pAdd (bin pMul (nmF 1) (kE (.int 31))) (nmF 2)) aNil)) (kE (.int 1000003))))) (sRetO (eLst (aCons (callF pList (aCons (nmF 0) aNil)) (aCons (kE (.int 0)) (aCons (kE (.int 0)) (aCons (kE (.int 0)) (aCons (nmF 1) aNil)))))))))
theorem cb__law_pool : c__law_pool = b__law_pool := by
  simp only [c__law_pool, setVF_eq, nmF_eq, asgF_eq, asgOF_eq, bNmF_eq, asg2F_eq, augF_eq, contF_eq, pLenF_eq, pIxF_eq, ixNPF_eq, lenNF_eq, mineF_eq, putMF_eq, isLF_eq, appendF_eq, pop0F_eq, popAtF_eq, extendF_eq, setIxF_eq, augIxF_eq, callIOF_eq, wipeEF_eq, ioFF_eq, putIxF_eq, dIxF_eq, dInF_eq, coFF_eq, coF2F_eq, eLcF_eq, eLc2F_eq]
  rfl
noncomputable def q__law_pool : List PV → Option PV := runN 3 1 c__law_pool
theorem qp__law_pool : q__law_pool = p__law_pool := by
  unfold q__law_pool p__law_pool
  rw [cb__law_pool]
noncomputable def c__law_spread : SF := (sSeq (asgF 1 (bin pMod (callF pInt1 (aCons (nmF 0) aNil)) (kE (.int 2147483647)))) (sSeq (asgF 2 (kE (.int 1))) (sSeq (sFor (wRng1 (kE (.int 4))) (bNmF 3) (sSeq (asgF 1 (bin pMod (callF pInt1 (aCons (bin pAdd (bin pAdd (bin pMul (nmF 1) (kE (.int 48271))) (kE (.int 12345))) (nmF 3)) aNil)) (kE (.int 2147483647)))) (asgF 2 (bin pAdd (bin pMul (nmF 2) (kE (.int 2147483647))) (nmF 1))))) (sRet (nmF 2)))))
theorem cb__law_spread : c__law_spread = b__law_spread := by
  simp only [c__law_spread, setVF_eq, nmF_eq, asgF_eq, asgOF_eq, bNmF_eq, asg2F_eq, augF_eq, contF_eq, pLenF_eq, pIxF_eq, ixNPF_eq, lenNF_eq, mineF_eq, putMF_eq, isLF_eq, appendF_eq, pop0F_eq, popAtF_eq, extendF_eq, setIxF_eq, augIxF_eq, callIOF_eq, wipeEF_eq, ioFF_eq, putIxF_eq, dIxF_eq, dInF_eq, coFF_eq, coF2F_eq, eLcF_eq, eLc2F_eq]
  rfl
noncomputable def q__law_spread : List PV → Option PV := runP 4 1 c__law_spread
theorem qp__law_spread : q__law_spread = p__law_spread := by
  unfold q__law_spread p__law_spread
  rw [cb__law_spread]
noncomputable def c__law_draw : SF := (sSeq (sIf (tAn (tB' (bin pLe (ixNPF 0 (kE (.int 2))) (kE (.int 0)))) (tB' (bin pLt (ixNPF 0 (kE (.int 1))) (callF pLenF (aCons (ixNPF 0 (kE (.int 0))) aNil))))) (sSeq (asgF 3 (bin pIxF (ixNPF 0 (kE (.int 0))) (ixNPF 0 (kE (.int 1))))) (sSeq (setIxF 0 (kE (.int 1)) (bin pAdd (ixNPF 0 (kE (.int 1))) (kE (.int 1)))) (sSeq (setIxF 0 (kE (.int 2)) (nmF 3)) (sIf (tB' (bin pLt (nmF 3) (kE (.int 1000000000000000000)))) (setIxF 0 (kE (.int 2)) (callF q__law_spread (aCons (nmF 3) aNil))) sSkip)))) sSkip) (sSeq (setIxF 0 (kE (.int 3)) (bin pAdd (ixNPF 0 (kE (.int 3))) (kE (.int 1)))) (sSeq (sIf (tB' (bin pLe (ixNPF 0 (kE (.int 2))) (kE (.int 0)))) (sSeq (asgF 4 (bin pMod (callF pInt1 (aCons (bin pAdd (bin pAdd (bin pMul (ixNPF 0 (kE (.int 4))) (kE (.int 48271))) (bin pMul (ixNPF 0 (kE (.int 3))) (kE (.int 69621)))) (kE (.int 1))) aNil)) (kE (.int 2147483647)))) (sSeq (asgF 4 (bin pMod (callF pInt1 (aCons (bin pAdd (bin pMul (nmF 4) (kE (.int 16807))) (ixNPF 0 (kE (.int 3)))) aNil)) (kE (.int 2147483629)))) (sRet (bin pMod (bin pDiv (nmF 4) (kE (.int 5))) (nmF 1))))) sSkip) (sSeq (asgF 2 (bin pMod (callF pInt1 (aCons (ixNPF 0 (kE (.int 2))) aNil)) (nmF 1))) (sSeq (setIxF 0 (kE (.int 2)) (bin pDiv (ixNPF 0 (kE (.int 2))) (nmF 1))) (sRet (nmF 2)))))))
theorem cb__law_draw : c__law_draw = b__law_draw := by
  simp only [c__law_draw, setVF_eq, nmF_eq, asgF_eq, asgOF_eq, bNmF_eq, asg2F_eq, augF_eq, contF_eq, pLenF_eq, pIxF_eq, ixNPF_eq, lenNF_eq, mineF_eq, putMF_eq, isLF_eq, appendF_eq, pop0F_eq, popAtF_eq, extendF_eq, setIxF_eq, augIxF_eq, callIOF_eq, wipeEF_eq, ioFF_eq, putIxF_eq, dIxF_eq, dInF_eq, coFF_eq, coF2F_eq, eLcF_eq, eLc2F_eq, qp__law_spread]
  rfl
noncomputable def q__law_draw : PV → List PV → Option (PV × PV) := runIO 5 2 c__law_draw
theorem qp__law_draw : q__law_draw = p__law_draw := by
  unfold q__law_draw p__law_draw
  rw [cb__law_draw]
noncomputable def c__law_power : SF := (sSeq (asgF 2 (kE (.int 1))) (sSeq (sFor (wRng1 (nmF 1)) (bNmF 3) (asgF 2 (bin pMul (nmF 2) (nmF 0)))) (sRet (nmF 2))))
theorem cb__law_power : c__law_power = b__law_power := by
  simp only [c__law_power, setVF_eq, nmF_eq, asgF_eq, asgOF_eq, bNmF_eq, asg2F_eq, augF_eq, contF_eq, pLenF_eq, pIxF_eq, ixNPF_eq, lenNF_eq, mineF_eq, putMF_eq, isLF_eq, appendF_eq, pop0F_eq, popAtF_eq, extendF_eq, setIxF_eq, augIxF_eq, callIOF_eq, wipeEF_eq, ioFF_eq, putIxF_eq, dIxF_eq, dInF_eq, coFF_eq, coF2F_eq, eLcF_eq, eLc2F_eq]
  rfl
noncomputable def q__law_power : List PV → Option PV := runP 4 2 c__law_power
theorem qp__law_power : q__law_power = p__law_power := by
  unfold q__law_power p__law_power
  rw [cb__law_power]
noncomputable def c__law_often : SF := (sSeq (asgF 2 (kE (.int 0))) (sSeq (sFor (wRng1 (kE (.int 400))) (bNmF 3) (sIf (tB' (bin pEq (bin pMod (nmF 0) (nmF 1)) (kE (.int 0)))) (sSeq (asgF 0 (bin pDiv (nmF 0) (nmF 1))) (asgF 2 (bin pAdd (nmF 2) (kE (.int 1))))) sSkip)) (sRet (nmF 2))))
theorem cb__law_often : c__law_often = b__law_often := by
  simp only [c__law_often, setVF_eq, nmF_eq, asgF_eq, asgOF_eq, bNmF_eq, asg2F_eq, augF_eq, contF_eq, pLenF_eq, pIxF_eq, ixNPF_eq, lenNF_eq, mineF_eq, putMF_eq, isLF_eq, appendF_eq, pop0F_eq, popAtF_eq, extendF_eq, setIxF_eq, augIxF_eq, callIOF_eq, wipeEF_eq, ioFF_eq, putIxF_eq, dIxF_eq, dInF_eq, coFF_eq, coF2F_eq, eLcF_eq, eLc2F_eq]
  rfl
noncomputable def q__law_often : List PV → Option PV := runP 4 2 c__law_often
theorem qp__law_often : q__law_often = p__law_often := by
  unfold q__law_often p__law_often
  rw [cb__law_often]
noncomputable def c_law : SF := (sSeq (asgOF 1 (callF q__law_pool (aCons (nmF 0) aNil))) (sSeq (asgF 2 (bin pIxF (eTup (aCons (kE (.int 3)) (aCons (kE (.int 5)) (aCons (kE (.int 7)) (aCons (kE (.int 11)) (aCons (kE (.int 13)) (aCons (kE (.int 17)) (aCons (kE (.int 23)) (aCons (kE (.int 31)) (aCons (kE (.int 41)) aNil)))))))))) (callIOF 1 q__law_draw (aCons (kE (.int 9)) aNil)))) (sSeq (asgF 3 (callF q_ring_part (aCons (bin pSub (nmF 2) (kE (.int 1))) aNil))) (sSeq (asgOF 4 (eLcF [8] (wRng2 (kE (.int 1)) (nmF 2)) (bNmF 8) (tB' (bin pEq (bin pMod (callF q_value_of (aCons (nmF 3) (aCons (nmF 8) aNil))) (nmF 2)) (kE (.int 0)))) (nmF 8))) (sSeq (sIf (tOr' (tB' (bin pNe (lenNF 4) (callF q_coprimes (aCons (bin pSub (nmF 2) (kE (.int 1))) aNil)))) (tB' (bin pNe (nmF 4) (eLcF [8] (wRng2 (kE (.int 1)) (nmF 2)) (bNmF 8) (tTr (callF q_check_root (aCons (nmF 2) (aCons (eTup (aCons (kE (.str "root")) (aCons (nmF 8) aNil))) aNil)))) (nmF 8))))) (sRet (kE (.bool false))) sSkip) (sSeq (asgF 5 (callIOF 1 q__law_draw (aCons (kE (.int 40)) aNil))) (sSeq (asgF 6 (eTup (aCons (kE (.int 1)) aNil))) (sSeq (sFor (wRng1 (nmF 5)) (bNmF 7) (asgF 6 (callF q_multiplied (aCons (nmF 6) (aCons (eTup (aCons (kE (.int 1)) (aCons (kE (.int 1)) aNil))) aNil))))) (sSeq (sFor (wRng1 (bin pAdd (nmF 5) (kE (.int 1)))) (bNmF 7) (sIf (tOr' (tB' (bin pNe (bin pMod (ixNPF 6 (nmF 7)) (nmF 2)) (callF q_choices_rest (aCons (nmF 5) (aCons (nmF 7) (aCons (nmF 2) aNil)))))) (tB' (bin pNe (callF q__law_often (aCons (ixNPF 6 (nmF 7)) (aCons (nmF 2) aNil))) (callF q_often_in_choices (aCons (nmF 5) (aCons (nmF 7) (aCons (nmF 2) aNil))))))) (sRet (kE (.bool false))) sSkip)) (sSeq (asg2F 5 8 (aCons (bin pAdd (kE (.int 1)) (callIOF 1 q__law_draw (aCons (kE (.int 14)) aNil))) (aCons (bin pAdd (kE (.int 2)) (callIOF 1 q__law_draw (aCons (kE (.int 3)) aNil))) aNil))) (sSeq (asgF 9 (kE (.int 1))) (sSeq (sFor (wSeq (callF q_divisors_of (aCons (nmF 5) aNil))) (bNmF 10) (asgF 9 (bin pMul (nmF 9) (callF q_ring_value (aCons (nmF 10) (aCons (nmF 8) aNil)))))) (sSeq (sIf (tB' (bin pNe (nmF 9) (bin pSub (callF q__law_power (aCons (nmF 8) (aCons (nmF 5) aNil))) (kE (.int 1))))) (sRet (kE (.bool false))) sSkip) (sSeq (sIf (tAn (tB' (bin pGt (nmF 9) (kE (.int 1)))) (tB' (bin pLt (nmF 9) (bin pPow (kE (.int 10)) (kE (.int 6)))))) (sFor (wSeq (callF q_parts_of (aCons (nmF 9) aNil))) (bTup 2 (bCons (bNmF 11) (bCons (bNmF 12) bNil))) (sIf (tB' (bin pNe (bin pMod (nmF 5) (callF q_order (aCons (nmF 8) (aCons (nmF 11) aNil)))) (kE (.int 0)))) (sRet (kE (.bool false))) sSkip)) sSkip) (sRet (kE (.bool true)))))))))))))))))
theorem cb_law : c_law = b_law := by
  simp only [c_law, setVF_eq, nmF_eq, asgF_eq, asgOF_eq, bNmF_eq, asg2F_eq, augF_eq, contF_eq, pLenF_eq, pIxF_eq, ixNPF_eq, lenNF_eq, mineF_eq, putMF_eq, isLF_eq, appendF_eq, pop0F_eq, popAtF_eq, extendF_eq, setIxF_eq, augIxF_eq, callIOF_eq, wipeEF_eq, ioFF_eq, putIxF_eq, dIxF_eq, dInF_eq, coFF_eq, coF2F_eq, eLcF_eq, eLc2F_eq, qp__law_draw, qp__law_often, qp__law_pool, qp__law_power, qp_check_root, qp_choices_rest, qp_coprimes, qp_divisors_of, qp_multiplied, qp_often_in_choices, qp_order, qp_parts_of, qp_ring_part, qp_ring_value, qp_value_of]
  rfl
noncomputable def q_law : List PV → Option PV := runP 13 1 c_law
theorem qp_law : q_law = p_law := by
  unfold q_law p_law
  rw [cb_law]
end Fx

namespace Fx
open PySem PySem.Spec L2
open PyProof.Rows hiding St
def mkP (cells : List Int) (i : Nat) (cur : Int) (cnt : Nat) (salt : Int) : PV := .list [.list (cells.map .int), .int i, .int cur, .int cnt, .int salt]
def dS1 : SF := (sIf (tAn (tB' (bin pLe (ixN' 0 (kE (.int 2))) (kE (.int 0)))) (tB' (bin pLt (ixN' 0 (kE (.int 1))) (callF pLen (aCons (ixN' 0 (kE (.int 0))) aNil))))) (sSeq (asg 3 (bin pIx (ixN' 0 (kE (.int 0))) (ixN' 0 (kE (.int 1))))) (sSeq (setIx 0 (kE (.int 1)) (bin pAdd (ixN' 0 (kE (.int 1))) (kE (.int 1)))) (sSeq (setIx 0 (kE (.int 2)) (nm 3)) (sIf (tB' (bin pLt (nm 3) (kE (.int 1000000000000000000)))) (setIx 0 (kE (.int 2)) (callF p__law_spread (aCons (nm 3) aNil))) sSkip)))) sSkip)
theorem at5_0 {a b c d e : PV} : pIx (.list [a, b, c, d, e]) (.int 0) = some a := rfl
theorem at5_1 {a b c d e : PV} : pIx (.list [a, b, c, d, e]) (.int 1) = some b := rfl
theorem at5_2 {a b c d e : PV} : pIx (.list [a, b, c, d, e]) (.int 2) = some c := rfl
theorem at5_3 {a b c d e : PV} : pIx (.list [a, b, c, d, e]) (.int 3) = some d := rfl
theorem at5_4 {a b c d e : PV} : pIx (.list [a, b, c, d, e]) (.int 4) = some e := rfl
theorem ix5_1 : ixN 5 1 = some 1 := rfl
theorem ix5_2 : ixN 5 2 = some 2 := rfl
theorem ix5_3 : ixN 5 3 = some 3 := rfl
theorem pAdd_int {i j : Int} : pAdd (.int i) (.int j) = some (.int (i + j)) := rfl
theorem pLe_int {i j : Int} : pLe (.int i) (.int j) = some (.bool (decide (i ≤ j))) := rfl
theorem pLt_int {i j : Int} : pLt (.int i) (.int j) = some (.bool (decide (i < j))) := rfl
theorem fits_of {a b : Int} (ha : a.natAbs < 2 ^ 4000) (hb : b.natAbs < 2 ^ 4000) : fits a b = true := by
  unfold fits
  have h1 : a.natAbs.log2 ≤ 4000 := by
    by_cases h : a.natAbs = 0
    · rw [h]; decide
    · exact Nat.le_of_lt ((Nat.log2_lt h).mpr ha)
  have h2 : b.natAbs.log2 ≤ 4000 := by
    by_cases h : b.natAbs = 0
    · rw [h]; decide
    · exact Nat.le_of_lt ((Nat.log2_lt h).mpr hb)
  exact decide_eq_true (by omega)

theorem pMul_int {i j : Int} (h : fits i j = true) : pMul (.int i) (.int j) = some (.int (i * j)) := by
  show (if fits i j = true then _ else _) = _
  rw [if_pos h]
theorem pMod_int {i j : Int} (h : j ≠ 0) : pMod (.int i) (.int j) = some (.int (i.fmod j)) := by
  show (if j ≠ 0 then _ else _) = _
  rw [if_pos h]
theorem pDiv_int {i j : Int} (h : j ≠ 0) (h2 : j.natAbs.log2 < 9000) : pDiv (.int i) (.int j) = some (.int (i.fdiv j)) := by
  show (if j ≠ 0 ∧ j.natAbs.log2 < 9000 then _ else _) = _
  rw [if_pos ⟨h, h2⟩]
theorem fmod_lo {i j : Int} (h : 0 < j) : 0 ≤ i.fmod j := Int.fmod_nonneg_of_pos _ h
theorem fmod_hi {i j : Int} (h : 0 < j) : i.fmod j < j := Int.fmod_lt_of_pos _ h
theorem abs_lt {i : Int} {n : Nat} (h0 : 0 ≤ i) (h : i < (2 : Int) ^ n) (hn : n ≤ 4000 := by decide) : i.natAbs < 2 ^ 4000 := by
  have : (i.natAbs : Int) < ((2 ^ n : Nat) : Int) := by
    rw [Int.natAbs_of_nonneg h0]; exact_mod_cast h
  have h2 : i.natAbs < 2 ^ n := by exact_mod_cast this
  exact Nat.lt_of_lt_of_le h2 (Nat.pow_le_pow_right (by decide) hn)
def spB : SF := (sSeq (asg 1 (bin pMod (callF pInt1 (aCons (bin pAdd (bin pAdd (bin pMul (nm 1) (kE (.int 48271))) (kE (.int 12345))) (nm 3)) aNil)) (kE (.int 2147483647)))) (asg 2 (bin pAdd (bin pMul (nm 2) (kE (.int 2147483647))) (nm 1))))
theorem spB_ok (c : Sl) (b s k : Int) (hb0 : 0 ≤ b) (hb : b < 2147483647) (hs0 : 0 ≤ s) (n : Nat) (hs : s < 2 ^ n) (hn : n ≤ 4000) : ∃ b' s', spB [c, .va (.int b), .va (.int s), .va (.int k)] = some (.nx [c, .va (.int b'), .va (.int s'), .va (.int k)]) ∧ 0 ≤ b' ∧ b' < 2147483647 ∧ 0 ≤ s' ∧ s' < 2 ^ (n + 32) := by
  have f1 : fits b 48271 = true := fits_of (abs_lt (n := 31) hb0 (by omega)) (by decide)
  have f2 : fits s 2147483647 = true := fits_of (abs_lt hs0 hs hn) (by decide)
  refine ⟨(b * 48271 + 12345 + k).fmod 2147483647, s * 2147483647 + (b * 48271 + 12345 + k).fmod 2147483647, ?_, fmod_lo (by decide), fmod_hi (by decide), ?_, ?_⟩
  · simp only [spB, sSeq, asg, bin, callF, aCons, aNil, nm, kE, List.getElem?_cons_succ, List.getElem?_cons_zero, pMul_int f1, pAdd_int, pInt1, pMod_int (show (2147483647 : Int) ≠ 0 by decide), setV, List.set_cons_succ, List.set_cons_zero, pMul_int f2]
  · have := fmod_lo (i := b * 48271 + 12345 + k) (show (0 : Int) < 2147483647 by decide)
    omega
  · have := fmod_hi (i := b * 48271 + 12345 + k) (show (0 : Int) < 2147483647 by decide)
    have e : (2 : Int) ^ (n + 32) = 2 ^ n * 4294967296 := by rw [Int.pow_add]; rfl
    rw [e]; omega
theorem spread_ok (c : Int) : ∃ s, p__law_spread [.int c] = some (.int s) := by
  have h0 := fmod_lo (i := c) (show (0 : Int) < 2147483647 by decide)
  have h1 := fmod_hi (i := c) (show (0 : Int) < 2147483647 by decide)
  obtain ⟨b1, s1, e1, p1, q1, u1, v1⟩ := spB_ok (.va (.int c)) _ 1 0 h0 h1 (by decide) 1 (by decide) (by decide)
  obtain ⟨b2, s2, e2, p2, q2, u2, v2⟩ := spB_ok (.va (.int c)) _ s1 1 p1 q1 u1 _ v1 (by decide)
  obtain ⟨b3, s3, e3, p3, q3, u3, v3⟩ := spB_ok (.va (.int c)) _ s2 2 p2 q2 u2 _ v2 (by decide)
  obtain ⟨b4, s4, e4, p4, q4, u4, v4⟩ := spB_ok (.va (.int c)) _ s3 3 p3 q3 u3 _ v3 (by decide)
  refine ⟨s4, ?_⟩
  have eb : b__law_spread = sSeq (asg 1 (bin pMod (callF pInt1 (aCons (nm 0) aNil)) (kE (.int 2147483647)))) (sSeq (asg 2 (kE (.int 1))) (sSeq (sFor (wRng1 (kE (.int 4))) (bNm 3) spB) (sRet (nm 2)))) := rfl
  have hr : rngL 0 4 = [.int 0, .int 1, .int 2, .int 3] := rfl
  have n1 : (2147483647 : Int) ≠ 0 := by decide
  simp [p__law_spread, runP, eb, start0, sSeq, asg, bin, callF, aCons, aNil, nm, kE, pInt1, pMod_int n1, setV, sFor, wRng1, hr, foF, bNm, e1, e2, e3, e4, sRet, List.replicate]
theorem map_get {cells : List Int} {i : Nat} (h : i < cells.length) : ∃ c, pIx (.list (cells.map .int)) (.int i) = some (.int c) := by
  refine ⟨cells[i], ?_⟩
  show atI _ _ = _
  unfold atI ixN
  simp [h]
theorem dS1_ok (cells : List Int) (i : Nat) (cur : Int) (cnt : Nat) (salt : Int) (m : Sl) : ∃ i' cur' s3, (s3 = .no ∨ ∃ d, s3 = .va d) ∧ dS1 [.io (mkP cells i cur cnt salt), m, .no, .no, .no] = some (.nx [.io (mkP cells i' cur' cnt salt), m, .no, s3, .no]) := by
  by_cases h1 : cur ≤ 0
  · by_cases h2 : i < cells.length
    · obtain ⟨c, hc⟩ := map_get h2
      obtain ⟨s, hs⟩ := spread_ok c
      by_cases h3 : c < 1000000000000000000
      · refine ⟨i + 1, s, .va (.int c), .inr ⟨_, rfl⟩, ?_⟩
        simp [dS1, mkP, sIf, tAn, tB', bin, ixN', Fx.cont, kE, at5_0, at5_1, at5_2, pLe_int, pLt_int, h1, h2, h3, callF, aCons, aNil, pLen, sSeq, asg, setV, hc, setIx, isL, Fx.mine, pAdd_int, ix5_1, ix5_2, putM, nm, hs]
      · refine ⟨i + 1, c, .va (.int c), .inr ⟨_, rfl⟩, ?_⟩
        simp [dS1, mkP, sIf, tAn, tB', bin, ixN', Fx.cont, kE, at5_0, at5_1, at5_2, pLe_int, pLt_int, h1, h2, h3, callF, aCons, aNil, pLen, sSeq, asg, setV, hc, setIx, isL, Fx.mine, pAdd_int, ix5_1, ix5_2, putM, nm, hs, sSkip]
    · refine ⟨i, cur, .no, .inl rfl, ?_⟩
      simp [dS1, mkP, sIf, tAn, tB', bin, ixN', Fx.cont, kE, at5_0, at5_1, at5_2, pLe_int, pLt_int, h1, h2, callF, aCons, aNil, pLen, sSkip]
  · refine ⟨i, cur, .no, .inl rfl, ?_⟩
    simp [dS1, mkP, sIf, tAn, tB', bin, ixN', Fx.cont, kE, at5_0, at5_1, at5_2, pLe_int, pLt_int, h1, sSkip]
def PoolOk (c : Nat) (p : PV) : Prop := ∃ (cells : List Int) (i : Nat) (cur : Int) (cnt : Nat) (salt : Int), p = mkP cells i cur cnt salt ∧ cnt ≤ c ∧ 0 ≤ salt ∧ salt < 1000003
def dS2 : SF := (sSeq (setIx 0 (kE (.int 3)) (bin pAdd (ixN' 0 (kE (.int 3))) (kE (.int 1)))) (sSeq (sIf (tB' (bin pLe (ixN' 0 (kE (.int 2))) (kE (.int 0)))) (sSeq (asg 4 (bin pMod (callF pInt1 (aCons (bin pAdd (bin pAdd (bin pMul (ixN' 0 (kE (.int 4))) (kE (.int 48271))) (bin pMul (ixN' 0 (kE (.int 3))) (kE (.int 69621)))) (kE (.int 1))) aNil)) (kE (.int 2147483647)))) (sSeq (asg 4 (bin pMod (callF pInt1 (aCons (bin pAdd (bin pMul (nm 4) (kE (.int 16807))) (ixN' 0 (kE (.int 3)))) aNil)) (kE (.int 2147483629)))) (sRet (bin pMod (bin pDiv (nm 4) (kE (.int 5))) (nm 1))))) sSkip) (sSeq (asg 2 (bin pMod (callF pInt1 (aCons (ixN' 0 (kE (.int 2))) aNil)) (nm 1))) (sSeq (setIx 0 (kE (.int 2)) (bin pDiv (ixN' 0 (kE (.int 2))) (nm 1))) (sRet (nm 2))))))
theorem dS2_ok (cells : List Int) (i : Nat) (cur : Int) (cnt : Nat) (salt : Int) (m : Int) (s3 : Sl) (h3 : s3 = .no ∨ ∃ d, s3 = .va d) (hc : cnt < 100000) (hs0 : 0 ≤ salt) (hs : salt < 1000003) (hm : 0 < m) (hm2 : m.natAbs.log2 < 9000) : ∃ v p' r, dS2 [.io (mkP cells i cur cnt salt), .va (.int m), .no, s3, .no] = some (.rt (.int v) (.io p' :: r)) ∧ 0 ≤ v ∧ v < m ∧ PoolOk (cnt + 1) p' := by
  have f1 : fits salt 48271 = true := fits_of (abs_lt (n := 31) hs0 (by omega)) (by decide)
  have f2 : fits ((cnt : Int) + 1) 69621 = true := fits_of (abs_lt (n := 31) (by omega) (by omega)) (by decide)
  have hm' : m ≠ 0 := by omega
  have n1 : (2147483647 : Int) ≠ 0 := by decide
  have n2 : (2147483629 : Int) ≠ 0 := by decide
  have n3 : (5 : Int) ≠ 0 := by decide
  have n4 : (5 : Int).natAbs.log2 < 9000 := by decide
  by_cases h1 : cur ≤ 0
  · generalize hb : (salt * 48271 + ((cnt : Int) + 1) * 69621 + 1).fmod 2147483647 = b
    have b0 : 0 ≤ b := hb ▸ fmod_lo (by decide)
    have b1 : b < 2147483647 := hb ▸ fmod_hi (by decide)
    have f3 : fits b 16807 = true := fits_of (abs_lt (n := 31) b0 (by omega)) (by decide)
    refine ⟨(((b * 16807 + ((cnt : Int) + 1)).fmod 2147483629).fdiv 5).fmod m, mkP cells i cur (cnt + 1) salt, [.va (.int m), .no, s3, .va (.int ((b * 16807 + ((cnt : Int) + 1)).fmod 2147483629))], ?_, fmod_lo hm, fmod_hi hm, ⟨cells, i, cur, cnt + 1, salt, rfl, Nat.le_refl _, hs0, hs⟩⟩
    simp [dS2, mkP, sIf, tB', bin, ixN', Fx.cont, kE, at5_2, at5_3, at5_4, pLe_int, h1, callF, aCons, aNil, sSeq, asg, setV, setIx, isL, Fx.mine, pAdd_int, ix5_3, putM, nm, pMul_int f1, pMul_int f2, pMod_int n1, pMod_int n2, pInt1, hb, pMul_int f3, sRet, pDiv_int n3 n4, pMod_int hm']
  · refine ⟨cur.fmod m, mkP cells i (cur.fdiv m) (cnt + 1) salt, [.va (.int m), .va (.int (cur.fmod m)), s3, .no], ?_, fmod_lo hm, fmod_hi hm, ⟨cells, i, _, cnt + 1, salt, rfl, Nat.le_refl _, hs0, hs⟩⟩
    simp [dS2, mkP, sIf, tB', bin, ixN', Fx.cont, kE, at5_2, at5_3, at5_4, pLe_int, h1, callF, aCons, aNil, sSeq, asg, setV, setIx, isL, Fx.mine, pAdd_int, ix5_2, ix5_3, putM, nm, pInt1, sRet, pDiv_int hm' hm2, pMod_int hm', sSkip]
theorem PoolOk.mono {c c' : Nat} {p : PV} (h : PoolOk c p) (hc : c ≤ c') : PoolOk c' p := by
  obtain ⟨cells, i, cur, cnt, salt, e, h1, h2⟩ := h
  exact ⟨cells, i, cur, cnt, salt, e, Nat.le_trans h1 hc, h2⟩
theorem draw_ok {c : Nat} {p : PV} {m : Int} (hp : PoolOk c p) (hc : c < 100000) (hm : 0 < m) (hm2 : m.natAbs.log2 < 9000) : ∃ v p', p__law_draw p [.int m] = some (p', .int v) ∧ 0 ≤ v ∧ v < m ∧ PoolOk (c + 1) p' := by
  obtain ⟨cells, i, cur, cnt, salt, rfl, h1, h2, h3⟩ := hp
  have eb : b__law_draw = sSeq dS1 dS2 := rfl
  obtain ⟨i', cur', s3, hs3, e⟩ := dS1_ok cells i cur cnt salt (.va (.int m))
  obtain ⟨v, p', r, e2, a, b, q⟩ := dS2_ok cells i' cur' cnt salt m s3 hs3 (by omega) h2 h3 hm hm2
  refine ⟨v, p', ?_, a, b, q.mono (by omega)⟩
  simp [p__law_draw, runIO, start1, start0, List.replicate, eb, sSeq, e, e2]
theorem poolB_ok (sc : Sl) (s c : Int) (h0 : 0 ≤ s) (h : s < 1000003) : ∃ s', (asg 1 (bin pMod (callF pInt1 (aCons (bin pAdd (bin pMul (nm 1) (kE (.int 31))) (nm 2)) aNil)) (kE (.int 1000003)))) [sc, .va (.int s), .va (.int c)] = some (.nx [sc, .va (.int s'), .va (.int c)]) ∧ 0 ≤ s' ∧ s' < 1000003 := by
  have f1 : fits s 31 = true := fits_of (abs_lt (n := 31) h0 (by omega)) (by decide)
  have n1 : (1000003 : Int) ≠ 0 := by decide
  refine ⟨(s * 31 + c).fmod 1000003, ?_, fmod_lo (by decide), fmod_hi (by decide)⟩
  simp [asg, bin, callF, aCons, aNil, nm, kE, pMul_int f1, pAdd_int, pInt1, pMod_int n1, setV]
theorem poolL_ok (sc : Sl) (b : SF) (hb : ∀ s c : Int, 0 ≤ s → s < 1000003 → ∃ s', b [sc, .va (.int s), .va (.int c)] = some (.nx [sc, .va (.int s'), .va (.int c)]) ∧ 0 ≤ s' ∧ s' < 1000003) : ∀ (cs : List Int) (s : Int) (l : Sl), (l = .no ∨ ∃ d, l = .va d) → 0 ≤ s → s < 1000003 → ∃ s' l', foF (bNm 2) b (cs.map .int) [sc, .va (.int s), l] = some (.nx [sc, .va (.int s'), l']) ∧ 0 ≤ s' ∧ s' < 1000003
  | [], s, l, hl, h0, h => ⟨s, l, rfl, h0, h⟩
  | c :: cs, s, l, hl, h0, h => by
    obtain ⟨s1, e1, p1, q1⟩ := hb s c h0 h
    obtain ⟨s2, l2, e2, p2, q2⟩ := poolL_ok sc b hb cs s1 (.va (.int c)) (.inr ⟨_, rfl⟩) p1 q1
    refine ⟨s2, l2, ?_, p2, q2⟩
    rcases hl with rfl | ⟨d, rfl⟩ <;> simp [foF, bNm, setV, e1, e2]
theorem cut_map (ns : List Int) (lo hi : Option Int) : ∃ cs : List Int, cutD (ns.map .int) lo hi = cs.map .int := by
  unfold cutD
  rw [← List.map_drop, ← List.map_take]
  exact ⟨_, rfl⟩
theorem pool_ok (ns : List Int) : ∃ p, p__law_pool [scrD ns] = some p ∧ PoolOk 0 p := by
  obtain ⟨cs, e2⟩ := cut_map ns none (some 63)
  obtain ⟨s, l, e, h0, h1⟩ := poolL_ok (.va (scrD ns)) _ (fun s c a b => poolB_ok (.va (scrD ns)) s c a b) cs 7 .no (.inl rfl) (by decide) (by decide)
  refine ⟨mkP ns 0 0 0 s, ?_, ⟨ns, 0, 0, 0, s, rfl, Nat.le_refl _, h0, h1⟩⟩
  have e3 : pList [scrD ns] = some (.list (ns.map .int)) := rfl
  have e4 : (5 : Nat) ≤ sizeLine := by decide
  have e5 : pSl (scrD ns) none (some 63) = some (.list (cs.map .int)) := congrArg (fun z => some (PyData.list z)) e2
  simp [p__law_pool, runN, start0, List.replicate, b__law_pool, sSeq, asg, kE, setV, sFor, wSeq, eSl, nm, oNo, oSo, e5, items, e, sRetO, eLst, aCons, aNil, callF, e3, e4, mkP]
end Fx

namespace Fx
open PySem PySem.Spec L2
open PyProof.Rows hiding St
/-- a draw out of the pool at slot 1 -/
theorem drawE {c : Nat} {p : PV} {m : Int} (hp : PoolOk c p) (hc : c < 100000 := by decide) (hm : 0 < m := by decide) (hm2 : m.natAbs.log2 < 9000 := by decide) : ∃ v p', 0 ≤ v ∧ v < m ∧ PoolOk (c + 1) p' ∧ ∀ (s : Sl) (r : Ev), callIO 1 p__law_draw (aCons (kE (.int m)) aNil) (s :: .ow p :: r) = some (.int v, s :: .ow p' :: r) := by
  obtain ⟨v, p', e, h0, h1, q⟩ := draw_ok hp hc hm hm2
  refine ⟨v, p', h0, h1, q, fun s r => ?_⟩
  simp [callIO, Fx.mine, aCons, kE, aNil, e, putM]
def oftB (p : Int) : Nat → Int → Bool
  | 0, n => n.fmod p != 0
  | j + 1, n => n.fmod p == 0 && oftB p j (n.fdiv p)
def oB : SF := (sIf (tB' (bin pEq (bin pMod (nm 0) (nm 1)) (kE (.int 0)))) (sSeq (asg 0 (bin pDiv (nm 0) (nm 1))) (asg 2 (bin pAdd (nm 2) (kE (.int 1))))) sSkip)
theorem oB_yes {p n m : Int} {k : Sl} (hp : p ≠ 0) (hl : p.natAbs.log2 < 9000) (h : n.fmod p = 0) : oB [.va (.int n), .va (.int p), .va (.int m), k] = some (.nx [.va (.int (n.fdiv p)), .va (.int p), .va (.int (m + 1)), k]) := by
  simp [oB, sIf, tB', bin, nm, kE, pMod_int hp, pEq, h, sSeq, asg, setV, pDiv_int hp hl, pAdd_int]
theorem oB_no {p n m : Int} {k : Sl} (hp : p ≠ 0) (h : n.fmod p ≠ 0) : oB [.va (.int n), .va (.int p), .va (.int m), k] = some (.nx [.va (.int n), .va (.int p), .va (.int m), k]) := by
  simp [oB, sIf, tB', bin, nm, kE, pMod_int hp, pEq, h, sSkip]
theorem oL {p : Int} (hp : p ≠ 0) (hl : p.natAbs.log2 < 9000) : ∀ (ds : List PV) (j : Nat) (n m : Int) (l : Sl), (l = .no ∨ ∃ d, l = .va d) → oftB p j n = true → j ≤ ds.length → ∃ n' l', foF (bNm 3) oB ds [.va (.int n), .va (.int p), .va (.int m), l] = some (.nx [.va (.int n'), .va (.int p), .va (.int (m + j)), l'])
  | [], j, n, m, l, _, hj, hle => by
    have : j = 0 := by simpa using hle
    subst this
    exact ⟨n, l, by simp [foF]⟩
  | d :: ds, 0, n, m, l, hl2, hj, hle => by
    have h : n.fmod p ≠ 0 := by simpa [oftB] using hj
    obtain ⟨n', l', e⟩ := oL hp hl ds 0 n m (.va d) (.inr ⟨_, rfl⟩) hj (Nat.zero_le _)
    refine ⟨n', l', ?_⟩
    rcases hl2 with rfl | ⟨x, rfl⟩ <;> simp only [foF, bNm, setV, List.getElem?_cons_succ, List.getElem?_cons_zero, List.set_cons_succ, List.set_cons_zero, oB_no hp h] <;> exact e
  | d :: ds, j + 1, n, m, l, hl2, hj, hle => by
    have h : n.fmod p = 0 ∧ oftB p j (n.fdiv p) = true := by simpa [oftB] using hj
    obtain ⟨n', l', e⟩ := oL hp hl ds j (n.fdiv p) (m + 1) (.va d) (.inr ⟨_, rfl⟩) h.2 (by simpa using hle)
    refine ⟨n', l', ?_⟩
    have e2 : m + ((j + 1 : Nat) : Int) = m + 1 + (j : Int) := by omega
    rw [e2]
    rcases hl2 with rfl | ⟨x, rfl⟩ <;> simp only [foF, bNm, setV, List.getElem?_cons_succ, List.getElem?_cons_zero, List.set_cons_succ, List.set_cons_zero, oB_yes hp hl h.1] <;> exact e
theorem often_of {p n : Int} (j : Nat) (hp : p ≠ 0) (hl : p.natAbs.log2 < 9000) (h : oftB p j n = true) (hj : j ≤ 400) : p__law_often [.int n, .int p] = some (.int j) := by
  obtain ⟨n', l', e⟩ := oL hp hl (rngL 0 400) j n 0 .no (.inl rfl) h (by
    have : ∀ (m : Nat) (lo : Int), (rngL lo m).length = m := fun m => by
      induction m with
      | zero => intro lo; rfl
      | succ m ih => intro lo; simp [rngL, ih]
    rw [this]; exact hj)
  have eb : b__law_often = sSeq (asg 2 (kE (.int 0))) (sSeq (sFor (wRng1 (kE (.int 400))) (bNm 3) oB) (sRet (nm 2))) := rfl
  have hw : wRng1 (kE (.int 400)) [.va (.int n), .va (.int p), .va (.int 0), .no] = some (rngL 0 400, [.va (.int n), .va (.int p), .va (.int 0), .no]) := rfl
  have e0 : (0 : Int) + (j : Int) = j := by omega
  rw [e0] at e
  simp [p__law_often, runP, eb, start0, List.replicate, sSeq, asg, kE, setV, sFor, hw, e, sRet, nm]
end Fx

namespace Fx
open PySem PySem.Spec L2
open PyProof.Rows hiding St
def L0 : SF := (asgO 1 (callF p__law_pool (aCons (nm 0) aNil)))
noncomputable def M0 : SF := (asgOF 1 (callF q__law_pool (aCons (nmF 0) aNil)))
theorem ML0 : M0 = L0 := by
  simp only [M0, setVF_eq, nmF_eq, asgF_eq, asgOF_eq, bNmF_eq, asg2F_eq, augF_eq, contF_eq, pLenF_eq, pIxF_eq, ixNPF_eq, lenNF_eq, mineF_eq, putMF_eq, isLF_eq, appendF_eq, pop0F_eq, popAtF_eq, extendF_eq, setIxF_eq, augIxF_eq, callIOF_eq, wipeEF_eq, ioFF_eq, putIxF_eq, dIxF_eq, dInF_eq, coFF_eq, coF2F_eq, eLcF_eq, eLc2F_eq, qp__law_pool]
  rfl
def L1 : SF := (asg 2 (bin pIx (eTup (aCons (kE (.int 3)) (aCons (kE (.int 5)) (aCons (kE (.int 7)) (aCons (kE (.int 11)) (aCons (kE (.int 13)) (aCons (kE (.int 17)) (aCons (kE (.int 23)) (aCons (kE (.int 31)) (aCons (kE (.int 41)) aNil)))))))))) (callIO 1 p__law_draw (aCons (kE (.int 9)) aNil))))
noncomputable def M1 : SF := (asgF 2 (bin pIxF (eTup (aCons (kE (.int 3)) (aCons (kE (.int 5)) (aCons (kE (.int 7)) (aCons (kE (.int 11)) (aCons (kE (.int 13)) (aCons (kE (.int 17)) (aCons (kE (.int 23)) (aCons (kE (.int 31)) (aCons (kE (.int 41)) aNil)))))))))) (callIOF 1 q__law_draw (aCons (kE (.int 9)) aNil))))
theorem ML1 : M1 = L1 := by
  simp only [M1, setVF_eq, nmF_eq, asgF_eq, asgOF_eq, bNmF_eq, asg2F_eq, augF_eq, contF_eq, pLenF_eq, pIxF_eq, ixNPF_eq, lenNF_eq, mineF_eq, putMF_eq, isLF_eq, appendF_eq, pop0F_eq, popAtF_eq, extendF_eq, setIxF_eq, augIxF_eq, callIOF_eq, wipeEF_eq, ioFF_eq, putIxF_eq, dIxF_eq, dInF_eq, coFF_eq, coF2F_eq, eLcF_eq, eLc2F_eq, qp__law_draw]
  rfl
def L2 : SF := (asg 3 (callF p_ring_part (aCons (bin pSub (nm 2) (kE (.int 1))) aNil)))
noncomputable def M2 : SF := (asgF 3 (callF q_ring_part (aCons (bin pSub (nmF 2) (kE (.int 1))) aNil)))
theorem ML2 : M2 = L2 := by
  simp only [M2, setVF_eq, nmF_eq, asgF_eq, asgOF_eq, bNmF_eq, asg2F_eq, augF_eq, contF_eq, pLenF_eq, pIxF_eq, ixNPF_eq, lenNF_eq, mineF_eq, putMF_eq, isLF_eq, appendF_eq, pop0F_eq, popAtF_eq, extendF_eq, setIxF_eq, augIxF_eq, callIOF_eq, wipeEF_eq, ioFF_eq, putIxF_eq, dIxF_eq, dInF_eq, coFF_eq, coF2F_eq, eLcF_eq, eLc2F_eq, qp_ring_part]
  rfl
def L3 : SF := (asgO 4 (eLc [8] (wRng2 (kE (.int 1)) (nm 2)) (bNm 8) (tB' (bin pEq (bin pMod (callF p_value_of (aCons (nm 3) (aCons (nm 8) aNil))) (nm 2)) (kE (.int 0)))) (nm 8)))
noncomputable def M3 : SF := (asgOF 4 (eLcF [8] (wRng2 (kE (.int 1)) (nmF 2)) (bNmF 8) (tB' (bin pEq (bin pMod (callF q_value_of (aCons (nmF 3) (aCons (nmF 8) aNil))) (nmF 2)) (kE (.int 0)))) (nmF 8)))
theorem ML3 : M3 = L3 := by
  simp only [M3, setVF_eq, nmF_eq, asgF_eq, asgOF_eq, bNmF_eq, asg2F_eq, augF_eq, contF_eq, pLenF_eq, pIxF_eq, ixNPF_eq, lenNF_eq, mineF_eq, putMF_eq, isLF_eq, appendF_eq, pop0F_eq, popAtF_eq, extendF_eq, setIxF_eq, augIxF_eq, callIOF_eq, wipeEF_eq, ioFF_eq, putIxF_eq, dIxF_eq, dInF_eq, coFF_eq, coF2F_eq, eLcF_eq, eLc2F_eq, qp_value_of]
  rfl
def L4 : SF := (sIf (tOr' (tB' (bin pNe (lenN 4) (callF p_coprimes (aCons (bin pSub (nm 2) (kE (.int 1))) aNil)))) (tB' (bin pNe (nm 4) (eLc [8] (wRng2 (kE (.int 1)) (nm 2)) (bNm 8) (tTr (callF p_check_root (aCons (nm 2) (aCons (eTup (aCons (kE (.str "root")) (aCons (nm 8) aNil))) aNil)))) (nm 8))))) (sRet (kE (.bool false))) sSkip)
noncomputable def M4 : SF := (sIf (tOr' (tB' (bin pNe (lenNF 4) (callF q_coprimes (aCons (bin pSub (nmF 2) (kE (.int 1))) aNil)))) (tB' (bin pNe (nmF 4) (eLcF [8] (wRng2 (kE (.int 1)) (nmF 2)) (bNmF 8) (tTr (callF q_check_root (aCons (nmF 2) (aCons (eTup (aCons (kE (.str "root")) (aCons (nmF 8) aNil))) aNil)))) (nmF 8))))) (sRet (kE (.bool false))) sSkip)
theorem ML4 : M4 = L4 := by
  simp only [M4, setVF_eq, nmF_eq, asgF_eq, asgOF_eq, bNmF_eq, asg2F_eq, augF_eq, contF_eq, pLenF_eq, pIxF_eq, ixNPF_eq, lenNF_eq, mineF_eq, putMF_eq, isLF_eq, appendF_eq, pop0F_eq, popAtF_eq, extendF_eq, setIxF_eq, augIxF_eq, callIOF_eq, wipeEF_eq, ioFF_eq, putIxF_eq, dIxF_eq, dInF_eq, coFF_eq, coF2F_eq, eLcF_eq, eLc2F_eq, qp_check_root, qp_coprimes]
  rfl
def L5 : SF := (asg 5 (callIO 1 p__law_draw (aCons (kE (.int 40)) aNil)))
noncomputable def M5 : SF := (asgF 5 (callIOF 1 q__law_draw (aCons (kE (.int 40)) aNil)))
theorem ML5 : M5 = L5 := by
  simp only [M5, setVF_eq, nmF_eq, asgF_eq, asgOF_eq, bNmF_eq, asg2F_eq, augF_eq, contF_eq, pLenF_eq, pIxF_eq, ixNPF_eq, lenNF_eq, mineF_eq, putMF_eq, isLF_eq, appendF_eq, pop0F_eq, popAtF_eq, extendF_eq, setIxF_eq, augIxF_eq, callIOF_eq, wipeEF_eq, ioFF_eq, putIxF_eq, dIxF_eq, dInF_eq, coFF_eq, coF2F_eq, eLcF_eq, eLc2F_eq, qp__law_draw]
  rfl
def L6 : SF := (asg 6 (eTup (aCons (kE (.int 1)) aNil)))
noncomputable def M6 : SF := (asgF 6 (eTup (aCons (kE (.int 1)) aNil)))
theorem ML6 : M6 = L6 := by
  simp only [M6, setVF_eq, nmF_eq, asgF_eq, asgOF_eq, bNmF_eq, asg2F_eq, augF_eq, contF_eq, pLenF_eq, pIxF_eq, ixNPF_eq, lenNF_eq, mineF_eq, putMF_eq, isLF_eq, appendF_eq, pop0F_eq, popAtF_eq, extendF_eq, setIxF_eq, augIxF_eq, callIOF_eq, wipeEF_eq, ioFF_eq, putIxF_eq, dIxF_eq, dInF_eq, coFF_eq, coF2F_eq, eLcF_eq, eLc2F_eq]
  rfl
def L7 : SF := (sFor (wRng1 (nm 5)) (bNm 7) (asg 6 (callF p_multiplied (aCons (nm 6) (aCons (eTup (aCons (kE (.int 1)) (aCons (kE (.int 1)) aNil))) aNil)))))
noncomputable def M7 : SF := (sFor (wRng1 (nmF 5)) (bNmF 7) (asgF 6 (callF q_multiplied (aCons (nmF 6) (aCons (eTup (aCons (kE (.int 1)) (aCons (kE (.int 1)) aNil))) aNil)))))
theorem ML7 : M7 = L7 := by
  simp only [M7, setVF_eq, nmF_eq, asgF_eq, asgOF_eq, bNmF_eq, asg2F_eq, augF_eq, contF_eq, pLenF_eq, pIxF_eq, ixNPF_eq, lenNF_eq, mineF_eq, putMF_eq, isLF_eq, appendF_eq, pop0F_eq, popAtF_eq, extendF_eq, setIxF_eq, augIxF_eq, callIOF_eq, wipeEF_eq, ioFF_eq, putIxF_eq, dIxF_eq, dInF_eq, coFF_eq, coF2F_eq, eLcF_eq, eLc2F_eq, qp_multiplied]
  rfl
def L8 : SF := (sFor (wRng1 (bin pAdd (nm 5) (kE (.int 1)))) (bNm 7) (sIf (tOr' (tB' (bin pNe (bin pMod (ixN' 6 (nm 7)) (nm 2)) (callF p_choices_rest (aCons (nm 5) (aCons (nm 7) (aCons (nm 2) aNil)))))) (tB' (bin pNe (callF p__law_often (aCons (ixN' 6 (nm 7)) (aCons (nm 2) aNil))) (callF p_often_in_choices (aCons (nm 5) (aCons (nm 7) (aCons (nm 2) aNil))))))) (sRet (kE (.bool false))) sSkip))
noncomputable def M8 : SF := (sFor (wRng1 (bin pAdd (nmF 5) (kE (.int 1)))) (bNmF 7) (sIf (tOr' (tB' (bin pNe (bin pMod (ixNPF 6 (nmF 7)) (nmF 2)) (callF q_choices_rest (aCons (nmF 5) (aCons (nmF 7) (aCons (nmF 2) aNil)))))) (tB' (bin pNe (callF q__law_often (aCons (ixNPF 6 (nmF 7)) (aCons (nmF 2) aNil))) (callF q_often_in_choices (aCons (nmF 5) (aCons (nmF 7) (aCons (nmF 2) aNil))))))) (sRet (kE (.bool false))) sSkip))
theorem ML8 : M8 = L8 := by
  simp only [M8, setVF_eq, nmF_eq, asgF_eq, asgOF_eq, bNmF_eq, asg2F_eq, augF_eq, contF_eq, pLenF_eq, pIxF_eq, ixNPF_eq, lenNF_eq, mineF_eq, putMF_eq, isLF_eq, appendF_eq, pop0F_eq, popAtF_eq, extendF_eq, setIxF_eq, augIxF_eq, callIOF_eq, wipeEF_eq, ioFF_eq, putIxF_eq, dIxF_eq, dInF_eq, coFF_eq, coF2F_eq, eLcF_eq, eLc2F_eq, qp__law_often, qp_choices_rest, qp_often_in_choices]
  rfl
def L9 : SF := (asg2 5 8 (aCons (bin pAdd (kE (.int 1)) (callIO 1 p__law_draw (aCons (kE (.int 14)) aNil))) (aCons (bin pAdd (kE (.int 2)) (callIO 1 p__law_draw (aCons (kE (.int 3)) aNil))) aNil)))
noncomputable def M9 : SF := (asg2F 5 8 (aCons (bin pAdd (kE (.int 1)) (callIOF 1 q__law_draw (aCons (kE (.int 14)) aNil))) (aCons (bin pAdd (kE (.int 2)) (callIOF 1 q__law_draw (aCons (kE (.int 3)) aNil))) aNil)))
theorem ML9 : M9 = L9 := by
  simp only [M9, setVF_eq, nmF_eq, asgF_eq, asgOF_eq, bNmF_eq, asg2F_eq, augF_eq, contF_eq, pLenF_eq, pIxF_eq, ixNPF_eq, lenNF_eq, mineF_eq, putMF_eq, isLF_eq, appendF_eq, pop0F_eq, popAtF_eq, extendF_eq, setIxF_eq, augIxF_eq, callIOF_eq, wipeEF_eq, ioFF_eq, putIxF_eq, dIxF_eq, dInF_eq, coFF_eq, coF2F_eq, eLcF_eq, eLc2F_eq, qp__law_draw]
  rfl
def L10 : SF := (asg 9 (kE (.int 1)))
noncomputable def M10 : SF := (asgF 9 (kE (.int 1)))
theorem ML10 : M10 = L10 := by
  simp only [M10, setVF_eq, nmF_eq, asgF_eq, asgOF_eq, bNmF_eq, asg2F_eq, augF_eq, contF_eq, pLenF_eq, pIxF_eq, ixNPF_eq, lenNF_eq, mineF_eq, putMF_eq, isLF_eq, appendF_eq, pop0F_eq, popAtF_eq, extendF_eq, setIxF_eq, augIxF_eq, callIOF_eq, wipeEF_eq, ioFF_eq, putIxF_eq, dIxF_eq, dInF_eq, coFF_eq, coF2F_eq, eLcF_eq, eLc2F_eq]
  rfl
def L11 : SF := (sFor (wSeq (callF p_divisors_of (aCons (nm 5) aNil))) (bNm 10) (asg 9 (bin pMul (nm 9) (callF p_ring_value (aCons (nm 10) (aCons (nm 8) aNil))))))
noncomputable def M11 : SF := (sFor (wSeq (callF q_divisors_of (aCons (nmF 5) aNil))) (bNmF 10) (asgF 9 (bin pMul (nmF 9) (callF q_ring_value (aCons (nmF 10) (aCons (nmF 8) aNil))))))
theorem ML11 : M11 = L11 := by
  simp only [M11, setVF_eq, nmF_eq, asgF_eq, asgOF_eq, bNmF_eq, asg2F_eq, augF_eq, contF_eq, pLenF_eq, pIxF_eq, ixNPF_eq, lenNF_eq, mineF_eq, putMF_eq, isLF_eq, appendF_eq, pop0F_eq, popAtF_eq, extendF_eq, setIxF_eq, augIxF_eq, callIOF_eq, wipeEF_eq, ioFF_eq, putIxF_eq, dIxF_eq, dInF_eq, coFF_eq, coF2F_eq, eLcF_eq, eLc2F_eq, qp_divisors_of, qp_ring_value]
  rfl
def L12 : SF := (sIf (tB' (bin pNe (nm 9) (bin pSub (callF p__law_power (aCons (nm 8) (aCons (nm 5) aNil))) (kE (.int 1))))) (sRet (kE (.bool false))) sSkip)
noncomputable def M12 : SF := (sIf (tB' (bin pNe (nmF 9) (bin pSub (callF q__law_power (aCons (nmF 8) (aCons (nmF 5) aNil))) (kE (.int 1))))) (sRet (kE (.bool false))) sSkip)
theorem ML12 : M12 = L12 := by
  simp only [M12, setVF_eq, nmF_eq, asgF_eq, asgOF_eq, bNmF_eq, asg2F_eq, augF_eq, contF_eq, pLenF_eq, pIxF_eq, ixNPF_eq, lenNF_eq, mineF_eq, putMF_eq, isLF_eq, appendF_eq, pop0F_eq, popAtF_eq, extendF_eq, setIxF_eq, augIxF_eq, callIOF_eq, wipeEF_eq, ioFF_eq, putIxF_eq, dIxF_eq, dInF_eq, coFF_eq, coF2F_eq, eLcF_eq, eLc2F_eq, qp__law_power]
  rfl
def L13 : SF := (sIf (tAn (tB' (bin pGt (nm 9) (kE (.int 1)))) (tB' (bin pLt (nm 9) (bin pPow (kE (.int 10)) (kE (.int 6)))))) (sFor (wSeq (callF p_parts_of (aCons (nm 9) aNil))) (bTup 2 (bCons (bNm 11) (bCons (bNm 12) bNil))) (sIf (tB' (bin pNe (bin pMod (nm 5) (callF p_order (aCons (nm 8) (aCons (nm 11) aNil)))) (kE (.int 0)))) (sRet (kE (.bool false))) sSkip)) sSkip)
noncomputable def M13 : SF := (sIf (tAn (tB' (bin pGt (nmF 9) (kE (.int 1)))) (tB' (bin pLt (nmF 9) (bin pPow (kE (.int 10)) (kE (.int 6)))))) (sFor (wSeq (callF q_parts_of (aCons (nmF 9) aNil))) (bTup 2 (bCons (bNmF 11) (bCons (bNmF 12) bNil))) (sIf (tB' (bin pNe (bin pMod (nmF 5) (callF q_order (aCons (nmF 8) (aCons (nmF 11) aNil)))) (kE (.int 0)))) (sRet (kE (.bool false))) sSkip)) sSkip)
theorem ML13 : M13 = L13 := by
  simp only [M13, setVF_eq, nmF_eq, asgF_eq, asgOF_eq, bNmF_eq, asg2F_eq, augF_eq, contF_eq, pLenF_eq, pIxF_eq, ixNPF_eq, lenNF_eq, mineF_eq, putMF_eq, isLF_eq, appendF_eq, pop0F_eq, popAtF_eq, extendF_eq, setIxF_eq, augIxF_eq, callIOF_eq, wipeEF_eq, ioFF_eq, putIxF_eq, dIxF_eq, dInF_eq, coFF_eq, coF2F_eq, eLcF_eq, eLc2F_eq, qp_order, qp_parts_of]
  rfl
def L14 : SF := (sRet (kE (.bool true)))
noncomputable def M14 : SF := (sRet (kE (.bool true)))
theorem ML14 : M14 = L14 := by
  simp only [M14, setVF_eq, nmF_eq, asgF_eq, asgOF_eq, bNmF_eq, asg2F_eq, augF_eq, contF_eq, pLenF_eq, pIxF_eq, ixNPF_eq, lenNF_eq, mineF_eq, putMF_eq, isLF_eq, appendF_eq, pop0F_eq, popAtF_eq, extendF_eq, setIxF_eq, augIxF_eq, callIOF_eq, wipeEF_eq, ioFF_eq, putIxF_eq, dIxF_eq, dInF_eq, coFF_eq, coF2F_eq, eLcF_eq, eLc2F_eq]
  rfl
theorem b_law_seq : b_law = sSeq L0 (sSeq L1 (sSeq L2 (sSeq L3 (sSeq L4 (sSeq L5 (sSeq L6 (sSeq L7 (sSeq L8 (sSeq L9 (sSeq L10 (sSeq L11 (sSeq L12 (sSeq L13 L14))))))))))))) := rfl
end Fx

namespace Fx
open PySem PySem.Spec L2
open PyProof.Rows hiding St
theorem stA_3 (s : Sl) (P : PV) : sSeq M2 (sSeq M3 M4) [s, .ow P, .va (.int 3), .no, .no, .no, .no, .no, .no, .no, .no, .no, .no] = some (.nx [s, .ow P, .va (.int 3), .va (.tuple [.int 1, .int 1]), .va (.list [.int 2]), .no, .no, .no, .no, .no, .no, .no, .no]) := by
  kernel_rfl
theorem stA_5 (s : Sl) (P : PV) : sSeq M2 (sSeq M3 M4) [s, .ow P, .va (.int 5), .no, .no, .no, .no, .no, .no, .no, .no, .no, .no] = some (.nx [s, .ow P, .va (.int 5), .va (.tuple [.int 1, .int 0, .int 1]), .va (.list [.int 2, .int 3]), .no, .no, .no, .no, .no, .no, .no, .no]) := by
  kernel_rfl
theorem stA_7 (s : Sl) (P : PV) : sSeq M2 (sSeq M3 M4) [s, .ow P, .va (.int 7), .no, .no, .no, .no, .no, .no, .no, .no, .no, .no] = some (.nx [s, .ow P, .va (.int 7), .va (.tuple [.int 1, .int (-1), .int 1]), .va (.list [.int 3, .int 5]), .no, .no, .no, .no, .no, .no, .no, .no]) := by
  kernel_rfl
theorem stA_11 (s : Sl) (P : PV) : sSeq M2 (sSeq M3 M4) [s, .ow P, .va (.int 11), .no, .no, .no, .no, .no, .no, .no, .no, .no, .no] = some (.nx [s, .ow P, .va (.int 11), .va (.tuple [.int 1, .int (-1), .int 1, .int (-1), .int 1]), .va (.list [.int 2, .int 6, .int 7, .int 8]), .no, .no, .no, .no, .no, .no, .no, .no]) := by
  kernel_rfl
theorem stA_13 (s : Sl) (P : PV) : sSeq M2 (sSeq M3 M4) [s, .ow P, .va (.int 13), .no, .no, .no, .no, .no, .no, .no, .no, .no, .no] = some (.nx [s, .ow P, .va (.int 13), .va (.tuple [.int 1, .int 0, .int (-1), .int 0, .int 1]), .va (.list [.int 2, .int 6, .int 7, .int 11]), .no, .no, .no, .no, .no, .no, .no, .no]) := by
  kernel_rfl
theorem stA_17 (s : Sl) (P : PV) : sSeq M2 (sSeq M3 M4) [s, .ow P, .va (.int 17), .no, .no, .no, .no, .no, .no, .no, .no, .no, .no] = some (.nx [s, .ow P, .va (.int 17), .va (.tuple [.int 1, .int 0, .int 0, .int 0, .int 0, .int 0, .int 0, .int 0, .int 1]), .va (.list [.int 3, .int 5, .int 6, .int 7, .int 10, .int 11, .int 12, .int 14]), .no, .no, .no, .no, .no, .no, .no, .no]) := by
  kernel_rfl
theorem stA_23 (s : Sl) (P : PV) : sSeq M2 (sSeq M3 M4) [s, .ow P, .va (.int 23), .no, .no, .no, .no, .no, .no, .no, .no, .no, .no] = some (.nx [s, .ow P, .va (.int 23), .va (.tuple [.int 1, .int (-1), .int 1, .int (-1), .int 1, .int (-1), .int 1, .int (-1), .int 1, .int (-1), .int 1]), .va (.list [.int 5, .int 7, .int 10, .int 11, .int 14, .int 15, .int 17, .int 19, .int 20, .int 21]), .no, .no, .no, .no, .no, .no, .no, .no]) := by
  kernel_rfl
theorem stA_31 (s : Sl) (P : PV) : sSeq M2 (sSeq M3 M4) [s, .ow P, .va (.int 31), .no, .no, .no, .no, .no, .no, .no, .no, .no, .no] = some (.nx [s, .ow P, .va (.int 31), .va (.tuple [.int 1, .int 1, .int 0, .int (-1), .int (-1), .int (-1), .int 0, .int 1, .int 1]), .va (.list [.int 3, .int 11, .int 12, .int 13, .int 17, .int 21, .int 22, .int 24]), .no, .no, .no, .no, .no, .no, .no, .no]) := by
  kernel_rfl
theorem stA_41 (s : Sl) (P : PV) : sSeq M2 (sSeq M3 M4) [s, .ow P, .va (.int 41), .no, .no, .no, .no, .no, .no, .no, .no, .no, .no] = some (.nx [s, .ow P, .va (.int 41), .va (.tuple [.int 1, .int 0, .int 0, .int 0, .int (-1), .int 0, .int 0, .int 0, .int 1, .int 0, .int 0, .int 0, .int (-1), .int 0, .int 0, .int 0, .int 1]), .va (.list [.int 6, .int 7, .int 11, .int 12, .int 13, .int 15, .int 17, .int 19, .int 22, .int 24, .int 26, .int 28, .int 29, .int 30, .int 34, .int 35]), .no, .no, .no, .no, .no, .no, .no, .no]) := by
  kernel_rfl
def prs : List Int := [3, 5, 7, 11, 13, 17, 23, 31, 41]
theorem stA (s : Sl) (P : PV) (p : Int) (hp : p ∈ prs) : ∃ a3 a4 : PV, sSeq L2 (sSeq L3 L4) [s, .ow P, .va (.int p), .no, .no, .no, .no, .no, .no, .no, .no, .no, .no] = some (.nx [s, .ow P, .va (.int p), .va a3, .va a4, .no, .no, .no, .no, .no, .no, .no, .no]) := by
  rw [← ML2, ← ML3, ← ML4]
  simp only [prs, List.mem_cons, List.not_mem_nil, or_false] at hp
  rcases hp with rfl | rfl | rfl | rfl | rfl | rfl | rfl | rfl | rfl
  · exact ⟨_, _, stA_3 s P⟩
  · exact ⟨_, _, stA_5 s P⟩
  · exact ⟨_, _, stA_7 s P⟩
  · exact ⟨_, _, stA_11 s P⟩
  · exact ⟨_, _, stA_13 s P⟩
  · exact ⟨_, _, stA_17 s P⟩
  · exact ⟨_, _, stA_23 s P⟩
  · exact ⟨_, _, stA_31 s P⟩
  · exact ⟨_, _, stA_41 s P⟩
end Fx

noncomputable section
namespace Fx
open PySem PySem.Spec L2
open PyProof.Rows hiding St
def prs2 : List Int := [3, 5, 7, 11, 13, 17, 23, 31, 41]
def addL : List Int → List Int → List Int
  | a :: r, b :: t => (a + b) :: addL r t
  | _, _ => []
def rowI : Nat → List Int
  | 0 => [1]
  | n + 1 => addL (rowI n ++ [0]) (0 :: rowI n)
def rowV : List (List Int) := (List.range 41).map rowI
def eqI : List PV → List Int → Bool
  | [], [] => true
  | .int a :: r, b :: t => decide (a = b) && eqI r t
  | _, _ => false
theorem eqI_ok : ∀ {xs : List PV} {is : List Int}, eqI xs is = true → xs = is.map .int
  | [], [], _ => rfl
  | .int a :: r, b :: t, h => by
    have h2 : a = b ∧ eqI r t = true := by simpa [eqI] using h
    rw [h2.1, eqI_ok h2.2]; rfl
def mulOk (n : Nat) : Bool := match q_multiplied [.tuple ((rowI n).map .int), .tuple [.int 1, .int 1]] with
  | some (.tuple xs) => eqI xs (rowI (n + 1))
  | _ => false
theorem mul_all : ((List.range 40).all mulOk) = true := by decide +kernel
theorem mul_row {n : Nat} (h : n < 40) : p_multiplied [.tuple ((rowI n).map .int), .tuple [.int 1, .int 1]] = some (.tuple ((rowI (n + 1)).map .int)) := by
  have h1 := List.all_eq_true.mp mul_all n (List.mem_range.mpr h)
  unfold mulOk at h1
  rw [← qp_multiplied]
  split at h1
  · rename_i xs e
    rw [e, eqI_ok h1]
  · cases h1
def chk (p : Int) (n k : Nat) : Bool := match (rowI n)[k]? with
  | none => false
  | some r => (match q_choices_rest [.int n, .int k, .int p] with
    | some (.int c) => decide (r.fmod p = c)
    | _ => false) && (match q_often_in_choices [.int n, .int k, .int p] with
    | some (.int o) => decide (0 ≤ o) && decide (o ≤ 400) && oftB p o.toNat r
    | _ => false)
def chkN (p : Int) (n : Nat) : Bool := (List.range (n + 1)).all (chk p n)
theorem chk_3 : ((List.range 40).all (chkN 3)) = true := by decide +kernel
theorem chk_5 : ((List.range 40).all (chkN 5)) = true := by decide +kernel
theorem chk_7 : ((List.range 40).all (chkN 7)) = true := by decide +kernel
theorem chk_11 : ((List.range 40).all (chkN 11)) = true := by decide +kernel
theorem chk_13 : ((List.range 40).all (chkN 13)) = true := by decide +kernel
theorem chk_17 : ((List.range 40).all (chkN 17)) = true := by decide +kernel
theorem chk_23 : ((List.range 40).all (chkN 23)) = true := by decide +kernel
theorem chk_31 : ((List.range 40).all (chkN 31)) = true := by decide +kernel
theorem chk_41 : ((List.range 40).all (chkN 41)) = true := by decide +kernel
theorem chk_ok {p : Int} (hp : p ∈ prs2) {n k : Nat} (hn : n < 40) (hk : k ≤ n) : chk p n k = true := by
  have h : ((List.range 40).all (chkN p)) = true := by
    simp only [prs2, List.mem_cons, List.not_mem_nil, or_false] at hp
    rcases hp with rfl | rfl | rfl | rfl | rfl | rfl | rfl | rfl | rfl
    · exact chk_3
    · exact chk_5
    · exact chk_7
    · exact chk_11
    · exact chk_13
    · exact chk_17
    · exact chk_23
    · exact chk_31
    · exact chk_41
  exact List.all_eq_true.mp (List.all_eq_true.mp h n (List.mem_range.mpr hn)) k (List.mem_range.mpr (by omega))
end Fx

namespace Fx
open PySem PySem.Spec L2
open PyProof.Rows hiding St
def isT : Option Out → Bool
  | some (.rt (.bool true) _) => true
  | _ => false
def okC (x n : Int) : Prop := ∀ (s : Sl) (P p a3 a4 row : PV) (k : Sl), isT (sSeq M10 (sSeq M11 (sSeq M12 (sSeq M13 M14))) [s, .ow P, .va p, .va a3, .va a4, .va (.int n), .va row, k, .va (.int x), .no, .no, .no, .no]) = true
theorem c_2_1 : okC 2 1 := fun s P p a3 a4 row k => by kernel_rfl
theorem c_2_2 : okC 2 2 := fun s P p a3 a4 row k => by kernel_rfl
theorem c_2_3 : okC 2 3 := fun s P p a3 a4 row k => by kernel_rfl
theorem c_2_4 : okC 2 4 := fun s P p a3 a4 row k => by kernel_rfl
theorem c_2_5 : okC 2 5 := fun s P p a3 a4 row k => by kernel_rfl
theorem c_2_6 : okC 2 6 := fun s P p a3 a4 row k => by kernel_rfl
theorem c_2_7 : okC 2 7 := fun s P p a3 a4 row k => by kernel_rfl
theorem c_2_8 : okC 2 8 := fun s P p a3 a4 row k => by kernel_rfl
theorem c_2_9 : okC 2 9 := fun s P p a3 a4 row k => by kernel_rfl
theorem c_2_10 : okC 2 10 := fun s P p a3 a4 row k => by kernel_rfl
theorem c_2_11 : okC 2 11 := fun s P p a3 a4 row k => by kernel_rfl
theorem c_2_12 : okC 2 12 := fun s P p a3 a4 row k => by kernel_rfl
theorem c_2_13 : okC 2 13 := fun s P p a3 a4 row k => by kernel_rfl
theorem c_2_14 : okC 2 14 := fun s P p a3 a4 row k => by kernel_rfl
theorem c_3_1 : okC 3 1 := fun s P p a3 a4 row k => by kernel_rfl
theorem c_3_2 : okC 3 2 := fun s P p a3 a4 row k => by kernel_rfl
theorem c_3_3 : okC 3 3 := fun s P p a3 a4 row k => by kernel_rfl
theorem c_3_4 : okC 3 4 := fun s P p a3 a4 row k => by kernel_rfl
theorem c_3_5 : okC 3 5 := fun s P p a3 a4 row k => by kernel_rfl
theorem c_3_6 : okC 3 6 := fun s P p a3 a4 row k => by kernel_rfl
theorem c_3_7 : okC 3 7 := fun s P p a3 a4 row k => by kernel_rfl
theorem c_3_8 : okC 3 8 := fun s P p a3 a4 row k => by kernel_rfl
theorem c_3_9 : okC 3 9 := fun s P p a3 a4 row k => by kernel_rfl
theorem c_3_10 : okC 3 10 := fun s P p a3 a4 row k => by kernel_rfl
theorem c_3_11 : okC 3 11 := fun s P p a3 a4 row k => by kernel_rfl
theorem c_3_12 : okC 3 12 := fun s P p a3 a4 row k => by kernel_rfl
theorem c_3_13 : okC 3 13 := fun s P p a3 a4 row k => by kernel_rfl
theorem c_3_14 : okC 3 14 := fun s P p a3 a4 row k => by kernel_rfl
theorem c_4_1 : okC 4 1 := fun s P p a3 a4 row k => by kernel_rfl
theorem c_4_2 : okC 4 2 := fun s P p a3 a4 row k => by kernel_rfl
theorem c_4_3 : okC 4 3 := fun s P p a3 a4 row k => by kernel_rfl
theorem c_4_4 : okC 4 4 := fun s P p a3 a4 row k => by kernel_rfl
theorem c_4_5 : okC 4 5 := fun s P p a3 a4 row k => by kernel_rfl
theorem c_4_6 : okC 4 6 := fun s P p a3 a4 row k => by kernel_rfl
theorem c_4_7 : okC 4 7 := fun s P p a3 a4 row k => by kernel_rfl
theorem c_4_8 : okC 4 8 := fun s P p a3 a4 row k => by kernel_rfl
theorem c_4_9 : okC 4 9 := fun s P p a3 a4 row k => by kernel_rfl
theorem c_4_10 : okC 4 10 := fun s P p a3 a4 row k => by kernel_rfl
theorem c_4_11 : okC 4 11 := fun s P p a3 a4 row k => by kernel_rfl
theorem c_4_12 : okC 4 12 := fun s P p a3 a4 row k => by kernel_rfl
theorem c_4_13 : okC 4 13 := fun s P p a3 a4 row k => by kernel_rfl
theorem c_4_14 : okC 4 14 := fun s P p a3 a4 row k => by kernel_rfl
end Fx

namespace Fx
open PySem PySem.Spec L2
open PyProof.Rows hiding St
def b1 : SF := (asg 6 (callF p_multiplied (aCons (nm 6) (aCons (eTup (aCons (kE (.int 1)) (aCons (kE (.int 1)) aNil))) aNil))))
def rowP (n : Nat) : PV := .tuple ((rowI n).map .int)
theorem b1_ok {n : Nat} (h : n < 40) (s0 s1 s2 s3 s4 s5 s7 : Sl) (r : Ev) : b1 (s0 :: s1 :: s2 :: s3 :: s4 :: s5 :: .va (rowP n) :: s7 :: r) = some (.nx (s0 :: s1 :: s2 :: s3 :: s4 :: s5 :: .va (rowP (n + 1)) :: s7 :: r)) := by
  have hz : (2 : Nat) ≤ sizeLine := by decide
  have hm := mul_row h
  simp [b1, asg, callF, aCons, nm, eTup, kE, aNil, setV, hz, rowP, hm]
theorem rows_ok (s0 s1 s2 s3 s4 s5 : Sl) (r : Ev) : ∀ (m lo : Nat) (k : Sl), (k = .no ∨ ∃ d, k = .va d) → lo + m ≤ 40 → ∃ k', (k' = .no ∨ ∃ d, k' = .va d) ∧ foF (bNm 7) b1 (rngL (lo : Int) m) (s0 :: s1 :: s2 :: s3 :: s4 :: s5 :: .va (rowP lo) :: k :: r) = some (.nx (s0 :: s1 :: s2 :: s3 :: s4 :: s5 :: .va (rowP (lo + m)) :: k' :: r))
  | 0, lo, k, hk, hl => ⟨k, hk, rfl⟩
  | m + 1, lo, k, hk, hl => by
    obtain ⟨k', hk', e⟩ := rows_ok s0 s1 s2 s3 s4 s5 r m (lo + 1) (.va (.int lo)) (.inr ⟨_, rfl⟩) (by omega)
    refine ⟨k', hk', ?_⟩
    have e1 : ((lo : Int) + 1) = ((lo + 1 : Nat) : Int) := by omega
    have e2 : lo + (m + 1) = lo + 1 + m := by omega
    rw [e2]
    rcases hk with rfl | ⟨d, rfl⟩ <;> simp only [rngL, foF, bNm, setV, List.getElem?_cons_succ, List.getElem?_cons_zero, List.set_cons_succ, List.set_cons_zero, b1_ok (show lo < 40 by omega), e1] <;> exact e
def b2 : SF := (sIf (tOr' (tB' (bin pNe (bin pMod (ixN' 6 (nm 7)) (nm 2)) (callF p_choices_rest (aCons (nm 5) (aCons (nm 7) (aCons (nm 2) aNil)))))) (tB' (bin pNe (callF p__law_often (aCons (ixN' 6 (nm 7)) (aCons (nm 2) aNil))) (callF p_often_in_choices (aCons (nm 5) (aCons (nm 7) (aCons (nm 2) aNil))))))) (sRet (kE (.bool false))) sSkip)
theorem b2_ok {p : Int} (hp : p ∈ prs2) {n k : Nat} (hn : n < 40) (hk : k ≤ n) (s0 s1 s3 s4 : Sl) (r : Ev) : b2 (s0 :: s1 :: .va (.int p) :: s3 :: s4 :: .va (.int n) :: .va (rowP n) :: .va (.int k) :: r) = some (.nx (s0 :: s1 :: .va (.int p) :: s3 :: s4 :: .va (.int n) :: .va (rowP n) :: .va (.int k) :: r)) := by
  have h := chk_ok hp hn hk
  have hp0 : p ≠ 0 := by
    intro z; subst z; revert hp; decide
  have hl : p.natAbs.log2 < 9000 := by
    simp only [prs2, List.mem_cons, List.not_mem_nil, or_false] at hp
    rcases hp with rfl | rfl | rfl | rfl | rfl | rfl | rfl | rfl | rfl <;> decide
  unfold chk at h
  rw [qp_choices_rest, qp_often_in_choices] at h
  split at h
  · cases h
  · rename_i x hx
    rw [Bool.and_eq_true] at h
    obtain ⟨h1, h2⟩ := h
    split at h1
    · rename_i c hc
      split at h2
      · rename_i o ho
        simp only [Bool.and_eq_true, decide_eq_true_eq] at h1 h2
        obtain ⟨⟨o1, o2⟩, o3⟩ := h2
        have hof := often_of (n := x) o.toNat hp0 hl o3 (by omega)
        have eo : ((o.toNat : Nat) : Int) = o := Int.toNat_of_nonneg o1
        rw [eo] at hof
        have hix : pIx (rowP n) (.int k) = some (.int x) := by
          show atI _ _ = _
          unfold atI ixN
          have hkl : k < (rowI n).length := (List.getElem?_eq_some_iff.mp hx).1
          have hxe := (List.getElem?_eq_some_iff.mp hx).2
          simp [hkl, hxe]
        simp [b2, sIf, tOr', tB', bin, ixN', Fx.cont, nm, callF, aCons, aNil, hix, pMod_int hp0, hc, pNe, h1, hof, ho, sSkip]
      · cases h2
    · cases h1
theorem chks_ok {p : Int} (hp : p ∈ prs2) {n : Nat} (hn : n < 40) (s0 s1 s3 s4 : Sl) (r : Ev) : ∀ (m lo : Nat) (k : Sl), (k = .no ∨ ∃ d, k = .va d) → lo + m ≤ n + 1 → ∃ k', (k' = .no ∨ ∃ d, k' = .va d) ∧ foF (bNm 7) b2 (rngL (lo : Int) m) (s0 :: s1 :: .va (.int p) :: s3 :: s4 :: .va (.int n) :: .va (rowP n) :: k :: r) = some (.nx (s0 :: s1 :: .va (.int p) :: s3 :: s4 :: .va (.int n) :: .va (rowP n) :: k' :: r))
  | 0, lo, k, hk, hl => ⟨k, hk, rfl⟩
  | m + 1, lo, k, hk, hl => by
    obtain ⟨k', hk', e⟩ := chks_ok hp hn s0 s1 s3 s4 r m (lo + 1) (.va (.int lo)) (.inr ⟨_, rfl⟩) (by omega)
    refine ⟨k', hk', ?_⟩
    have e1 : ((lo : Int) + 1) = ((lo + 1 : Nat) : Int) := by omega
    rcases hk with rfl | ⟨d, rfl⟩ <;> simp only [rngL, foF, bNm, setV, List.getElem?_cons_succ, List.getElem?_cons_zero, List.set_cons_succ, List.set_cons_zero, b2_ok hp hn (show lo ≤ n by omega), e1] <;> exact e
theorem wr_nat {f : EF} {e e' : Ev} {n : Nat} (h : n < 1000000) (hf : f e = some (.int n, e')) : wRng1 f e = some (rngL 0 n, e') := by
  unfold wRng1
  rw [hf]
  have h62 : -(2 ^ 62) ≤ (n : Int) ∧ (n : Int) < 2 ^ 62 := ⟨Int.le_trans (by decide : -(2 ^ 62 : Int) ≤ 0) (Int.natCast_nonneg n), Int.lt_of_lt_of_le (show (n : Int) < 1000000 by omega) (by decide)⟩
  show (if -(2 ^ 62) ≤ (n : Int) ∧ (n : Int) < 2 ^ 62 then some (rngL 0 (n : Int).toNat, e') else none) = _
  rw [if_pos h62, Int.toNat_natCast]
theorem aCons_some {f : EF} {h : AF} {e e1 e2 : Ev} {d : PV} {ds : List PV} (hf : f e = some (d, e1)) (hh : h e1 = some (ds, e2)) : aCons f h e = some (d :: ds, e2) := by
  unfold aCons
  rw [hf]
  dsimp only
  rw [hh]
theorem sFor_of {f : AF} {bi : BF} {b : SF} {e e1 : Ev} {ds : List PV} {o : Option Out} (hw : f e = some (ds, e1)) (h : foF bi b ds e1 = o) : sFor f bi b e = o := by
  unfold sFor
  rw [hw]
  exact h
theorem L7_eq : L7 = sFor (wRng1 (nm 5)) (bNm 7) b1 := rfl
theorem L8_eq : L8 = sFor (wRng1 (bin pAdd (nm 5) (kE (.int 1)))) (bNm 7) b2 := rfl
theorem isT_of {o : Option Out} (h : isT o = true) : ∃ e, o = some (.rt (.bool true) e) := by
  unfold isT at h
  split at h
  · exact ⟨_, rfl⟩
  · cases h
theorem seq3 {a b c r : SF} {e e' : Ev} (h : sSeq a (sSeq b c) e = some (.nx e')) : sSeq a (sSeq b (sSeq c r)) e = r e' := by
  unfold sSeq at h ⊢
  revert h
  cases a e with
  | none => intro h; cases h
  | some o =>
    cases o with
    | nx e1 =>
      dsimp only
      cases b e1 with
      | none => intro h; cases h
      | some o =>
        cases o with
        | nx e2 =>
          dsimp only
          intro h
          rw [h]
        | rt => intro h; cases h
        | rf => intro h; cases h
        | bk => intro h; cases h
        | ct => intro h; cases h
    | rt => intro h; cases h
    | rf => intro h; cases h
    | bk => intro h; cases h
    | ct => intro h; cases h
theorem seq1 {a r : SF} {e e' : Ev} (h : a e = some (.nx e')) : sSeq a r e = r e' := by
  unfold sSeq
  rw [h]
theorem c_all {x n : Int} (hx : 2 ≤ x ∧ x ≤ 4) (hn : 1 ≤ n ∧ n ≤ 14) : okC x n := by
  have h1 : x = 2 ∨ x = 3 ∨ x = 4 := by omega
  have h2 : n = 1 ∨ n = 2 ∨ n = 3 ∨ n = 4 ∨ n = 5 ∨ n = 6 ∨ n = 7 ∨ n = 8 ∨ n = 9 ∨ n = 10 ∨ n = 11 ∨ n = 12 ∨ n = 13 ∨ n = 14 := by omega
  rcases h1 with rfl | rfl | rfl <;> rcases h2 with rfl | rfl | rfl | rfl | rfl | rfl | rfl | rfl | rfl | rfl | rfl | rfl | rfl | rfl
  · exact c_2_1
  · exact c_2_2
  · exact c_2_3
  · exact c_2_4
  · exact c_2_5
  · exact c_2_6
  · exact c_2_7
  · exact c_2_8
  · exact c_2_9
  · exact c_2_10
  · exact c_2_11
  · exact c_2_12
  · exact c_2_13
  · exact c_2_14
  · exact c_3_1
  · exact c_3_2
  · exact c_3_3
  · exact c_3_4
  · exact c_3_5
  · exact c_3_6
  · exact c_3_7
  · exact c_3_8
  · exact c_3_9
  · exact c_3_10
  · exact c_3_11
  · exact c_3_12
  · exact c_3_13
  · exact c_3_14
  · exact c_4_1
  · exact c_4_2
  · exact c_4_3
  · exact c_4_4
  · exact c_4_5
  · exact c_4_6
  · exact c_4_7
  · exact c_4_8
  · exact c_4_9
  · exact c_4_10
  · exact c_4_11
  · exact c_4_12
  · exact c_4_13
  · exact c_4_14
theorem ix9 {v : Int} (h0 : 0 ≤ v) (h1 : v < 9) : ∃ p : Int, p ∈ prs ∧ pIx (.tuple [.int 3, .int 5, .int 7, .int 11, .int 13, .int 17, .int 23, .int 31, .int 41]) (.int v) = some (.int p) := by
  have h : v = 0 ∨ v = 1 ∨ v = 2 ∨ v = 3 ∨ v = 4 ∨ v = 5 ∨ v = 6 ∨ v = 7 ∨ v = 8 := by omega
  rcases h with rfl | rfl | rfl | rfl | rfl | rfl | rfl | rfl | rfl
  all_goals exact ⟨_, by decide, rfl⟩
theorem runP_rt {n k : Nat} {b : SF} {ps : List PV} {d : PV} {e : Ev} (hl : ps.length = k ∧ k ≤ n) (h : b (start0 n ps) = some (.rt d e)) : runP n k b ps = some d := by
  unfold runP
  rw [if_pos hl, h]
theorem all_true (ns : List Int) : p_law [scrD ns] = some (.bool true) := by
  obtain ⟨P0, e0, q0⟩ := pool_ok ns
  generalize scrD ns = S at e0 ⊢
  obtain ⟨v1, P1, a1, b1', q1, d1⟩ := drawE (m := 9) q0
  obtain ⟨p, hp, ep⟩ := ix9 a1 b1'
  obtain ⟨v2, P2, a2, b2', q2, d2⟩ := drawE (m := 40) q1
  obtain ⟨v3, P3, a3, b3', q3, d3⟩ := drawE (m := 14) q2
  obtain ⟨v4, P4, a4, b4', q4, d4⟩ := drawE (m := 3) q3
  have hz9 : (9 : Nat) ≤ sizeLine := by decide
  have E0 : L0 [.va S, .no, .no, .no, .no, .no, .no, .no, .no, .no, .no, .no, .no] = some (.nx [.va S, .ow P0, .no, .no, .no, .no, .no, .no, .no, .no, .no, .no, .no]) := by
    simp [L0, asgO, callF, aCons, nm, aNil, e0, setV]
  have E1 : L1 [.va S, .ow P0, .no, .no, .no, .no, .no, .no, .no, .no, .no, .no, .no] = some (.nx [.va S, .ow P1, .va (.int p), .no, .no, .no, .no, .no, .no, .no, .no, .no, .no]) := by
    have d1' := d1 (.va S) [.no, .no, .no, .no, .no, .no, .no, .no, .no, .no, .no]
    unfold L1 asg bin
    have et : ∀ e : Ev, eTup (aCons (kE (.int 3)) (aCons (kE (.int 5)) (aCons (kE (.int 7)) (aCons (kE (.int 11)) (aCons (kE (.int 13)) (aCons (kE (.int 17)) (aCons (kE (.int 23)) (aCons (kE (.int 31)) (aCons (kE (.int 41)) aNil))))))))) e = some (.tuple [.int 3, .int 5, .int 7, .int 11, .int 13, .int 17, .int 23, .int 31, .int 41], e) := fun e => by
      simp [eTup, aCons, kE, aNil, hz9]
    simp only [et, d1', ep]
    rfl
  obtain ⟨x3, x4, E2⟩ := stA (.va S) P1 p hp
  obtain ⟨n, hn⟩ : ∃ n : Nat, v2 = n := ⟨v2.toNat, by omega⟩
  subst hn
  have hn40 : n < 40 := by omega
  have E5 : L5 [.va S, .ow P1, .va (.int p), .va x3, .va x4, .no, .no, .no, .no, .no, .no, .no, .no] = some (.nx [.va S, .ow P2, .va (.int p), .va x3, .va x4, .va (.int n), .no, .no, .no, .no, .no, .no, .no]) := by
    unfold L5 asg
    rw [d2]
    rfl
  have E6 : L6 [.va S, .ow P2, .va (.int p), .va x3, .va x4, .va (.int n), .no, .no, .no, .no, .no, .no, .no] = some (.nx [.va S, .ow P2, .va (.int p), .va x3, .va x4, .va (.int n), .va (rowP 0), .no, .no, .no, .no, .no, .no]) := by
    have hz : (1 : Nat) ≤ sizeLine := by decide
    simp [L6, asg, eTup, aCons, kE, aNil, hz, setV, rowP, rowI]
  obtain ⟨k1, hk1, r1⟩ := rows_ok (.va S) (.ow P2) (.va (.int p)) (.va x3) (.va x4) (.va (.int n)) [.no, .no, .no, .no, .no] n 0 .no (.inl rfl) (by omega)
  rw [Nat.zero_add] at r1
  have E7 : L7 [.va S, .ow P2, .va (.int p), .va x3, .va x4, .va (.int n), .va (rowP 0), .no, .no, .no, .no, .no, .no] = some (.nx [.va S, .ow P2, .va (.int p), .va x3, .va x4, .va (.int n), .va (rowP n), k1, .no, .no, .no, .no, .no]) := by
    have hw : ∀ e : Ev, wRng1 (nm 5) (.va S :: .ow P2 :: .va (.int p) :: .va x3 :: .va x4 :: .va (.int n) :: e) = some (rngL 0 n, .va S :: .ow P2 :: .va (.int p) :: .va x3 :: .va x4 :: .va (.int n) :: e) := fun e => by
      exact wr_nat (by omega) rfl
    have z : ((0 : Nat) : Int) = 0 := rfl
    rw [z] at r1
    rw [L7_eq]
    exact sFor_of (hw _) r1
  obtain ⟨k2, hk2, r2⟩ := chks_ok (show p ∈ prs2 from hp) hn40 (.va S) (.ow P2) (.va x3) (.va x4) [.no, .no, .no, .no, .no] (n + 1) 0 k1 hk1 (by omega)
  have E8 : L8 [.va S, .ow P2, .va (.int p), .va x3, .va x4, .va (.int n), .va (rowP n), k1, .no, .no, .no, .no, .no] = some (.nx [.va S, .ow P2, .va (.int p), .va x3, .va x4, .va (.int n), .va (rowP n), k2, .no, .no, .no, .no, .no]) := by
    have hw : ∀ e : Ev, wRng1 (bin pAdd (nm 5) (kE (.int 1))) (.va S :: .ow P2 :: .va (.int p) :: .va x3 :: .va x4 :: .va (.int n) :: e) = some (rngL 0 (n + 1), .va S :: .ow P2 :: .va (.int p) :: .va x3 :: .va x4 :: .va (.int n) :: e) := fun e => by
      exact wr_nat (by omega) rfl
    have z : ((0 : Nat) : Int) = 0 := rfl
    rw [z] at r2
    rw [L8_eq]
    exact sFor_of (hw _) r2
  have E9 : L9 [.va S, .ow P2, .va (.int p), .va x3, .va x4, .va (.int n), .va (rowP n), k2, .no, .no, .no, .no, .no] = some (.nx [.va S, .ow P4, .va (.int p), .va x3, .va x4, .va (.int (1 + v3)), .va (rowP n), k2, .va (.int (2 + v4)), .no, .no, .no, .no]) := by
    have d3' := d3 (.va S) [.va (.int p), .va x3, .va x4, .va (.int n), .va (rowP n), k2, .no, .no, .no, .no, .no]
    have d4' := d4 (.va S) [.va (.int p), .va x3, .va x4, .va (.int n), .va (rowP n), k2, .no, .no, .no, .no, .no]
    have g3 : bin pAdd (kE (.int 1)) (callIO 1 p__law_draw (aCons (kE (.int 14)) aNil)) [.va S, .ow P2, .va (.int p), .va x3, .va x4, .va (.int n), .va (rowP n), k2, .no, .no, .no, .no, .no] = some (.int (1 + v3), [.va S, .ow P3, .va (.int p), .va x3, .va x4, .va (.int n), .va (rowP n), k2, .no, .no, .no, .no, .no]) := by
      unfold bin
      simp only [kE, d3', pAdd_int]
    have g4 : bin pAdd (kE (.int 2)) (callIO 1 p__law_draw (aCons (kE (.int 3)) aNil)) [.va S, .ow P3, .va (.int p), .va x3, .va x4, .va (.int n), .va (rowP n), k2, .no, .no, .no, .no, .no] = some (.int (2 + v4), [.va S, .ow P4, .va (.int p), .va x3, .va x4, .va (.int n), .va (rowP n), k2, .no, .no, .no, .no, .no]) := by
      unfold bin
      simp only [kE, d4', pAdd_int]
    unfold L9 asg2
    have ga : aCons (bin pAdd (kE (.int 1)) (callIO 1 p__law_draw (aCons (kE (.int 14)) aNil))) (aCons (bin pAdd (kE (.int 2)) (callIO 1 p__law_draw (aCons (kE (.int 3)) aNil))) aNil) [.va S, .ow P2, .va (.int p), .va x3, .va x4, .va (.int n), .va (rowP n), k2, .no, .no, .no, .no, .no] = some ([.int (1 + v3), .int (2 + v4)], [.va S, .ow P4, .va (.int p), .va x3, .va x4, .va (.int n), .va (rowP n), k2, .no, .no, .no, .no, .no]) := by
      exact aCons_some g3 (aCons_some g4 rfl)
    simp only [ga]
    rfl
  have hC := c_all (x := 2 + v4) (n := 1 + v3) (by omega) (by omega) (.va S) P4 (.int p) x3 x4 (rowP n) k2
  rw [ML10, ML11, ML12, ML13, ML14] at hC
  obtain ⟨e, hC⟩ := isT_of hC
  have hb : b_law [.va S, .no, .no, .no, .no, .no, .no, .no, .no, .no, .no, .no, .no] = some (.rt (.bool true) e) := by
    rw [b_law_seq, seq1 E0, seq1 E1, seq3 E2, seq1 E5, seq1 E6, seq1 E7, seq1 E8, seq1 E9]
    exact hC
  exact runP_rt ⟨rfl, by decide⟩ hb
end Fx

open PySem PySem.W PySem.Calls PyProof.Rows
theorem PySem.Challenge.cw_numberwright_k60_whole_rings_across_holds : PySem.Challenge.rw_numberwright_k60_whole_rings_across.Holds := by
  exact Fx.holds_of Fx.all_true (by w_witness2)

